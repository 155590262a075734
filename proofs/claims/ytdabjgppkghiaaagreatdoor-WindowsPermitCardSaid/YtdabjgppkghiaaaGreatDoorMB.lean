/-
 What is proved here: every operation that the logic knows,put together,with calls; what an operation leaves. No program in sight; no condition.
-/
import Derived.Test.YtdabjgppkghiaaaGreatDoorMA
set_option linter.all false
open Array renaming ext'→ed,getElem?_eq_some_iff→dM,toList_append→tg,getElem?_eq_none→pU,setIfInBounds_comm→Xk,replicate→fq
open Bool renaming and_eq_true→aq,or_eq_true→xf,not_true→Lc,false_or→xg
open Classical renaming byContradiction→Xl
open Decidable renaming byContradiction→n4
open Function renaming comp_def→K_
open Go.Builtin renaming len_→K9
open Go.Call renaming operands→pT
open Go.Op renaming operands→dU
open Go.Oper renaming wpIn→mF,semAt_eq→lu,apart_spec→CC
open Go.Region renaming wanted→n3,binds→xd,noSelect→Xj,ready→dz
open Go.Result renaming andThen_ok→bH
open Go.Sem renaming run_bind→bG,run_pure→eb
open Go.Value.slice renaming injEq→iM
open List renaming length_cons→dZ,getElem?_append_left→cn,getElem?_set_self→bd,getElem?_set_ne→aJ,all_eq_true→cC,drop_drop→mA,map_map→pP,replicate→cu,mem_cons_self→cW,nodup_cons→gJ,set_comm→kz,range→dV,map_congr_left→pS,any_eq_true→gK,eq_nil_iff_forall_not_mem→Lb,mem_range→e_,set_append_left→CF
open Nat renaming le_refl→aB,lt_of_lt_of_le→cM,lt_or_ge→gr
open Option renaming map_some→eZ
open Option.some renaming injEq→aK,inj→fa
namespace Go.AL
open Go
variable [Dr]
def jY(x:Operand):Bool:=x matches .const _
def yb:AV→AV→Option AV
 |.lit (.int k a),.lit (.int _ b)=>some (.lit (.int k (if b>a then b else a)))
 |_,_=>none
def yc:AV→AV→Option AV
 |.lit (.int k a),.lit (.int _ b)=>some (.lit (.int k (if b<a then b else a)))
 |_,_=>none
def oI(f:AV→AV→Option AV):AV→List AV→Option AV
 |x,[]=>some x
 | x,y::l=>match f x y with
  |some z=>oI f z l
  |none=>none
def MD:List AV→Option AV
 | []=>none
 |x::rest=>oI yb x rest
def ME:List AV→Option AV
 | []=>none
 |x::rest=>oI yc x rest
def uh(k:SK)(x:AV):Option AV :=
 match k,x with
 |.str,.lit (.string s)=>some (.int s.size)
 |.slice _ _ _,.lit (.string _)=>none
 | .slice _ _ _,x=>match tL x with
  |some n=>some (.int n)
  |none=>none
 |_,_=>none
def yd(P:Program)(b:Builtin)(tys:List TypeId)(args:List AV):Option AV :=
 match b with
 | .len=>match tys[0]?,args[0]? with
  |some t,some x=>uh (bJ P t) x
  |_,_=>none
 |.max=>MD args
 |.min=>ME args
 | .cap=>match tys,args with
  | t::_,.lit (.slice none 0 0)::_=>match bJ P t with
   |.slice _ _ _=>some (.int 0)
   |_=>none
  |_,_=>none
 |_=>none
def ye(r:Operand→AV)(fn:Fn)(first caps:Array Operand):Option AV :=
 match fn with
 |.func f=>if first.toList.isEmpty then some (.clo f (caps.toList.map r)) else none
 |_=>none
def yf(P:Program)(r:Operand→AV)(c:Call):Option AV :=
 match c.callee with
 |.builtin b=>yd P b c.argTypes.toList (c.args.toList.map r)
 |_=>none
def fO(P:Program)(r:Operand→AV):Op→Option AV
 |.move x | .assign x=>some (r x)
 | .pick c a b=>match r c with
  |.lit (.bool t)=>some (bif t then r a else r b)
  |_=>none
 | .extract t i=>match r t with
  |.tuple vs=>vs[i]?
  |_=>none
 | .field t x f=>match oh P t f with
  |some k=>xL k (r x)
  |none=>none
 | .fieldAddr t x f=>match oh P t f with
  |some k=>xA k (r x)
  |none=>none
 |.indexAddr t x i=>jn (bJ P t) (r x) (r i)
 |.index t x i=>lC (bJ P t) (r x) (r i)
 |.binOp op t x y _=>fu P op t (jY x||jY y) (r x) (r y)
 |.unOp op _ x=>oA op (r x)
 |.convert s d x=>oB P s d (r x)
 |.build t parts=>xN P t (parts.toList.map fun p=>(p.1,r p.2))
 |.buildSlice t n parts=>oF P t n (parts.toList.map fun p=>(p.1,r p.2))
 |.slice t x lo hi mx=>jo P t (r x) (lo.map r) (hi.map r) (mx.map r)
 |.makeFunc fn first caps=>ye r fn first caps
 | .nilCheck x=>match r x with
  |.ptr id ad k row col=>some (.ptr id ad k row col)
  |.cptr cells=>some (.cptr cells)
  |.clo f caps=>some (.clo f caps)
  |_=>none
 | .makeInterface t _=>match P.underlying t with
  |some (.interface _)=>none
  |some _=>some .ifc
  |none=>none
 |.call c=>yf P r c
 |_=>none
theorem mV{E:Env}{r:Operand→AV}{ρ:Operand→Value}(h:∀ x,rel E (r x) (ρ x)):∀(l:List Operand),ae E (l.map r) (l.map ρ)
 | []=>by simp[ae]
 |x::l=>by simp only[List.map_cons,ae]; exact⟨h x,mV h l⟩
theorem yg{E:Env}{r:Operand→AV}{ρ:Operand→Value}(h:∀ x,rel E (r x) (ρ x))(o:Option Operand):lA E (o.map r) (o.map ρ):=by
 cases o with
 |none=>simp[lA]
 |some x=>simpa[lA]using h x
def fg(E:Env)(v:AV)(u:Value)(w':World):Prop:=Ext E.w w'∧rel { E with w:=w' } v u
theorem fg.same{E:Env}{v:AV}{u:Value}(h:rel E v u):fg E v u E.w:=⟨Ext.refl _,h⟩
theorem iS{P:Program}{s:Sem Value}{w w':World}{u:Value}(h:s.run P w=.ok u w'):(do pure (Next.value (← s)):Sem Next).run P w=.ok (.value u) w':=by
 simp[h]
theorem yh{P:Program}{E:Env}{f:AV→AV→Option AV}{g:Value→Value→Sem Value}
  (b:∀ x y c d z,f x y=some z→rel E x c→rel E y d→∃ u,(g c d).run P E.w=.ok u E.w∧rel E z u) :
  ∀(rest:List AV) (x:AV) (c:Value) (cs:List Value) (v:AV),rel E x c→ae E rest cs→oI f x rest=some v →
   ∃ u,(cs.foldlM g c).run P E.w=.ok u E.w∧rel E v u
 | [],x,c,cs,v,a,hr,h=>by
  cases cs with
  |nil=>simp[oI]at h; subst h; exact⟨c,rfl,a⟩
  |cons _ _=>simp[ae]at hr
 | y::rest,x,c,cs,v,a,hr,h=>by
  cases cs with
  |nil=>simp[ae]at hr
  | cons d cs =>
   simp only[ae]at hr;simp only[oI]at h;split at h
   ·rename_i z i
    obtain⟨u,g1,g2⟩:=b x y c d z i a hr.1;obtain⟨k,g3,g4⟩:=yh b rest z u cs v g2 hr.2 h;exact⟨k,by simp only[List.foldlM_cons,bG,g1,bH]; exact g3,g4⟩
   ·cases h
theorem MF{P:Program}{E:Env}(x y:AV)(c d:Value)(z:AV)(h:yb x y=some z)(a:rel E x c)(b:rel E y d) :
  ∃ u,(Builtin.max2 c d).run P E.w=.ok u E.w∧rel E z u:=by
 unfold yb at h;split at h
 ·cases h
  simp only[rel]at a b;subst a; subst b;exact⟨_,rfl,by simp[rel]⟩
 ·cases h
theorem MG{P:Program}{E:Env}(x y:AV)(c d:Value)(z:AV)(h:yc x y=some z)(a:rel E x c)(b:rel E y d) :
  ∃ u,(Builtin.min2 c d).run P E.w=.ok u E.w∧rel E z u:=by
 unfold yc at h;split at h
 ·cases h
  simp only[rel]at a b;subst a; subst b;exact⟨_,rfl,by simp[rel]⟩
 ·cases h
theorem MH{P:Program}{E:Env}{b:Builtin}{tys:Array TypeId}{ty:TypeId}{consts:Array Bool}{args:List AV}{cargs:Array Value}{v:AV}
  (h:yd P b tys.toList args=some v) (hr:ae E args cargs.toList):∃ u,(builtin b tys ty consts cargs).run P E.w=.ok (.value u) E.w∧rel E v u:=by
 cases b<;>simp only[yd]at h<;>try cases h
 case len =>
  split at h
  case h_2=>cases h
  rename_i t x q B;obtain⟨c,r,a⟩:=kG hr B;have g:tys[0]? = some t:=by simpa using q
  have k:cargs[0]? = some c:=by simpa using r
  unfold uh at h;split at h
  ·rename_i s hk
   cases h;simp only[rel]at a;subst a;refine⟨goInt s.size,?_,by simp[rel,goInt]⟩;simp[builtin,K9,g,k,Sem.aX (mJ hk)]
  ·cases h
  ·rename_i e sz y hk A
   split at h
   ·rename_i n l
    cases h;obtain⟨hu,_⟩:=ft hk;rcases Lw l a with⟨s,rfl,_⟩|⟨base,cap,rfl⟩
    ·exfalso
     unfold tL at l;split at l
     ·rename_i s'
      exact A s' rfl
     all_goals first
      |(simp[rel,db]at a; done)
      |cases l
    ·refine ⟨goInt n, ?_, by simp [rel, goInt]⟩
     simp[builtin,K9,g,k,Sem.aX hu]
   ·cases h
  ·cases h
 case max =>
  cases args with
  |nil=>cases h
  | cons x rest =>
   cases d:cargs.toList with
   |nil=>rw[d]at hr; simp[ae]at hr
   | cons c cs =>
    rw[d]at hr;simp only[ae]at hr;obtain⟨u,g1,g2⟩:=yh (P:=P) MF rest x c cs v hr.1 hr.2 h;refine⟨u,?_,g2⟩;simp[builtin,Builtin.max_,d,g1]
 case min =>
  cases args with
  |nil=>cases h
  | cons x rest =>
   cases d:cargs.toList with
   |nil=>rw[d]at hr; simp[ae]at hr
   | cons c cs =>
    rw[d]at hr;simp only[ae]at hr;obtain⟨u,g1,g2⟩:=yh (P:=P) MG rest x c cs v hr.1 hr.2 h;refine⟨u,?_,g2⟩;simp[builtin,Builtin.min_,d,g1]
 case cap =>
  split at h
  case h_2=>cases h
  rename_i t D as q;obtain⟨c,r,a⟩:=kG (i:=0) hr rfl;have g:tys[0]? = some t:=by
   have:tys.toList[0]? = some t:=by rw[q]; rfl
   simpa using this
  have k:cargs[0]? = some c:=by simpa using r
  simp only[rel]at a;subst a;split at h
  ·rename_i e sz y hk
   cases h;obtain⟨hu,_⟩:=ft hk;refine⟨goInt 0,?_,by simp[rel,goInt]⟩;simp[builtin,Builtin.cap_,g,k,Sem.aX hu]
  ·cases h
theorem MI{P:Program}{E:Env}(HE:ak E){r:Operand→AV}{ρ:Operand→Value}(hr:∀ x,rel E (r x) (ρ x)){o:Oper}{v:AV}(h:fO P r o.op=some v) :
  ∃ u w',(execOp ρ o).run P E.w=.ok (.value u) w'∧fg E v u w':=by
 obtain⟨dst,op,type,pos,after,guard⟩:=o;have same:∀{s:Sem Value},(∃ u,s.run P E.w=.ok u E.w∧rel E v u)→∃ u w',(do pure (Next.value (← s)):Sem Next).run P E.w=.ok (.value u) w'∧fg E v u w':=by
  rintro s ⟨u,g1,g2⟩;exact⟨u,E.w,iS g1,fg.same g2⟩
 cases op<;>simp only[fO]at h<;>try cases h
 case move x=>exact⟨ρ x,E.w,rfl,fg.same (hr x)⟩
 case assign x=>exact⟨ρ x,E.w,rfl,fg.same (hr x)⟩
 case pick c a b =>
  split at h
  ·rename_i t A
   cases h;have l:=hr c;rw[A]at l;simp only[rel]at l;refine⟨if t then ρ a else ρ b,E.w,?_,?_⟩
   ·simp[execOp,l,asBool]
   ·cases t
    ·exact fg.same (hr b)
    ·exact fg.same (hr a)
  ·cases h
 case build t parts =>
  obtain⟨u,g1,g2⟩:=LM (E:=E) (cparts:=parts.toList.map fun p=>(p.1,ρ p.2)) h (by simp) (by
   simp only[pP];have:=mV hr (parts.toList.map (·.2));simpa[pP,K_]using this)
  have e:(parts.toList.map fun p=>(p.1,ρ p.2)).toArray=parts.map fun(i,x)=>(i,ρ x):=by
   apply ed; simp
  rw[e]at g1;exact same ⟨u,g1,g2⟩
 case buildSlice t n parts =>
  obtain⟨u,w',g1,g2,g3⟩:=L4 HE (cparts:=parts.toList.map fun p=>(p.1,ρ p.2)) h (by simp) (by
   simp only[pP];have:=mV hr (parts.toList.map (·.2));simpa[pP,K_]using this)
  have e:(parts.toList.map fun p=>(p.1,ρ p.2)).toArray=parts.map fun(i,x)=>(i,ρ x):=by
   apply ed; simp
  rw[e]at g1;exact⟨u,w',iS g1,g2,g3⟩
 case nilCheck x =>
  have g:=hr x;split at h
  ·rename_i id ad k row col he
   cases h;rw[he]at g;have q:=g;simp only[rel]at q;obtain⟨⟨b,o,l⟩,_⟩:=q;exact⟨ρ x,E.w,by simp[execOp,l],fg.same g⟩
  ·rename_i cells he
   cases h;rw[he]at g;have q:=g;simp only[rel]at q;obtain⟨_,b,o,l,_⟩:=q;exact⟨ρ x,E.w,by simp[execOp,l],fg.same g⟩
  ·rename_i f caps he
   cases h;rw[he]at g;have q:=g;simp only[rel]at q;obtain⟨cs,l,_⟩:=q;exact⟨ρ x,E.w,by simp[execOp,l],fg.same g⟩
  ·cases h
 case binOp op t x y _ =>
  refine same (LH (x:=x) (y:=y) (fun hk=>?_) h (hr x) (hr y));cases x<;>cases y<;>first|rfl|exact hk
 case unOp op _ x=>exact same (LI h (hr x))
 case convert s d x=>exact same (LJ h (hr x))
 case makeInterface t x =>
  split at h
  ·cases h
  ·rename_i d B hu
   cases h;refine same ⟨.iface t (ρ x),?_,by simp only[rel]; exact⟨_,_,rfl⟩⟩;simp only[Instr.makeInterface,bG,Sem.aX hu,bH];cases d<;>first|rfl|(exact(B _ hu).elim)|(exact(B _ rfl).elim)
  ·cases h
 case makeFunc fn first caps =>
  cases fn<;>simp only[ye]at h<;>try cases h
  rename_i f;split at h
  ·rename_i hf
   cases h;refine⟨.func (.func f) (first.map ρ) (caps.map ρ),E.w,rfl,fg.same ?_⟩;simp only[rel];refine⟨caps.map ρ,?_,by simpa using mV hr caps.toList⟩;have:first=#[]:=by
    apply ed;simpa using hf
   simp[this]
  ·cases h
 case slice t x lo hi mx=>exact same (LC h (hr x) (yg hr lo) (yg hr hi) (yg hr mx))
 case fieldAddr t x f =>
  split at h
  ·rename_i k hk; exact same (Ly hk h (hr x))
  ·cases h
 case field t x f =>
  split at h
  ·rename_i k hk; exact same (LL hk h (hr x))
  ·cases h
 case indexAddr t x i=>exact same (Lz HE h (hr x) (hr i))
 case index t x i=>exact same (LK h (hr x) (hr i))
 case extract t i =>
  split at h
  ·rename_i vs A
   have g:=hr t;rw[A]at g;simp only[rel]at g;obtain⟨cs,l,I⟩:=g;obtain⟨u,g1,g2⟩:=kG I h;refine same ⟨u,?_,g2⟩;have D:cs[i]? = some u:=by simpa using g1
   simp[Instr.extract,l,D]
  ·cases h
 case call c =>
  obtain⟨callee,args,argTypes⟩:=c;cases callee<;>simp only[yf]at h<;>try cases h
  rename_i b;obtain⟨u,g1,g2⟩:=MH (P:=P) (E:=E) (b:=b) (tys:=argTypes) (ty:=type) (consts:=args.map fun | .const _=>true|_=>false) (cargs:=args.map ρ) h
   (by simpa using mV hr args.toList)
  exact⟨u,E.w,by simp only[execOp,resolve,bG,eb,bH,invoke]; exact g1,fg.same g2⟩
def ui(P:Program)(r:Operand→AV)(H:List ab)(c:Call):Option (AV × List ab) :=
 match c.callee with
 | .builtin .append=>match c.args.toList,c.argTypes.toList with
  | [s,x],[t,xt]=>match mQ P t xt (r s) (r x) H with
   |some y=>some y
   |none=>oC P t xt (r s) (r x) H
  |_,_=>none
 | .builtin .clear=>match c.args.toList,c.argTypes.toList with
  | [x],[t]=>match qm P t (r x) H with
   |some H'=>some (.tuple [],H')
   |none=>none
  |_,_=>none
 | .builtin .delete=>match c.args.toList,c.argTypes.toList with
  | [x,k],t::_=>match ql P t (r x) (r k) H with
   |some H'=>some (.tuple [],H')
   |none=>none
  |_,_=>none
 |_=>none
def cw(P:Program)(r:Operand→AV)(H:List ab):Op→Option (AV × List ab)
 |.alloc t=>mN P t H
 |.box _ x=>tZ (r x) H
 | .store t a x=>match oE P t (r a) (r x) H with
  |some H'=>some (.undef,H')
  |none=>none
 |.makeSlice t l c=>qh P t (r l) (r c) H
 |.buildSlice t n parts=>qn P t n (parts.toList.map fun p=>(p.1,r p.2)) H
 |.range t x=>ua P t (r x) H
 |.next it isString=>ub (r it) isString H
 |.makeMap _ none=>some (.map H.length,H++[.map [] 0])
 | .mapUpdate t m k v=>match jX P t (r m) (r k) (r v) H with
  |some H'=>some (.undef,H')
  | none=>match mR P t (r m) (r k) (r v) H with
   |some H'=>some (.undef,H')
   | none=>match qs P t (r m) (r k) (r v) H with
    |some H'=>some (.undef,H')
    |none=>none
 | .insert t m k v=>match jX P t (r m) (r k) (r v) H with
  |some H'=>some (.undef,H')
  |none=>none
 | .lookup t m k false=>match eR P t (r m) (r k) false H with
  |some v=>some (v,H)
  |none=>qo P t (r m) (r k) H
 | .mapEntry t m k=>match f_ P t (r m) (r k) H with
  |some y=>some y
  |none=>gO P t (r m) (r k) H
 | .entryStore _ m s x=>match iR (r m) (r s) (r x) H with
  |some H'=>some (.undef,H')
  | none=>match jt (r m) (r s) (r x) H with
   |some H'=>some (.undef,H')
   |none=>none
 |.call c=>ui P r H c
 |_=>none
theorem b_.of_le{E:Env}{w':World}{H':List ab}(h1:ak { w:=w',H:=H',loc:=E.loc,X:=E.X })(a:E.le { w:=w',H:=H',loc:=E.loc,X:=E.X })(u:Value) :
  b_ E .undef H' u w':=⟨E.loc,E.X.r,by simp[rel],h1,a⟩
theorem fg.toOp{E:Env}(HE:ak E){v:AV}{u:Value}{w':World}(h:fg E v u w'):b_ E v E.H u w' :=
 ⟨E.loc,E.X.r,h.2,HE.ext h.1,Env.fK h.1⟩
theorem MJ{P:Program}{E:Env}(HE:ak E){r:Operand→AV}{ρ:Operand→Value}(hr:∀ x,rel E (r x) (ρ x)){o:Oper}{v:AV}{H':List ab}
  (h:cw P r E.H o.op=some (v,H')) :
  ∃ n u w',(execOp ρ o).run P E.w=.ok n w'∧(n=.value u∨n=.skip∧u=undef)∧b_ E v H' u w':=by
 obtain⟨dst,op,type,pos,after,guard⟩:=o;have same:∀{s:Sem Value},(∃ u w',s.run P E.w=.ok u w'∧b_ E v H' u w') →
   ∃ n u w',(do pure (Next.value (← s)):Sem Next).run P E.w=.ok n w'∧(n=.value u∨n=.skip∧u=undef)∧b_ E v H' u w':=by
  rintro s ⟨u,w',g1,g2⟩;exact⟨_,u,w',iS g1,.inl rfl,g2⟩
 cases op<;>simp only[cw]at h<;>try cases h
 case alloc t=>exact same (LW HE h)
 case box t x=>exact same (L1 HE h (hr x))
 case store t a x =>
  split at h
  ·rename_i H1 hs
   cases h;obtain⟨w',g1,g2,g3⟩:=Dh HE hs (hr a) (hr x);exact⟨.skip,undef,w',by simp[execOp,g1],.inr ⟨rfl,rfl⟩,b_.of_le g2 g3 _⟩
  ·cases h
 case makeSlice t l c=>exact same (L3 HE h (hr l) (hr c))
 case buildSlice t n parts =>
  obtain⟨u,w',g1,g2⟩:=Mg HE (cparts:=parts.toList.map fun p=>(p.1,ρ p.2)) h (by simp) (by
   simp only[pP];have:=mV hr (parts.toList.map (·.2));simpa[pP,K_]using this)
  have e:(parts.toList.map fun p=>(p.1,ρ p.2)).toArray=parts.map fun(i,x)=>(i,ρ x):=by
   apply ed; simp
  rw[e]at g1;exact same ⟨u,w',g1,g2⟩
 case range t x=>exact same (L6 HE h (hr x))
 case next it isString=>exact same (L7 HE h (hr it))
 case makeMap t res =>
  cases res with
  |some _=>cases h
  | none =>
   cases h;exact same ⟨_,_,by simp[Instr.makeMap,newObj]; rfl,L9 HE⟩
 case mapUpdate t m k x =>
  split at h
  ·rename_i H1 hs
   cases h;obtain⟨w',g1,g2,g3⟩:=DA HE hs (hr m) (hr k) (hr x);exact⟨.skip,undef,w',by simp[execOp,g1],.inr ⟨rfl,rfl⟩,b_.of_le g2 g3 _⟩
  ·split at h
   ·rename_i H1 hs
    cases h;obtain⟨w',g1,g2⟩:=Mn HE hs (hr m) (hr k) (hr x);exact⟨.skip,undef,w',by simp[execOp,g1],.inr ⟨rfl,rfl⟩,g2 _⟩
   ·split at h
    ·rename_i H1 hs
     cases h;obtain⟨w',g1,g2,g3⟩:=Mz HE hs (hr m) (hr k) (hr x);exact⟨.skip,undef,w',by simp[execOp,g1],.inr ⟨rfl,rfl⟩,b_.of_le g2 g3 _⟩
    ·cases h
 case lookup t m k ok =>
  cases ok with
  |true=>cases h
  | false =>
   simp only[]at h;split at h
   ·rename_i v1 I
    cases h;obtain⟨u,g1,g2⟩:=Dw HE I (hr m) (hr k);exact same ⟨u,_,g1,fg.toOp HE ⟨Ext.refl _,g2⟩⟩
   ·exact same (Mm HE h (hr m) (hr k))
 case mapEntry t m k =>
  split at h
  ·rename_i y d
   cases h;exact same (Mr HE d (hr m) (hr k))
  ·exact same (MA HE h (hr m) (hr k))
 case entryStore t m s x =>
  split at h
  ·rename_i H1 hs
   cases h;obtain⟨w',g1,g2⟩:=Ms (P:=P) (t:=t) HE hs (hr m) (hr s) (hr x);exact⟨.skip,undef,w',by simp[execOp,g1],.inr ⟨rfl,rfl⟩,g2 _⟩
  ·split at h
   ·rename_i H1 hs
    cases h;obtain⟨w',g1,g2⟩:=MC (P:=P) (t:=t) HE hs (hr m) (hr s) (hr x);exact⟨.skip,undef,w',by simp[execOp,g1],.inr ⟨rfl,rfl⟩,g2 _⟩
   ·cases h
 case insert t m k x =>
  split at h
  ·rename_i H1 hs
   cases h;obtain⟨w',g1,g2,g3⟩:=DA HE hs (hr m) (hr k) (hr x);exact⟨.skip,undef,w',by simp[execOp,g1],.inr ⟨rfl,rfl⟩,b_.of_le g2 g3 _⟩
  ·cases h
 case call c =>
  obtain⟨callee,args,argTypes⟩:=c;unfold ui at h;split at h
  ·rename_i b
   simp only[]at b;subst b;simp only[]at h;split at h
   case h_2=>cases h
   rename_i s x t xt q A;have g:args=#[s,x]:=by apply ed; simpa using q
   have B:argTypes=#[t,xt]:=by apply ed; simpa using A
   subst g;subst B;split at h
   ·rename_i y d
    cases h;obtain⟨u,w',g1,g2⟩:=Mf (P:=P) (ty:=type) HE d (hr s) (hr x);refine⟨.value u,u,w',?_,.inl rfl,g2⟩;simp[execOp,resolve,invoke,builtin,g1]
   ·obtain ⟨u, w', g1, g2⟩ := LS (P := P) (ty := type) HE h (hr s) (hr x)
    refine⟨.value u,u,w',?_,.inl rfl,g2⟩;simp[execOp,resolve,invoke,builtin,g1]
  ·rename_i b
   simp only[]at b;subst b;simp only[]at h;split at h
   case h_2=>cases h
   rename_i x t q A;have g:args=#[x]:=by apply ed; simpa using q
   have B:argTypes=#[t]:=by apply ed; simpa using A
   subst g;subst B;split at h
   ·rename_i H1 d
    cases h;obtain⟨w',g1,g2,g3⟩:=Md (P:=P) (ty:=type) (tys:=#[t]) (cs:=#[ρ x]) HE d rfl rfl (hr x);refine⟨.value (.tuple #[]),.tuple #[],w',?_,.inl rfl,E.loc,E.X.r,by simp[rel,ae],g2,g3⟩;simp[execOp,resolve,invoke,builtin,g1]
   ·cases h
  ·rename_i b
   simp only[]at b;subst b;simp only[]at h;split at h
   case h_2=>cases h
   rename_i x k t J q A;have g:args=#[x,k]:=by apply ed; simpa using q
   subst g;split at h
   ·rename_i H1 d
    cases h;have D:argTypes[0]? = some t:=by
     have:argTypes.toList[0]? = some t:=by rw[A]; rfl
     simpa using this
    obtain⟨w',g1,g2,g3⟩:=Mb (P:=P) (ty:=type) (tys:=argTypes) (cs:=#[ρ x,ρ k]) HE d D rfl rfl (hr x) (hr k);refine⟨.value (.tuple #[]),.tuple #[],w',?_,.inl rfl,E.loc,E.X.r,by simp[rel,ae],g2,g3⟩;simp[execOp,resolve,invoke,builtin,g1]
   ·cases h
  ·cases h
def qt(P:Program)(f:FuncId)(args:List AV)(H:List ab)(Q:AV→List ab→Prop):Prop :=
 ∀(E:Env) (cargs:Array Value),E.H=H→ak E→ae E args cargs.toList →
  Calls P f cargs E.w fun e w'=>∃ c v H',e=.returned c∧Q v H'∧b_ E v H' c w'
def dE(P:Program)(f:FuncId)(args:List AV)(v:AV):Prop:=∀ H,qt P f args H fun a H'=>a=v∧H'=H
theorem qt.mono{P:Program}{f:FuncId}{args:List AV}{H:List ab}{Q a:AV→List ab→Prop}(h:qt P f args H Q)(b:∀ v H',Q v H'→a v H'):qt P f args H a :=
 fun E cargs h1 d g=>(h E cargs h1 d g).mono fun _ _ ⟨c,v,H',e,q,r⟩=>⟨c,v,H',e,b v H' q,r⟩
def dY(P:Program)(f:FuncId):Bool :=
 match P.funcs[f]? with
 |some fn => !(fn.name == "runtime.NumGoroutine")&&fn.body.isSome
 |none=>false
theorem yk{P:Program}{f:FuncId}(h:dY P f=true)(args:Array Value)(w:World):(callFunc f args).run P w=.ok (.enter f args) w:=by
 unfold dY at h;split at h
 ·rename_i fn hf
  simp only[aq,Bool.not_eq_true']at h;have h1:fn.name ≠ "runtime.NumGoroutine" := by simpa using h.1
  have a:fn.body≠none:=fun e=>by rw[e]at h; simp at h
  simp[callFunc,hf,h1,a]
 ·cases h
def ym(r:Operand→AV)(c:Call):Option (FuncId × List AV) :=
 match c.callee with
 | .value g=>match r g with
  |.clo f caps=>some (f,c.args.toList.map r++caps)
  |_=>none
 |_=>none
def ga(r:Operand→AV):Op→Option (FuncId × List AV)
 |.call c=>ym r c
 |_=>none
theorem DQ{P:Program}{E:Env}{r:Operand→AV}{ρ:Operand→Value}(hr:∀ x,rel E (r x) (ρ x)){o:Oper}{f:FuncId}{args:List AV}
  (h:ga r o.op=some (f,args)) (b:dY P f=true):∃ cargs:Array Value,(execOp ρ o).run P E.w=.ok (.enter f cargs) E.w∧ae E args cargs.toList:=by
 obtain⟨dst,op,type,pos,after,guard⟩:=o;cases op<;>simp only[ga]at h<;>try cases h
 rename_i c;obtain⟨callee,as,argTypes⟩:=c;cases callee<;>simp only[ym]at h<;>try cases h
 rename_i g;split at h
 case h_2=>cases h
 rename_i l caps d;cases h;have a:=hr g;rw[d]at a;simp only[rel]at a;obtain⟨cs,i,k⟩:=a;refine⟨as.map ρ++cs,?_,?_⟩
 ·simp[execOp,resolve,i,Deferred.ofValue,invoke,yk b]
 ·simp only [tg, Array.toList_map]
  exact iQ (mV hr as.toList) k
end Go.AL

namespace Go.AL
open Go
variable [Dr]
inductive MK where
 |pure|read|write
 deriving DecidableEq
def ML(pf:FuncId→Bool)(c:Call):Bool :=
 match c.argTypes.toList with
 | [t]=>pf (t+1000000)
 |_=>false
def b8(pf:FuncId→Bool):Op→MK
 |.load ..=>.read
 |.lookup t _ _ _=>if pf (t+1500000) then .write else .read
 |.buildSlice t n _=>if pf (t+100000*n+2000000) then .write else .pure
 |.alloc .. | .box .. | .store .. | .makeSlice .. | .mapUpdate .. | .insert .. | .makeMap .. | .mapEntry .. | .entryStore .. | .range .. | .next .. | .entry ..=>.write
 |.go .. | .defer .. | .panic .. | .send .. | .recv .. | .select .. | .makeChan .. | .ready .. | .waits ..=>.write
 | .call c=>match c.callee with
  | .builtin .len=>match ML pf c with
   |true=>.read
   |false=>.pure
  |.builtin .max | .builtin .min | .builtin .cap=>.pure
  |.value (.func f)=>if pf f then .pure else .write
  |_=>.write
 |_=>.pure
def lF(P:Program)(r:Operand→AV)(H:List ab)(c:Call):Option AV :=
 match c.callee,c.args.toList,c.argTypes.toList with
 | .builtin .len,[a],[t]=>match cz P t,r a with
  | some _,.map id=>match H[id]? with
   |some (.map es _)=>some (.int es.length)
   |_=>none
  |_,_=>none
 |_,_,_=>none
theorem MM{P:Program}{E:Env}(HE:ak E){r:Operand→AV}{ρ:Operand→Value}(hr:∀ x,rel E (r x) (ρ x)){o:Oper}{c:Call}{v:AV}(y:o.op=.call c)(h:lF P r E.H c=some v) :
  ∃ u,(execOp ρ o).run P E.w=.ok (.value u) E.w∧rel E v u:=by
 obtain⟨dst,op,type,pos,after,guard⟩:=o;subst y;obtain⟨callee,args,argTypes⟩:=c;unfold lF at h;split at h
 case h_2=>cases h
 rename_i a t g d i;simp only[]at g d i;subst g;have l:args=#[a]:=by apply ed; simpa using d
 have q:argTypes=#[t]:=by apply ed; simpa using i
 subst l;subst q;split at h
 case h_2=>cases h
 rename_i p id A hid;split at h
 case h_2=>cases h
 rename_i es cl hH;cases h;have k:=hr a;rw[hid]at k;obtain⟨b,n,ms,B,h1,D,I⟩:=mO HE hH k;obtain⟨N,O⟩:=p;have J:=(dj.1 I).1;have M:(getObj b).run P E.w=.ok (.map ms cl) E.w:=by simp[getObj,Sem.run,D]
 refine⟨goInt ms.size,?_,by simp[rel,goInt,J]⟩;simp only[execOp,resolve,bG,eb,bH,invoke];simp[builtin,K9,Sem.aX (en A),B,M]
def dF(P:Program)(r:Operand→AV)(H:List ab):Op→Option AV
 |.load t a=>fW P t (r a) H
 | .lookup t m k ok=>match eR P t (r m) (r k) ok H with
  |some v=>some v
  |none=>ir P t (r m) (r k) ok H
 |.call c=>lF P r H c
 |_=>none
theorem MN{P:Program}{E:Env}(HE:ak E){r:Operand→AV}{ρ:Operand→Value}(hr:∀ x,rel E (r x) (ρ x)){o:Oper}{v:AV}(h:dF P r E.H o.op=some v) :
  ∃ u,(execOp ρ o).run P E.w=.ok (.value u) E.w∧rel E v u:=by
 obtain⟨dst,op,type,pos,after,guard⟩:=o;cases op<;>simp only[dF]at h<;>try cases h
 case load t a =>
  obtain⟨u,g1,g2⟩:=CX HE h (hr a);exact⟨u,iS g1,g2⟩
 case lookup t m k ok =>
  split at h
  ·rename_i v1 h1
   cases h;obtain⟨u,g1,g2⟩:=Dw HE h1 (hr m) (hr k);exact⟨u,iS g1,g2⟩
  ·obtain ⟨u, g1, g2⟩ := Mx HE h (hr m) (hr k)
   exact⟨u,iS g1,g2⟩
 case call c=>exact MM HE hr rfl h
def c9(P:Program)(f:FuncId)(args:List AV)(H:List ab)(v:AV)(H':List ab):Prop:=qt P f args H fun v1 H1=>v1=v∧H1=H'
def bz(ops:Array Oper)(fr:List AV)(o:Oper):Option Bool :=
 match o.guard with
 |none=>some true
 | some (j,want)=>match (ops[j]?).bind (·.dst) with
  | some t=>match fr[t]? with
   |some (.lit (.bool b))=>some (b==want)
   |some (.tuple [])=>some false
   |_=>none
  |none=>none
def MO(H:List ab)(v v1:AV)(H1:List ab):Prop :=
 ∃(id ad:Nat) (ks:List Kd) (rows:List (List G)),v=.vec ks.length id ad 0 rows.length∧H[id]? = some (.vec ks.length ad (rows.map (ax ks)))∧v1=.listF ks rows∧H1=H.set id .dead
theorem DR{E:Env}(HE:ak E){id ad:Nat}{ks:List Kd}{rows:List (List G)} (hid:E.H[id]? = some (.vec ks.length ad (rows.map (ax ks)))) {c:Value} (hr:rel E (.vec ks.length id ad 0 rows.length) c) :
  rel { w:=E.w,H:=E.H.set id .dead,loc:=E.loc.set id none,X:=E.X } (.listF ks rows) c:=by
 have hle:=Env.og HE id;have d:=HE.obj id _ hid;rw[gM];simp only[rel]at hr⊢;obtain⟨⟨base,cap,rfl,t,_⟩,_,h⟩:=hr;obtain⟨B,v⟩:=h ⟨_,hid,rfl⟩;have i:dW (rows.map (ax ks)):=by
  intro r hr;obtain⟨g,_,rfl⟩:=List.mem_map.1 hr;exact eO ks g
 refine⟨i,base,cap,by simp,by simpa using t,?_⟩;simp only[aD]at d;rcases d with⟨h1,q⟩|⟨b,mm,h1,q,h,_,y⟩
 ·exact .inl q
 ·obtain ⟨g1, o, g2, g3⟩ := v b mm h1
  by_cases hm:rows=[]
  ·subst hm; exact .inl rfl
  ·right
   have:0<rows.length:=by cases rows with|nil=>exact(hm rfl).elim|cons _ _=>simp
   simp at h;have d:=g2 (by omega);simp at d;subst d;simp only[iM]at g3;refine⟨b,0,g3.1,⟨(HE.lt id b mm h1).1,?_,(HE.lt id b mm h1).2⟩,jk hle.toC _ i rfl y⟩;rintro(⟨j,A,a⟩|⟨l,k,A,a⟩)
   case inr=>exact HE.cd _ _ _ _ _ _ h1 a
   simp only[List.getElem?_set]at a;split at a
   ·split at a<;>cases a
   ·rename_i u
    exact u (HE.inj _ _ _ _ _ h1 a)
def oJ(P:Program)(r:Operand→AV)(H:List ab)(v:AV)(H':List ab):Op→Prop
 |.store t a x=>∃ v1 H1,MO H (r x) v1 H1∧oE P t (r a) v1 H1=some H'∧v=.undef
 |_=>False
theorem MP{P:Program}{r r':Operand→AV}{H:List ab}{v:AV}{H':List ab}(o:Op)(h:∀ x∈o.operands,r x=r' x):oJ P r H v H' o=oJ P r' H v H' o:=by
 cases o<;>try rfl
 rename_i t a x;simp only[oJ];rw[h a (by simp[dU]),h x (by simp[dU])]
theorem MQ{P:Program}{E:Env}(HE:ak E){r:Operand→AV}{ρ:Operand→Value}(hr:∀ x,rel E (r x) (ρ x)){o:Oper}{v:AV}{H':List ab}(h:oJ P r E.H v H' o.op) :
  ∃ w',(execOp ρ o).run P E.w=.ok .skip w'∧b_ E v H' undef w':=by
 obtain⟨dst,op,type,pos,after,guard⟩:=o;cases op<;>try exact h.elim
 rename_i t a x;obtain⟨v1,H1,⟨id,ad,ks,rows,h1,b,rfl,rfl⟩,i,rfl⟩:=h;have d:=hr x;rw[h1]at d;have hle:=Env.og HE id;obtain⟨w',g1,g2,g3⟩:=Dh (E:={ w:=E.w,H:=E.H.set id .dead,loc:=E.loc.set id none,X:=E.X }) (ak.drop HE id fun o g=>by rw[b]at g; cases g; rfl) i (bA hle _ (hr a)) (DR HE b d);have g1:(Instr.storeAt t (ρ a) (ρ x)).run P E.w=.ok () w':=g1;exact⟨w',by simp[execOp,g1],E.loc.set id none,E.X.r,by simp[rel],g2,hle.trans g3⟩
def Yields(P:Program)(pf:FuncId→Bool)(ops:Array Oper)(o:Oper)(s:St)(v:AV)(H':List ab):Prop :=
 match bz ops s.fr o with
 |none=>False
 |some false=>v=.tuple []∧H'=s.H
 | some true=>match b8 pf o.op with
  |.pure=>H'=s.H∧(fO P s.eval o.op=some v∨∃ f args,ga s.eval o.op=some (f,args)∧dY P f=true∧dE P f args v)
  |.read=>H'=s.H∧dF P s.eval s.H o.op=some v
  |.write=>(cw P s.eval s.H o.op=some (v,H')∨∃ f args,ga s.eval o.op=some (f,args)∧dY P f=true∧c9 P f args s.H v H')∨(((∃ t id m,o.op=.alloc t∧lD P t id m s.H=some (v,H'))∨∃ t id,o.op=.makeMap t none∧mP id s.H=some (v,H'))∨oJ P s.eval s.H v H' o.op)
def gP(fr:List AV)(dst:Option Tmp)(v:AV):List AV :=
 match dst with
 |some d=>fr.set d v
 |none=>fr
def St.put(s:St)(dst:Option Tmp)(v:AV)(H':List ab):St:=⟨gP s.fr dst v,H'⟩
theorem uj{E:Env}:∀{as:List AV} {vs:List Value} {a:AV} {v:Value} (d:Nat),ae E as vs→rel E a v→ae E (as.set d a) (vs.set d v)
 | [],[],_,_,_,_,_=>by simp[ae]
 | [],_::_,_,_,_,h,_=>by simp[ae]at h
 |_::_,[],_,_,_,h,_=>by simp[ae]at h
 |_::as,_::vs,a,v,0,h,b=>by simp only[ae]at h; simp only[List.set_cons_zero,ae]; exact⟨b,h.2⟩
 |_::as,_::vs,a,v,d+1,h,b=>by simp only[ae]at h; simp only[List.set_cons_succ,ae]; exact⟨h.1,uj d h.2 b⟩
theorem DS{E E':Env}{s:St}{a:Act}(h:ae E s.fr a.tmps.toList)(hle:E.le E')(dst:Option Tmp){v:AV}{u:Value}(b:rel E' v u) :
  ae E' (gP s.fr dst v) (a.put dst u).tmps.toList:=by
 have h':=cR hle _ h;cases dst with
 |none=>exact h'
 | some d =>
  simp only[gP,Act.put,Array.toList_setIfInBounds];exact uj d h' b
def fz(r:Option Nat):Fence:={ Fence.wide with round:=r }
theorem DT{r:Option Nat}{n:Nat}{P:Program}{f:FuncId}{args:Array Value}{w:World}{R:Ending→World→Prop}(h:Calls P f args w R):CallsIn (fz r) n P f args w R:=(callsIn_wide (n:=n)).2 h
theorem put_defers(a:Act)(dst:Option Tmp)(v:Value):(a.put dst v).defers=a.defers:=by cases dst<;>rfl
theorem DU{ops:Array Oper}{s:St}{E:Env}{a:Act}(h:br s E a){o:Oper}{b:Bool}(hw:bz ops s.fr o=some b) :
  n3 o (yielded ops a.tmps)=b:=by
 unfold bz at hw;unfold n3;cases i:o.guard with
 |none=>rw[i]at hw; simpa using hw
 | some l =>
  obtain⟨j,want⟩:=l;rw[i]at hw;simp only[]at hw⊢;split at hw
  case h_2=>cases hw
  rename_i t k;split at hw
  ·rename_i q g
   cases hw;obtain⟨u,g1,g2⟩:=kG h.fr g;simp only[rel]at g2;subst g2;have d:a.tmps[t]? = some (.bool q):=by simpa using g1
   simp[yielded,k,d]
  ·rename_i g
   cases hw;obtain⟨u,g1,g2⟩:=kG h.fr g;simp only[rel]at g2;obtain⟨cs,rfl,_⟩:=g2;have d:a.tmps[t]? = some (.tuple cs):=by simpa using g1
   simp[yielded,k,d]
  ·cases hw
def dm(E:Env)(s':St)(b:Act)(w':World):Prop :=
 ∃ a r',br s' { w:=w',H:=s'.H,loc:=a,X:=E.X.re r' } b∧E.le { w:=w',H:=s'.H,loc:=a,X:=E.X.re r' }
theorem uk{P:Program}{pf:FuncId→Bool}{ops:Array Oper}{s:St}{E:Env}{a:Act}(hs:br s E a){i:Nat}{o:Oper}(hi:ops[i]? = some o){v:AV}{H':List ab}
  (b:Yields P pf ops o s v H') {K:Act→World→Prop} {Q:Exit→Act→World→Prop} (I:∀ B w',dm E (s.put o.dst v H') B w'→K B w') (ro:Option Nat):wpOpIn (fz ro) 0 P ops Q i K a E.w:=by
 have k:=hs.eval;have hH:=hs.H;have fin:∀{u:Value} {w':World},b_ E v H' u w'→K (a.put o.dst u) w':=by
  rintro u w' ⟨D,r',h1,l,g⟩;exact I _ _ ⟨D,r',⟨rfl,DS hs.fr g o.dst h1,by rw[put_defers]; exact qa hs.heap g hs.defers,l⟩,g⟩
 have pure':H'=s.H→∀{u:Value} {w':World},fg E v u w'→b_ E v H' u w':=by
  intro e u w' q;have:=q.toOp hs.heap;rw[hH,←e]at this;exact this
 have A:(fz ro).depth.isSome=true→1≤0:=fun h=>by cases h
 unfold wpOpIn;simp only[hi];unfold Yields at b;split at b
 ·cases b
 ·rename_i hw
  rw[DU hs hw];simp only[Bool.false_eq_true,if_false];obtain⟨rfl,e⟩:=b;refine⟨fun _ _=>trivial,fin ?_⟩;rw[e,←hH];exact⟨E.loc,E.X.r,by simp only[rel]; exact⟨#[],rfl,by simp[ae]⟩,hs.heap,Env.le.refl E⟩
 ·rename_i hw
  rw[DU hs hw];simp only[if_true];split at b
  ·obtain ⟨e, b⟩ := b
   rcases b with b|⟨f,args,h1,l,g⟩
   ·have d : ∀ c, o.op ≠ .defer c := fun c e => by rw [e] at b; cases b
    obtain⟨u,w',g1,g2⟩:=MI hs.heap k b;unfold mF;rw[lu _ _ _ d,g1];exact⟨fun _ _=>trivial,fin (pure' e g2)⟩
   ·have d : ∀ c, o.op ≠ .defer c := fun c e => by rw [e] at h1; cases h1
    obtain⟨cargs,g1,g2⟩:=DQ k h1 l;unfold mF;rw[lu _ _ _ d,g1];refine⟨fun _ _=>trivial,A,DT ((g s.H E cargs hH hs.heap g2).mono ?_)⟩;rintro _ w' ⟨c,J,H1,rfl,⟨rfl,rfl⟩,q⟩;exact fin (by rw[e]; exact q)
  ·obtain ⟨e, b⟩ := b
   rw[←hH]at b;have d:∀ c,o.op≠.defer c:=fun c e=>by rw[e]at b; cases b
   obtain⟨u,g1,g2⟩:=MN hs.heap k b;unfold mF;rw[lu _ _ _ d,g1];exact⟨fun _ _=>trivial,fin (pure' e (fg.same g2))⟩
  ·rcases b with (b | ⟨f, args, h1, l, g⟩) | (⟨t, id, m, y, b⟩ | ⟨t, id, y, b⟩) | b
   ·have d : ∀ c, o.op ≠ .defer c := fun c e => by rw [e] at b; cases b
    rw[←hH]at b;obtain⟨n,u,w',g1,g2,g3⟩:=MJ hs.heap k b;unfold mF;rw[lu _ _ _ d,g1];rcases g2 with rfl|⟨rfl,rfl⟩
    ·exact⟨fun _ _=>trivial,fin g3⟩
    ·exact⟨fun _ _=>trivial,fin g3⟩
   ·have d : ∀ c, o.op ≠ .defer c := fun c e => by rw [e] at h1; cases h1
    obtain⟨cargs,g1,g2⟩:=DQ k h1 l;unfold mF;rw[lu _ _ _ d,g1];refine⟨fun _ _=>trivial,A,DT ((g E cargs hH hs.heap g2).mono ?_)⟩;rintro _ w' ⟨c,J,H1,rfl,⟨rfl,rfl⟩,q⟩;exact fin q
   ·rw [← hH] at b
    obtain⟨u,w',g1,g2⟩:=L0 hs.heap b;unfold mF;obtain⟨dst,op,type,pos,after,guard⟩:=o;simp only[]at y;subst y;have g3:(execOp a.eval ⟨dst,.alloc t,type,pos,after,guard⟩).run P E.w=.ok (.value u) w':=iS g1;rw[lu _ _ _ (fun c e=>by cases e),g3];exact⟨fun _ _=>trivial,fin g2⟩
   ·rw [← hH] at b
    obtain⟨u,w',g1,g2⟩:=L' (P:=P) (t:=t) hs.heap b;unfold mF;obtain⟨dst,op,type,pos,after,guard⟩:=o;simp only[]at y;subst y;have g3:(execOp a.eval ⟨dst,.makeMap t none,type,pos,after,guard⟩).run P E.w=.ok (.value u) w':=iS g1;rw[lu _ _ _ (fun c e=>by cases e),g3];exact⟨fun _ _=>trivial,fin g2⟩
   ·have d : ∀ c, o.op ≠ .defer c := fun c e => by rw [e] at b; exact b
    rw[←hH]at b;obtain⟨w',g1,g2⟩:=MQ hs.heap k b;unfold mF;rw[lu _ _ _ d,g1];exact⟨fun _ _=>trivial,fin g2⟩
def eT(P:Program)(pf:FuncId→Bool)(ops:Array Oper):List Oper→St→St→Prop
 | [],s,s'=>s'=s
 |o::rest,s,s'=>∃ v H',Yields P pf ops o s v H'∧eT P pf ops rest (s.put o.dst v H') s'
theorem dm.after{E E':Env}{s':St}{a:Act}{w':World}(h:E.le E')(h':dm E' s' a w'):dm E s' a w':=by
 obtain⟨b,r',d,g⟩:=h';refine⟨b,r',?_,?_⟩
 ·rw[←XS.CN h.X]; exact d
 ·rw[←XS.CN h.X]; exact h.trans g
theorem dm.refl{s:St}{E:Env}{a:Act}(h:br s E a):dm E s a E.w:=by
 obtain⟨w,H,loc,X⟩:=E;have:=h.H;simp only at this;subst this;exact⟨loc,X.r,h,Env.le.refl _⟩
theorem um{P:Program}{pf:FuncId→Bool}{ops:Array Oper}{Q:Exit→Act→World→Prop}:∀(l:List Oper) (k:Nat) (s s':St) (E:Env) (a:Act),
  l=ops.toList.drop k→eT P pf ops l s s'→br s E a→(∀ b w',dm E s' b w'→Q .normal b w')→∀ ro:Option Nat,wpOpsIn (fz ro) 0 P ops Q (List.range' k l.length) a E.w
 | [],k,s,s',E,a,_,h,hs,d,ro=>by
  simp only[eT]at h;subst h;exact d _ _ (dm.refl hs)
 | o::l,k,s,s',E,a,g,h,hs,d,ro=>by
  obtain⟨v,H',t,i⟩:=h;simp only[dZ,List.range'_succ];rw[wpOpsIn_cons];have hk:ops[k]? = some o:=by
   have:(ops.toList.drop k)[0]? = some o:=by rw[←g]; rfl
   simpa using this
  refine uk hs hk t (fun b w' u=>?_) ro;obtain⟨q,r',h1,y⟩:=u;refine um l (k+1) _ s' { w:=w',H:=H',loc:=q,X:=E.X.re r' } b ?_ i h1 (fun a2 A r=>d a2 A ?_) ro
  ·rw[←mA,←g]; rfl
  ·exact dm.after y r
/-! ### a in any order -/
def waits(ops:Array Oper):Nat→Nat→Nat→Bool
 |0,_,_=>false
 | n+1,j,i=>match ops[j]? with
  |some o=>o.after.toList.any fun e=>xd .any e&&(e.on==i||waits ops n e.on i)
  |none=>false
def dn:Op→Bool
 |.alloc _=>true
 |.makeMap _ none=>true
 |_=>false
def kM(pf:FuncId→Bool)(x y:Oper):Bool :=
 match b8 pf x.op,b8 pf y.op with
 |.pure,_|_,.pure | .read,.read=>true
 |.read,.write=>dn y.op
 |_,_=>false
def oK(pf:FuncId→Bool)(ops:Array Oper):Bool :=
  Xj ops &&
  (dV ops.size).all fun j=>(match ops[j]? with
    | some a=>(a.after.toList.all fun e => !xd .any e||e.on<j) &&
      ((dV j).all fun i => match ops[i]? with
        |some b=>waits ops ops.size j i||(b.apart ops a&&a.apart ops b&&kM pf b a)
        |none=>true)
    |none=>true)
def mW(P:Program)(pf:FuncId→Bool)(ops:Array Oper)(i:Nat)(K:St→Prop)(s:St):Prop :=
 match ops[i]? with
 |none=>K s
 |some o=>∃ v H',Yields P pf ops o s v H'∧K (s.put o.dst v H')
def jZ(P:Program)(pf:FuncId→Bool)(ops:Array Oper)(s':St):Nat→Array Bool→St→Prop
 |0,listed,s=>dz .any ops listed=[]∧s=s'
 |fuel+1,listed,s=>(dz .any ops listed=[]→s=s')∧∀ i∈dz .any ops listed,mW P pf ops i (jZ P pf ops s' fuel (listed.setIfInBounds i true)) s
theorem uo{P:Program}{pf:FuncId→Bool}{ops:Array Oper}{s':St}{Q:Exit→Act→World→Prop}:∀(fuel:Nat) (listed:Array Bool) (s:St) (E:Env) (a:Act),
  br s E a→jZ P pf ops s' fuel listed s→(∀ d w',dm E s' d w'→Q .normal d w')→∀ ro:Option Nat,wpAnyIn (fz ro) 0 P .any ops Q fuel listed a E.w
 |0,_,s,E,a,hs,h,b,_=>⟨h.1,b _ _ (h.2▸dm.refl hs)⟩
 | fuel+1,listed,s,E,a,hs,h,b,ro=>by
  refine⟨fun h0=>b _ _ (h.1 h0▸dm.refl hs),fun i hi=>?_⟩;have h1:=h.2 i hi;unfold mW at h1;cases g:ops[i]? with
  | none =>
   rw[g]at h1;unfold wpOpIn;simp only[g];exact uo fuel _ s E a hs h1 b ro
  | some o =>
   rw[g]at h1;obtain⟨v,H',q,r⟩:=h1;refine uk hs g q (fun d w' t=>?_) ro;obtain⟨k,r',g1,g2⟩:=t;exact uo fuel _ _ { w:=w',H:=H',loc:=k,X:=E.X.re r' } d g1 r (fun a2 u l=>b a2 u (dm.after g2 l)) ro
theorem MR{ops:Array Oper}{o:Oper}{t:Tmp}(h:Operand.tmp t∈o.op.operands):t∈o.looksAt ops :=
 List.mem_append_left _ (List.mem_filterMap.2 ⟨.tmp t,by simpa using h,rfl⟩)
theorem MS{fr:List AV}{d t:Nat}{v:AV}(h:d≠t):(fr.set d v).getD t .undef=fr.getD t .undef:=by
 simp[List.getD_eq_getElem?_getD,aJ h]
theorem eval_put{ops:Array Oper}{s:St}{o:Oper}{dst:Option Tmp}{v:AV}{H':List ab}(h:∀ d,dst=some d→d∉o.looksAt ops){x:Operand}(b:x∈o.op.operands) :
  (s.put dst v H').eval x=s.eval x:=by
 cases dst with
 |none=>cases x<;>rfl
 | some d =>
  cases x with
  | tmp t =>
   have a:d≠t:=fun e=>h d rfl (e▸MR b);simp only[St.eval,St.put,gP];exact MS a
  |_=>rfl
theorem uq{ops:Array Oper}{fr:List AV}{o:Oper}{dst:Option Tmp}{v:AV}(h:∀ d,dst=some d→d∉o.looksAt ops) :
  bz ops (gP fr dst v) o=bz ops fr o:=by
 cases dst with
 |none=>rfl
 | some d =>
  unfold bz;cases b:o.guard with
  |none=>rfl
  | some i =>
   obtain⟨g,want⟩:=i;simp only[];cases k:(ops[g]?).bind (·.dst)with
   |none=>rfl
   | some t =>
    have a:d≠t:=fun e=>h d rfl (by subst e; simp[Oper.looksAt,b,k]);simp only[gP,aJ a]
theorem MT(fr:List AV){x y:Option Tmp}(v u:AV)(h:∀ d,x=some d→y≠some d):gP (gP fr x v) y u=gP (gP fr y u) x v:=by
 cases x with
 |none=>rfl
 | some d =>
  cases y with
  |none=>rfl
  | some e =>
   have a:d≠e:=fun he=>h d rfl (he▸rfl);simp only[gP];rw[kz _ _ a]
theorem DV{P:Program}{r r':Operand→AV}(o:Op)(h:∀ x∈o.operands,r x=r' x):fO P r o=fO P r' o:=by
 cases o<;>simp only[fO]<;>simp only[dU]at h
 case build t ps =>
  have:(ps.toList.map fun p=>(p.1,r p.2))=ps.toList.map fun p=>(p.1,r' p.2):=pS fun p a=>by
   rw[h p.2 (by simp; exact⟨p.1,by simpa using a⟩)]
  rw[this]
 case buildSlice t n ps =>
  have:(ps.toList.map fun p=>(p.1,r p.2))=ps.toList.map fun p=>(p.1,r' p.2):=pS fun p a=>by
   rw[h p.2 (by simp; exact⟨p.1,by simpa using a⟩)]
  rw[this]
 case makeFunc fn first captured =>
  unfold ye;cases fn<;>try rfl
  have:(captured.toList.map r)=captured.toList.map r':=pS fun x b=>h x (by simp; right; simpa using b);simp only[this]
 case call c =>
  obtain⟨callee,args,argTypes⟩:=c;unfold yf;cases callee<;>try rfl
  have:(args.toList.map r)=args.toList.map r':=pS fun x b=>h x (by simp[pT]; simpa using b);simp only[this]
 case slice t x lo hi mx=>cases lo<;>cases hi<;>cases mx<;>simp_all
 all_goals (first|rfl|(simp_all; done))
theorem DW{P:Program}{r r':Operand→AV}{H:List ab}(o:Op)(h:∀ x∈o.operands,r x=r' x):dF P r H o=dF P r' H o:=by
 cases o<;>simp only[dF]<;>simp only[dU]at h
 case call c =>
  obtain⟨callee,args,argTypes⟩:=c;unfold lF;cases callee<;>try rfl
  split
  ·rename_i a t d b g
   have hm:a∈args:=by
    have:a∈args.toList:=by rw[show args.toList=[a] from b]; simp
    simpa using this
   have:r a=r' a:=h a (by simp[pT]; simpa using hm);simp only[this,d,b,g]
  ·rfl
 all_goals (first|rfl|(simp_all; done))
theorem DX{P:Program}{r r':Operand→AV}{H:List ab}(o:Op)(h:∀ x∈o.operands,r x=r' x):cw P r H o=cw P r' H o:=by
  cases o<;>simp only[cw]<;>simp only[dU]at h
  case buildSlice t n ps =>
    have:(ps.toList.map fun p=>(p.1,r p.2))=ps.toList.map fun p=>(p.1,r' p.2):=pS fun p i=>by
      rw[h p.2 (by simp; exact⟨p.1,by simpa using i⟩)]
    rw[this]
  case call c =>
    obtain⟨callee,args,argTypes⟩:=c;unfold ui;cases callee<;>try rfl
    rename_i b;have d:∀ x,x∈args.toList→r x=r' x:=fun x l=>h x (by simp[pT]; simpa using l);cases b<;>try rfl
    all_goals simp only[]
    all_goals split
    all_goals first
      |rfl
      | (rename_i s x t xt a g
         rw[d s (by rw[a]; simp),d x (by rw[a]; simp)])
      | (rename_i x t a g
         rw[d x (by rw[a]; simp)])
      | (rename_i x k t q a g
         rw[d x (by rw[a]; simp),d k (by rw[a]; simp)])
  case makeMap t res=>cases res<;>rfl
  case lookup t m k ok =>
    cases ok with
    |true=>rfl
    |false=>simp only[h m (by simp),h k (by simp)]
  case mapEntry t m k=>simp only[h m (by simp),h k (by simp)]
  case entryStore t m s x=>simp only[h m (by simp),h s (by simp),h x (by simp)]
  all_goals (first|rfl|(simp_all; done))
theorem DY{r r':Operand→AV}(o:Op)(h:∀ x∈o.operands,r x=r' x):ga r o=ga r' o:=by
 cases o<;>simp only[ga]<;>simp only[dU]at h
 rename_i c;obtain⟨callee,args,argTypes⟩:=c;unfold ym;cases callee<;>try rfl
 rename_i g;have a:r g=r' g:=h g (by simp[pT]);have b:(args.toList.map r)=args.toList.map r':=pS fun x d=>h x (by simp[pT]; right; simpa using d);simp only[a,b]
end Go.AL

namespace Go.AL
open Go
variable [Dr]
variable {P:Program} {pf:FuncId→Bool} {ops:Array Oper}
theorem er{o:Oper}{s s1:St}{v:AV}{H':List ab}(hw:bz ops s1.fr o=bz ops s.fr o)(hr:∀ x∈o.op.operands,s1.eval x=s.eval x)(hH:s1.H=s.H) :
  Yields P pf ops o s1 v H'↔Yields P pf ops o s v H':=by
 unfold Yields;rw[hw,hH,DV o.op hr,DW o.op hr,DX o.op hr,DY o.op hr,MP o.op hr]
theorem qu{o:Oper}{s:St}{v:AV}{H':List ab}(a:b8 pf o.op=.pure)(h:Yields P pf ops o s v H'):H'=s.H∧∀ H2,Yields P pf ops o ⟨s.fr,H2⟩ v H2:=by
 have key:∀ H2:List ab,∀ x∈o.op.operands,St.eval ⟨s.fr,H2⟩ x=s.eval x:=fun H2 x _=>by cases x<;>rfl
 unfold Yields at h;cases hw:bz ops s.fr o with
 |none=>rw[hw]at h; exact h.elim
 | some b =>
  rw[hw]at h;cases b with
  | false =>
   refine⟨h.2,fun H2=>?_⟩;unfold Yields;rw[show bz ops (St.mk s.fr H2).fr o=some false from hw];exact⟨h.1,rfl⟩
  | true =>
   simp only[a]at h;refine⟨h.1,fun H2=>?_⟩;unfold Yields;rw[show bz ops (St.mk s.fr H2).fr o=some true from hw];simp only[a];refine⟨trivial,?_⟩;rw[DV o.op (key H2),DY o.op (key H2)];exact h.2
theorem mX{o:Oper}{s:St}{v:AV}{H':List ab}(a:b8 pf o.op=.read)(h:Yields P pf ops o s v H'):H'=s.H:=by
 unfold Yields at h;simp only[a]at h;split at h
 ·cases h
 ·exact h.2
 ·exact h.1
theorem MU{r:Operand→AV}{H:List ab}{x:ab}{v:AV}:∀{op:Op},dF P r H op=some v→dF P r (H++[x]) op=some v:=by
 have get:∀{i:Nat} {y:ab},H[i]? = some y→(H++[x])[i]? = some y:=by
  intro i y h;rw[cn (List.getElem?_eq_some_iff.1 h).1];exact h
 intro op h;cases op<;>simp only[dF]at h⊢<;>try cases h
 case load t a =>
  unfold fW at h⊢;split at h
  ·rename_i n agg q
   split at h
   ·exact h
   ·rename_i id ad w row col u
    cases hi:H[id]? with
    |none=>rw[hi]at h; cases h
    |some y=>rw[hi]at h; rw[get hi]; exact h
   ·cases h
  ·cases h
 case lookup t m k ok =>
  split at h
  ·rename_i v1 h1
   cases h;have b:eR P t (r m) (r k) ok (H++[x])=some v:=by
    unfold eR at h1⊢;split at h1
    ·rename_i A B id hm g
     cases hi:H[id]? with
     |none=>rw[hi]at h1; cases h1
     |some y=>rw[hi]at h1; rw[get hi]; exact h1
    ·cases h1
   rw[b]
  ·obtain ⟨b, d⟩ := DM (H2 := H ++ [x]) (fun i l es ms cl hi => get hi) h
   rw[d,b]
 case call c =>
  unfold lF at h⊢;split at h
  ·split at h
   ·rename_i id _ _
    cases hi:H[id]? with
    |none=>rw[hi]at h; cases h
    |some y=>rw[hi]at h; rw[get hi]; exact h
   ·cases h
  ·cases h
theorem MV{r:Operand→AV}{H:List ab}{id:Nat}{x y:ab}{v:AV}(hid:H[id]? = some y)(b:(∃ k,y=.vec k 0 [])∨y=.c6):∀{op:Op},dF P r H op=some v→dF P r (H.set id x) op=some v:=by
 have get:∀{i:Nat},i≠id→(H.set id x)[i]? = H[i]? := fun h=>aJ (Ne.symm h);intro op h;cases op<;>simp only[dF]at h⊢<;>try cases h
 case load t a =>
  unfold fW at h⊢;split at h
  ·rename_i n agg u
   split at h
   ·exact h
   ·rename_i i ad w row col A
    by_cases e:i=id
    ·subst e
     rw[hid]at h;rcases b with⟨k,rfl⟩|rfl<;>simp at h
    ·rw [get e]
     exact h
   ·cases h
  ·cases h
 case lookup t m k ok =>
  split at h
  ·rename_i v1 h1
   cases h;have d:eR P t (r m) (r k) ok (H.set id x)=some v:=by
    unfold eR at h1⊢;split at h1
    ·rename_i B D i hm q
     by_cases e:i=id
     ·subst e
      rw[hid]at h1;rcases b with⟨k,rfl⟩|rfl<;>simp at h1
     ·rw [get e]
      exact h1
    ·cases h1
   rw[d]
  ·obtain ⟨d,g⟩:=DM (H2:=H.set id x) (fun i l es ms cl hi=>by
    have e:i≠id:=fun e=>by
     rw[e,hid]at hi;rcases b with⟨k,rfl⟩|rfl<;>cases hi
    rw[get e];exact hi) h
   rw[g,d]
 case call c =>
  unfold lF at h⊢;split at h
  ·split at h
   ·rename_i i _ _
    by_cases e:i=id
    ·subst e
     rw[hid]at h;rcases b with⟨k,rfl⟩|rfl<;>simp at h
    ·rw [get e]
     exact h
   ·cases h
  ·cases h
theorem DZ{P:Program}{t:TypeId}{id:Nat}{m:List (Option (List Kd))}{H H':List ab}{v:AV}(h:lD P t id m H=some (v,H')) :
  ∃ z k,di P t=some z∧H[id]? = some (.vec k 0 [])∧k=z.length∧v=.ptr id 1 k 0 0∧H'=H.set id (.vec k 1 [c8 m z]):=by
 unfold lD at h;split at h
 ·rename_i z k a hid
  split at h
  ·rename_i hk
   cases h;exact⟨z,k,a,hid,hk,rfl,rfl⟩
  ·cases h
 ·cases h
theorem D0{P:Program}{t:TypeId}{id:Nat}{H:List ab}{z:List Value}{k:Nat} (m:List (Option (List Kd))) (a:di P t=some z) (hid:H[id]? = some (.vec k 0 [])) (hk:k=z.length) :
  lD P t id m H=some (.ptr id 1 k 0 0,H.set id (.vec k 1 [c8 m z])):=by
 unfold lD;rw[a,hid];simp only[];rw[if_pos hk]
theorem D1{h g:Oper}{s:St}{v u:AV}{B d:List ab}(h1:h.apart ops g=true)(_h2:g.apart ops h=true)(l:kM pf h g=true)
  (hi:Yields P pf ops h s v B) (D:Yields P pf ops g (s.put h.dst v B) u d) :
  ∃ V,Yields P pf ops g s u V∧Yields P pf ops h (s.put g.dst u V) v d:=by
 obtain⟨W,a2,a3⟩:=CC h1;have J:bz ops (s.put h.dst v B).fr g=bz ops s.fr g:=uq W;have M:∀ H2,bz ops (s.put g.dst u H2).fr h=bz ops s.fr h:=fun H2=>uq a3;have N:∀ x∈g.op.operands,(s.put h.dst v B).eval x=s.eval x:=fun x q=>eval_put W q;have O:∀ H2,∀ x∈h.op.operands,(s.put g.dst u H2).eval x=s.eval x:=fun H2 x q=>eval_put a3 q;unfold kM at l;split at l
 ·-- h only X
  rename_i w;obtain⟨r,g1⟩:=qu w hi;subst r;refine⟨d,(er J N rfl).1 D,?_⟩;exact(er (s1:=s.put g.dst u d) (s:=⟨s.fr,d⟩) (M d) (fun x q=>by rw[O d x q]; cases x<;>rfl) rfl).2 (g1 d)
 ·-- g only X
  rename_i A _;obtain⟨r,g1⟩:=qu A D;have Yc:d=B:=r;subst Yc;refine⟨s.H,?_,?_⟩
  ·have := g1 s.H
   exact(er (s1:=⟨(s.put h.dst v d).fr,s.H⟩) (s:=s) J (fun x q=>by
    have:=N x q;cases x<;>exact this) rfl).1 this
  ·exact(er (s1:=s.put g.dst u s.H) (s:=s) (M s.H) (O s.H) rfl).2 hi
 ·rename_i w A
  have r:=mX w hi;subst r;have e2:=mX A D;have Yd:d=s.H:=e2;subst Yd;exact⟨s.H,(er J N rfl).1 D,(er (s1:=s.put g.dst u s.H) (s:=s) (M s.H) (O s.H) rfl).2 hi⟩
 ·rename_i w A
  have r:=mX w hi;subst r;have a:=(er J N rfl).1 D;refine⟨d,a,?_⟩;have Y:d=s.H∨(∃ x,d=s.H++[x])∨∃ id y x,s.H[id]? = some y∧((∃ k,y=.vec k 0 [])∨y=.c6)∧d=s.H.set id x:=by
   unfold Yields at a;simp only[A]at a;split at a
   ·exact a.elim
   ·exact .inl a.2
   ·rcases a with (a | ⟨f, args, h1, _⟩) | (⟨t, id, m, i, R⟩ | ⟨t, id, i, R⟩) | I
    ·unfold dn at l
     split at l
     ·rename_i t i
      rw[i]at a;simp only[cw,mN]at a;split at a
      ·split at a
       ·cases a; exact .inr (.inl ⟨_,rfl⟩)
       ·cases a
      ·split at a
       ·cases a; exact .inr (.inl ⟨_,rfl⟩)
       ·cases a
     ·rename_i t i
      rw[i]at a;simp only[cw]at a;cases a;exact .inr (.inl ⟨_,rfl⟩)
     ·cases l
    ·unfold dn at l
     split at l
     ·rename_i t i
      rw[i]at h1;cases h1
     ·rename_i t i
      rw[i]at h1;cases h1
     ·cases l
    ·obtain ⟨z, k, _, h2, _, _, U⟩ := DZ R
     exact .inr (.inr ⟨id,_,_,h2,.inl ⟨k,rfl⟩,U⟩)
    ·obtain ⟨h1, _, U⟩ := x5 R
     exact .inr (.inr ⟨id,_,_,h1,.inr rfl,U⟩)
    ·unfold dn at l
     split at l
     ·rename_i t i
      rw[i]at I;exact I.elim
     ·rename_i t i
      rw[i]at I;exact I.elim
     ·cases l
  refine(er (s1:=s.put g.dst u d) (s:=⟨s.fr,d⟩) (M d) (fun x q=>by rw[O d x q]; cases x<;>rfl) rfl).2 ?_;have key:∀ H2:List ab,St.eval ⟨s.fr,H2⟩=s.eval:=fun H2=>by funext x; cases x<;>rfl
  unfold Yields at hi⊢;simp only[w]at hi⊢;cases hw:bz ops s.fr h with
  |none=>rw[hw]at hi; exact hi.elim
  | some b =>
   rw[hw]at hi;cases b with
   |false=>exact⟨hi.1,by simp⟩
   | true =>
    refine⟨by simp,?_⟩;rw[key];rcases Y with rfl|⟨x,rfl⟩|⟨id,y,x,hid,hy,rfl⟩
    ·exact hi.2
    ·exact MU hi.2
    ·exact MV hid hy hi.2
 ·cases l
def yn(ops:Array Oper)(listed:Array Bool)(j:Nat):Prop :=
 ∀ o,ops[j]? = some o→∀ e∈o.after,xd .any e=true→listed.getD e.on false=true
def lG(ops:Array Oper)(listed:Array Bool):Prop:=∀ j,listed.getD j false=true→yn ops listed j
theorem ur{listed:Array Bool}(b:lG ops listed):∀(n j i:Nat),yn ops listed j→waits ops n j i=true→listed.getD i false=true
 |0,_,_,_,h=>by simp[waits]at h
 | n+1,j,i,g,h=>by
  unfold waits at h;split at h
  ·rename_i o k
   rw[gK]at h;obtain⟨e,he,a⟩:=h;simp only[aq,xf,beq_iff_eq]at a;have d:=g o k e (by simpa using he) a.1;rcases a.2 with rfl|hw
   ·exact d
   ·exact ur b n e.on i (b _ d) hw
  ·cases h
theorem uu{listed:Array Bool}{j:Nat}(h:j∈dz .any ops listed):yn ops listed j:=by
 obtain⟨_,o,d,b⟩:=mem_ready.1 h;intro o' a;rw[d]at a;cases a;exact b
theorem qv{listed:Array Bool}(g:lG ops listed){j:Nat}(i:j∈dz .any ops listed):lG ops (listed.setIfInBounds j true):=by
 intro k hk o b e he d;by_cases a:j=k
 ·subst a
  exact getD_set_true (uu i o b e he d)
 ·have:listed.getD k false=true:=by
   have h:=hk;simp[Array.getElem?_setIfInBounds_ne a]at h;simpa using h
  exact getD_set_true (g k this o b e he d)
theorem D2(s:St)(x y:Option Tmp)(v u:AV)(H1 H2 a:List ab)(h:∀ d,x=some d→y≠some d):(s.put x v H1).put y u H2=(s.put y u a).put x v H2:=by
 simp only[St.put,MT s.fr v u h]
theorem yo{listed:Array Bool}{i:Nat}(h:i∈dz .any ops listed):listed.getD i false=false:=by
 obtain⟨h0,_⟩:=mem_ready.1 h;rcases gr i listed.size with h'|h'
 ·simp[h']at h0⊢; exact h0
 ·simp[pU h']at h0
theorem MW{s':St}{i:Nat}{d:Oper}(hi:ops[i]? = some d):∀(fuel:Nat) (listed:Array Bool) (s:St) (v:AV) (H':List ab),lG ops listed →
  (∀ j b,ops[j]? = some b→j≠i→listed.getD j true=false→waits ops ops.size j i=false→d.apart ops b=true∧b.apart ops d=true∧kM pf d b=true) →
  i∈dz .any ops listed→Yields P pf ops d s v H'→jZ P pf ops s' fuel (listed.setIfInBounds i true) (s.put d.dst v H')→jZ P pf ops s' (fuel+1) listed s:=by
 intro fuel
 induction fuel with
 | zero =>
  intro listed s v H' _ _ hr l H;refine⟨fun h=>(by rw[h]at hr; cases hr),fun j g=>?_⟩;by_cases a:j=i
  ·subst a
   unfold mW;simp only[hi];exact⟨v,H',l,H⟩
  ·have := ready_mono g a
   rw[H.1]at this;cases this
 | succ fuel U =>
  intro listed s v H' w r hr l H;refine⟨fun h=>(by rw[h]at hr; cases hr),fun j g=>?_⟩;by_cases a:j=i
  ·subst a
   unfold mW;simp only[hi];exact⟨v,H',l,H⟩
  ·have h1 := H.2 j (ready_mono g a)
   obtain⟨t,b,y,X⟩:=mem_ready.1 g;unfold mW at h1⊢;simp only[y]at h1⊢;obtain⟨u,D,M,J⟩:=h1;have N:waits ops ops.size j i=false:=by
    cases hw:waits ops ops.size j i with
    |false=>rfl
    | true =>
     have:=ur w _ _ _ (uu g) hw;rw[yo hr]at this;cases this
   obtain⟨I,a2,a3⟩:=r j b y a t N;obtain⟨q,V,W⟩:=D1 I a2 a3 l M;refine⟨u,q,V,?_⟩;refine U (listed.setIfInBounds j true) (s.put b.dst u q) v D (qv w g) ?_ (ready_mono hr (Ne.symm a)) W ?_
   ·intro k ok hk O A R
    refine r k ok hk O ?_ R;by_cases B:j=k
    ·subst B; exact t
    ·rw[getD_set_ne true B]at A; exact A
   ·rw [Xk _ _ a]
    have:=D2 s d.dst b.dst v u H' D q (CC I).2.1;rw[←this];exact J
theorem D3{s':St}(u:oK pf ops=true):∀(l:List Oper) (k:Nat) (listed:Array Bool) (s:St),l=ops.toList.drop k→lG ops listed→listed.size=ops.size →
  (∀ j,j<ops.size→(listed.getD j true=false↔k≤j))→eT P pf ops l s s'→jZ P pf ops s' l.length listed s
 | [],k,listed,s,g,_,r,hk,h=>by
  simp only[eT]at h;refine⟨?_,h.symm⟩;apply Lb.2;intro j a;obtain⟨h0,o,I,_⟩:=mem_ready.1 a;have d:j<ops.size:=(dM.1 I).1;have:=(hk j d).1 h0;have hlen:(ops.toList.drop k).length=0:=by rw[←g]; rfl
  simp at hlen;omega
 | o::l,k,listed,s,g,t,r,hk,h=>by
  obtain⟨v,H',J,A⟩:=h;have h0:ops[k]? = some o:=by
   have:(ops.toList.drop k)[0]? = some o:=by rw[←g]; rfl
   simpa using this
  have d:k<ops.size:=(dM.1 h0).1;simp only[oK,aq,cC,e_]at u;obtain⟨_,i⟩:=u;have y:∀ j,j<k→listed.getD j false=true:=by
   intro j a;have w:¬ (listed.getD j true=false):=fun e=>by have:=(hk j (by omega)).1 e; omega
   have:j<listed.size:=by omega
   simp[this]at w⊢;exact w
  have q:k∈dz .any ops listed:=by
   refine mem_ready.2 ⟨(hk k d).2 (aB _),o,h0,fun e he M=>?_⟩;have:=i k d;rw[h0]at this;simp only[aq,cC]at this;have h1:=this.1 e (by simpa using he);simp only[M,Lc,xg,decide_eq_true_eq]at h1;exact y e.on h1
  refine MW h0 l.length listed s v H' t ?_ q J ?_
  ·intro j R a N B D
   have b:j<ops.size:=(dM.1 a).1;have O:k≤j:=(hk j b).1 B;have:=i j b;rw[a]at this;simp only[aq,cC,e_]at this;have h1:=this.2 k (by omega);rw[h0]at h1;simp only[D,xg,aq]at h1;exact⟨h1.1.1,h1.1.2,h1.2⟩
  ·refine D3 (by simp only [oK, aq, cC, e_]; exact ⟨‹_›, i⟩) l (k + 1) _ _ ?_ (qv t q) (by simpa using r) ?_ A
   ·rw[←mA,←g]; rfl
   ·intro j b
    by_cases e:k=j
    ·subst e
     have:k<listed.size:=by omega
     simp[this]
    ·rw [getD_set_ne true e, hk j b]
     omega
theorem MX{id:Nat}{s s':St}{E:Env}{a:Act}{Q:Exit→Act→World→Prop}(hm:P.follows .mixedOrders=true)(i:oK pf ops=true)(hs:br s E a)
  (h:eT P pf ops ops.toList s s') (k:∀ b w',dm E s' b w'→Q .normal b w'):∀ ro:Option Nat,(Code.region id ops true).wpIn (fz ro) 0 P Q a E.w:=by
 intro ro;have g:br s { E with w:={ E.w with drawn:=E.w.drawn+1 } } a:=⟨hs.H,cR (Env.fK (Ext.drawn E.w _)) _ hs.fr,qa hs.heap (Env.fK (Ext.drawn E.w _)) hs.defers,hs.heap.ext (Ext.drawn E.w _)⟩
 refine wpIn_region_any hm (uo (pf:=pf) _ _ s { E with w:={ E.w with drawn:=E.w.drawn+1 } } a g ?_ (fun b w' l=>k b w' (dm.after (Env.fK (Ext.drawn E.w _)) l)) ro);have:=D3 (P:=P) (s':=s') i ops.toList 0 (fq ops.size false) s (by simp) (by
  intro j d;exfalso;rcases gr j ops.size with h'|h'
  ·simp[h']at d
  ·simp[pU (xs:=fq ops.size false) (by simpa using h')]at d) (by simp) (by intro j d; simp[d]) h
 simpa using this
theorem D4{id:Nat}{s s':St}{E:Env}{a:Act}{Q:Exit→Act→World→Prop}(hs:br s E a)
  (h:eT P pf ops ops.toList s s') (d:∀ b w',dm E s' b w'→Q .normal b w'):∀ ro:Option Nat,(Code.region id ops false).wpIn (fz ro) 0 P Q a E.w:=by
 intro ro;refine wpIn_region ?_;have:=um (Q:=Q) ops.toList 0 s s' E a (by simp) h hs d ro;rw[List.range_eq_range'];simpa using this
end Go.AL

namespace Go.AL
open Go
variable [Dr]
inductive bt where
 |normal
 |exit (id:Nat)
 |ret
 deriving DecidableEq
def bt.toExit:bt→Exit
 |.normal=>.normal
 |.exit id=>.exit id
 |.ret=>.ret
structure Env.cO (m:Nat) (E E':Env):Prop where
 past:∀ id,id<m→E.past id 0→E'.past id 0
 size:E.w.heap.size≤E'.w.heap.size
 same:∀ b,b<E.w.heap.size→¬ E.own b→E'.w.heap[b]? = E.w.heap[b]?
 own:∀ b,b<E.w.heap.size→¬ E.own b→¬ E'.own b
 live:∀ id,id<m→E.past id 0→E'.live id 0→E.live id 0∧E'.loc[id]? = E.loc[id]?
 X:∀ b,b<E.w.heap.size→(E'.X b↔E.X b)∧(E'.X.z b↔E.X.z b)
 rl:∀ l h,h<(E.X.r l).length→h<(E'.X.r l).length∧∀ q,(E'.X.r l)[h]? = some (some q)→(E.X.r l)[h]? = some (some q)
 env:c7 E.w E'.w
 grow:∀ id,id<m→∀ l o,E.H[id]? = some o→o.cF=some l→E'.live id 0→(∃ t,E'.X.r l=E.X.r l++t)∧∃ o',E'.H[id]? = some o'∧o'.cF=some l
theorem Env.le.toM{m:Nat}{E E':Env}(h:E.le E'):E.cO m E':=⟨fun id _ a=>h.past id 0 a,h.size,h.same,h.own,fun id _ a d=>h.live id 0 a d,fun b _=>by rw[show E'.X.x=E.X.x from h.X.1,show E'.X.z=E.X.z from h.X.2]; exact⟨Iff.rfl,Iff.rfl⟩,h.rl,h.env,fun id _ l o h1 g i=>h.grow id l o h1 g i⟩
def uv(H:List ab):Prop:=∀ o∈H,o.aw = some 0
theorem Env.cO.full{m:Nat}{E E':Env}(h:E.cO m E')(g:E'.X.x=E.X.x∧E'.X.z=E.X.z)(hm:E.H.length≤m)(hf:uv E.H):E.le E':=by
 have key:∀ id ad,E.past id ad→id<m∧ad=0:=by
  rintro id ad ⟨o,b,i⟩;have h1:=az b;have d:=i.2 0 (hf o (List.mem_of_getElem? b));exact⟨by omega,by omega⟩
 refine⟨fun id ad a=>?_,h.size,h.same,h.own,fun id ad a k=>?_,g,h.rl,h.env,fun id l o h1 d q=>h.grow id (cM (az h1) hm) l o h1 d q⟩
 ·obtain ⟨h1, rfl⟩ := key id ad a
  exact h.past id h1 a
 ·obtain ⟨h1, rfl⟩ := key id ad a
  exact h.live id h1 a k
theorem Env.cO.trans{m:Nat}{E E' y:Env}(h:E.cO m E')(h':E'.cO m y):E.cO m y where
 past:=fun id hi k=>h'.past id hi (h.past id hi k)
 size:=Nat.le_trans h.size h'.size
 same:=fun b a g=>by rw[h'.same b (cM a h.size) (h.own b a g),h.same b a g]
 own:=fun b a g=>h'.own b (cM a h.size) (h.own b a g)
 live:=fun id hi hid I=>by
  obtain⟨r,a2⟩:=h'.live id hi (h.past id hi hid) I;obtain⟨b1,u⟩:=h.live id hi hid r;exact⟨b1,by rw[a2,u]⟩
 X:=fun b a=>by
  have h1:=h'.X b (cM a h.size);have d:=h.X b a;exact⟨h1.1.trans d.1,h1.2.trans d.2⟩
 rl:=fun l i hi=>by
  obtain⟨r,a2⟩:=h.rl l i hi;obtain⟨b1,u⟩:=h'.rl l i r;exact⟨b1,fun q J=>a2 q (u q J)⟩
 env:=h.env.trans h'.env
 grow:=fun id hi l o h1 d w=>by
  have k:E.past id 0:=⟨o,h1,ab.xm d,fun v w=>Nat.zero_le _⟩
  obtain⟨A,_⟩:=h'.live id hi (h.past id hi k) w;obtain⟨⟨t,M⟩,o',g1,g2⟩:=h.grow id hi l o h1 d A;obtain⟨⟨t',B⟩,D,g3,g4⟩:=h'.grow id hi l o' g1 g2 w;exact⟨⟨t++t',by rw[B,M,List.append_assoc]⟩,D,g3,g4⟩
def cT(m:Nat)(E:Env)(s':St)(b:Act)(w':World):Prop :=
 ∃ a X',br s' { w:=w',H:=s'.H,loc:=a,X:=X' } b∧E.cO m { w:=w',H:=s'.H,loc:=a,X:=X' }
theorem dm.toM{m:Nat}{E:Env}{s':St}{a:Act}{w:World}(h:dm E s' a w):cT m E s' a w:=let ⟨loc,r,h1,b⟩:=h; ⟨loc,E.X.re r,h1,b.toM⟩
theorem cT.after{m:Nat}{E E':Env}{s':St}{a:Act}{w':World}(h:E.cO m E')(h':cT m E' s' a w'):cT m E s' a w':=by
 obtain⟨b,X',h1,d⟩:=h';exact⟨b,X',h1,h.trans d⟩
theorem cT.refl{m:Nat}{s:St}{E:Env}{a:Act}(h:br s E a):cT m E s a E.w:=(dm.refl h).toM
def eH:Code→Bool
 |.seq a b=>eH a&&eH b
 |.cond _ a b=>eH a&&eH b
 |.block _ c=>eH c
 |.loop c=>eH c
 |.scope c=>eH c
 |.rangeFunc ..=>false
 |_=>true
def dv(ro:Option Nat)(c:Code):Prop:=ro=none∨eH c=true
theorem dv.seq1{ro:Option Nat}{a b:Code}(h:dv ro (.seq a b)):dv ro a:=h.imp id fun h=>by
 have h:(eH a&&eH b)=true:=h;exact(aq _ _▸h).1
theorem dv.D5{ro:Option Nat}{a b:Code}(h:dv ro (.seq a b)):dv ro b:=h.imp id fun h=>by
 have h:(eH a&&eH b)=true:=h;exact(aq _ _▸h).2
theorem dv.cond{ro:Option Nat}{o:Operand}{a b:Code}(t:Bool)(h:dv ro (.cond o a b)):dv ro (if t then a else b):=h.imp id fun h=>by
 have h:(eH a&&eH b)=true:=h;cases t
 ·exact(aq _ _▸h).2
 ·exact(aq _ _▸h).1
theorem dv.block{ro:Option Nat}{i:Nat}{a:Code}(h:dv ro (.block i a)):dv ro a:=h
theorem dv.loop{ro:Option Nat}{a:Code}(h:dv ro (.loop a)):dv ro a:=h
theorem yp(c:Code):dv none c:=.inl rfl
def cq(P:Program)(m:Nat)(c:Code)(s:St)(x:bt)(s':St):Prop :=
 ∀(ro:Option Nat),dv ro c→∀(E:Env) (a:Act),br s E a→c.wpIn (fz ro) 0 P (fun e b d=>e=x.toExit∧cT m E s' b d) a E.w
def a7(m:Nat)(s s':St):Prop:=∀(E:Env) (a:Act),br s E a→cT m E s' a E.w
theorem a7.refl{m:Nat}(s:St):a7 m s s:=fun _ _ h=>cT.refl h
theorem a7.trans{m:Nat}{s s1 s2:St}(h:a7 m s s1)(h':a7 m s1 s2):a7 m s s2:=fun E a hs=>by
 obtain⟨loc,X,h1,b⟩:=h E a hs;exact cT.after b (h' _ a h1)
theorem cT.weaken{m:Nat}{E:Env}{s s':St}{a:Act}{w:World}(h:cT m E s a w)(hle:a7 m s s'):cT m E s' a w:=by
 obtain⟨loc,X,h1,b⟩:=h;exact cT.after b (hle _ a h1)
section rules
variable {P:Program} {m:Nat} {s s' s1:St} {x:bt}
theorem oL{c:Code}(hle:a7 m s s1)(h:cq P m c s1 x s'):cq P m c s x s':=fun ro b E a hs=>by
 obtain⟨loc,X,h1,d⟩:=hle E a hs;exact wpIn_mono (h ro b { w:=E.w,H:=s1.H,loc:=loc,X:=X } a h1) fun e k l ⟨g,i⟩=>⟨g,cT.after d i⟩
theorem lH{c:Code}(h:cq P m c s x s1)(hle:a7 m s1 s'):cq P m c s x s':=fun ro b E a hs =>
 wpIn_mono (h ro b E a hs) fun _ _ _ ⟨d,g⟩=>⟨d,g.weaken hle⟩
theorem MY:cq P m .skip s .normal s:=fun _ _ _ _ hs=>wpIn_skip ⟨rfl,cT.refl hs⟩
theorem MZ:cq P m .ret s .ret s:=fun _ _ _ _ hs=>wpIn_ret ⟨rfl,cT.refl hs⟩
theorem M0{id:Nat}:cq P m (.exit id) s (.exit id) s:=fun _ _ _ _ hs=>wpIn_exit ⟨rfl,cT.refl hs⟩
theorem M1{pf:FuncId→Bool}{id:Nat}{ops:Array Oper}{draw:Bool}(hm:P.follows .mixedOrders=true)(d:draw=true→oK pf ops=true)(h:eT P pf ops ops.toList s s') :
  cq P m (.region id ops draw) s .normal s':=fun ro i E a hs=>by
 cases draw with
 |false=>exact D4 hs h (fun g w' b=>⟨rfl,b.toM⟩) ro
 |true=>exact MX hm (d rfl) hs h (fun g w' b=>⟨rfl,b.toM⟩) ro
theorem uw{c d:Code}(h:cq P m c s .normal s1)(h':cq P m d s1 x s'):cq P m (.seq c d) s x s':=fun ro b E a hs =>
 wpIn_seq (wpIn_mono (h ro b.seq1 E a hs) fun e g u ⟨i,k⟩=>by
  subst i;obtain⟨loc,X,l,q⟩:=k;exact wpIn_mono (h' ro b.D5 _ g l) fun _ _ _ ⟨r,t⟩=>⟨r,cT.after q t⟩)
theorem D6{c d:Code}(h:cq P m c s x s')(g:x≠.normal):cq P m (.seq c d) s x s':=fun ro i E a hs =>
 wpIn_seq (wpIn_mono (h ro i.seq1 E a hs) fun e l q ⟨k,b⟩=>by
  subst k;cases x with
  |normal=>exact(g rfl).elim
  |exit id=>exact⟨rfl,b⟩
  |ret=>exact⟨rfl,b⟩)
theorem D7{o:Operand}{c d:Code}{b:Bool}(g:s.eval o=.lit (.bool b))(h:cq P m (if b then c else d) s x s'):cq P m (.cond o c d) s x s':=fun ro i E a hs=>by
 have:=hs.eval o;rw[g]at this;simp only[rel]at this;exact wpIn_cond this (h ro (i.cond b) E a hs)
def bt.inBlock(id:Nat):bt→bt
 |.exit i=>if i=id then .normal else .exit i
 |x=>x
theorem D8{id:Nat}{c:Code}(h:cq P m c s x s'):cq P m (.block id c) s (x.inBlock id) s':=fun ro d E a hs =>
 wpIn_block (wpIn_mono (h ro d E a hs) fun e k l ⟨g,b⟩=>by
  subst g;cases x with
  |normal=>exact⟨rfl,b⟩
  | exit i =>
   simp only[bt.toExit,Exit.inBlock,bt.inBlock];split
   ·exact⟨rfl,b⟩
   ·exact⟨rfl,b⟩
  |ret=>exact⟨rfl,b⟩)
def yq(P:Program)(m:Nat)(c:Code):Nat→St→bt→St→Prop
 |0,s,x,s'=>x≠.normal∧cq P m c s x s'
 |n+1,s,x,s'=>∃ s1,cq P m c s .normal s1∧yq P m c n s1 x s'
def iT(P:Program)(m:Nat)(c:Code)(s:St)(x:bt)(s':St):Prop:=∃ n,yq P m c n s x s'
theorem iT.stop{c:Code}(h:cq P m c s x s')(a:x≠.normal):iT P m c s x s':=⟨0,a,h⟩
theorem iT.next{c:Code}(h:cq P m c s .normal s1)(h':iT P m c s1 x s'):iT P m c s x s':=let ⟨n,a⟩:=h'; ⟨n+1,s1,h,a⟩
theorem iT.pre{c:Code}(hle:a7 m s s1)(h:iT P m c s1 x s'):iT P m c s x s':=by
 obtain⟨n,a⟩:=h;cases n with
 |zero=>exact⟨0,a.1,oL hle a.2⟩
 | succ n =>
  obtain⟨s2,h1,b⟩:=a;exact⟨n+1,s2,oL hle h1,b⟩
theorem D9{c:Code}(h:iT P m c s x s'):cq P m (.loop c) s x s':=fun ro B E a hs b k cs A i hr=>by
 obtain⟨n,M⟩:=h;have key:∀(n:Nat) (s1:St) (d:Env) (a:Act),br s1 d a→E.cO m d→yq P m c n s1 x s' →
   ∃ e l w',(e=x.toExit∧cT m E s' l w')∧ArrivesIn (Machine.fenced P (fz ro)) P (lone (b.atR a (.code c::.inLoop c::k)) cs d.w) b k cs e l w':=by
  intro n
  induction n with
  | zero =>
   intro s1 d a u hle r;obtain⟨Y,t⟩:=r;obtain⟨e,v,D,⟨q,N⟩,g⟩:=t ro B.loop d a u b (.inLoop c::k) cs A i hr;refine⟨e,v,D,⟨q,cT.after hle N⟩,?_⟩;subst q;exact .pass (x:=.inLoop c) rfl (fun _ _=>.inl (by cases x<;>simp_all[bt.toExit])) g
  | succ n O =>
   intro s1 d a u hle r;obtain⟨s2,t,I⟩:=r;obtain⟨e,v,D,⟨q,loc,X,R,U⟩,g⟩:=t ro B.loop d a u b (.inLoop c::k) cs A i hr;subst q;obtain⟨V,a2,W,y,J⟩:=O s2 _ v R (hle.trans U) I;exact⟨V,a2,W,y,.of_steps (StepsIn.trans g (.one (fenced_calm i hr rfl) stepR_inLoop)) J⟩
 obtain⟨e,l,w',y,g⟩:=key n s E a hs (Env.le.refl E).toM M;exact⟨e,l,w',y,.of_steps (.one (fenced_calm i hr rfl) stepR_loop) g⟩
end rules
def ux(P:Program)(s:St):ResultVar→Option AV
 |.tmp t=>some (s.fr.getD t .undef)
 |.cell a t=>fW P t (s.fr.getD a .undef) s.H
def gb(P:Program)(s:St):List ResultVar→Option (List AV)
 | []=>some []
 | r::rs=>match ux P s r,gb P s rs with
  |some v,some vs=>some (v::vs)
  |_,_=>none
def cH:List AV→AV
 | [v]=>v
 |vs=>.tuple vs
def yr(tmps:Array Value):ResultVar→Sem Value
 |.tmp t=>pure (tmps.getD t undef)
 |.cell a t=>do loadVar t (← asAddr (tmps.getD a undef))
theorem M2{P:Program}{s:St}{E:Env}{a:Act}(hs:br s E a){r:ResultVar}{v:AV}(h:ux P s r=some v) :
  ∃ u,(yr a.tmps r).run P E.w=.ok u E.w∧rel E v u:=by
 cases r with
 | tmp t =>
  simp only[ux,aK]at h;subst h;exact⟨_,rfl,hs.eval (.tmp t)⟩
 | cell x t =>
  simp only[ux]at h;rw[←hs.H]at h;have d:=hs.eval (.tmp x);simp only[St.eval,Act.eval]at d;obtain⟨u,g1,g2⟩:=CX hs.heap h d;refine⟨u,?_,g2⟩;have i:∃ b o,a.tmps.getD x undef=.pointer (some ⟨b,o,none⟩):=by
   unfold fW at h;split at h
   case h_2=>cases h
   split at h
   ·rename_i g
    rw[g]at d;simp only[rel]at d;obtain⟨_,b,o,e,_⟩:=d;exact⟨b,o,e⟩
   ·rename_i g
    rw[g]at d;simp only[rel]at d;obtain⟨⟨b,o,e⟩,_⟩:=d;exact⟨b,o,e⟩
   ·cases h
  obtain⟨b,o,e⟩:=i;show (do loadVar t (← asAddr (a.tmps.getD x undef)):Sem Value).run P E.w=.ok u E.w
  rw[e]at g1⊢;simpa[Instr.loadAt,Instr.sureAddr,asAddr]using g1
theorem uy{P:Program}{s:St}{E:Env}{a:Act}(hs:br s E a):∀(rs:List ResultVar) (vs:List AV),gb P s rs=some vs →
  ∃ us:List Value,(rs.mapM (yr a.tmps)).run P E.w=.ok us E.w∧ae E vs us
 | [],vs,h=>by simp[gb]at h; subst h; exact⟨[],rfl,by simp[ae]⟩
 | r::rs,vs,h=>by
  simp only[gb]at h;split at h
  case h_2=>cases h
  rename_i v b h1 d;cases h;obtain⟨u,g1,g2⟩:=M2 hs h1;obtain⟨us,g3,g4⟩:=uy hs rs b d;refine⟨u::us,?_,by simp only[ae]; exact⟨g2,g4⟩⟩;simp only[List.mapM_cons,bG];rw[g1];simp only[bH];rw[g3];rfl
theorem uz(fn:Func)(tmps:Array Value):results fn tmps=(do let vs ← fn.results.mapM (yr tmps); pure (if h:vs.size=1 then vs[0] else .tuple vs)):=by
 unfold results;congr 1
theorem M3{P:Program}{fn:Func}{s:St}{E:Env}{a:Act}(hs:br s E a){vs:List AV}(h:gb P s fn.results.toList=some vs) :
  ∃ u,(results fn a.tmps).run P E.w=.ok u E.w∧rel E (cH vs) u:=by
 obtain⟨us,g1,g2⟩:=uy hs fn.results.toList vs h;refine⟨if h:us.toArray.size=1 then us.toArray[0] else .tuple us.toArray,?_,?_⟩
 ·rw [uz]
  simp only[bG];rw[Array.mapM_eq_mapM_toList,Sem.run_map,g1];rfl
 ·have b := fb g2
  cases us with
  | nil =>
   cases vs with
   |nil=>simp[cH,rel,ae]
   |cons _ _=>simp at b
  | cons u us =>
   cases us with
   | nil =>
    cases vs with
    |nil=>simp at b
    | cons v vs =>
     cases vs with
     |nil=>simp only[ae]at g2; simpa[cH]using g2.1
     |cons _ _=>simp at b
   | cons d us =>
    cases vs with
    |nil=>simp at b
    | cons v vs =>
     cases vs with
     |nil=>simp at b
     | cons v2 vs =>
      simp only[cH,rel];exact⟨(u::d::us).toArray,by simp,g2⟩
def gQ(args:List AV)(n:Nat):List AV:=args++cu (n-args.length) .undef
theorem qw{E:Env}:∀(vs:List Value),ae E (cu vs.length .undef) vs
 | []=>by simp[ae]
 |_::vs=>by simp only[dZ,List.replicate_succ,ae,rel]; exact⟨trivial,qw vs⟩
structure fv (E E':Env):Prop where
 H:E'.H=E.H
 loc:E'.loc=E.loc
 size:E.w.heap.size≤E'.w.heap.size
 same:∀ b,b<E.w.heap.size→¬ E.X b→¬ E'.X b∧E'.w.heap[b]? = E.w.heap[b]?
 X:∀ b,E'.X b→b<E'.w.heap.size
 r:E'.X.r=E.X.r
theorem fv.own{E E':Env}(h:fv E E')(b:Nat):E'.own b↔E.own b:=by unfold Env.own Env.sat; rw[h.loc,h.r]
theorem fv.toC{E E':Env}(h:fv E E'):E.bh E' :=
 ⟨fun b a=>⟨⟨cM a.1 h.size,fun d=>a.2.1 ((h.own b).1 d),(h.same b a.1 a.2.2).1⟩,(h.same b a.1 a.2.2).2⟩⟩
mutual
theorem qx{E E':Env}(h:fv E E'):∀(a:AV) {c:Value},rel E a c→rel E' a c
 |.undef,_,_=>by simp[rel]
 |.lit v,c,hr=>by simpa only[rel]using hr
 |.nils,c,hr=>by simpa only[rel]using hr
 |.list k rows,c,hr=>cZ h.toC _ (by simp[AV.closed]) hr
 |.listF ks rows,c,hr=>cZ h.toC _ (by simp[AV.closed]) hr
 | .agg cells,c,hr=>by
  simp only[rel]at hr⊢;obtain⟨cs,e,h1,b⟩:=hr;exact⟨cs,e,h1,kN h cells b⟩
 | .tuple cells,c,hr=>by
  simp only[rel]at hr⊢;obtain⟨cs,e,b⟩:=hr;exact⟨cs,e,kN h cells b⟩
 |.cptr cells,c,hr=>cZ h.toC _ (by simp[AV.closed]) hr
 | .ptr id ad k row col,c,hr=>by
  simp only[rel,Env.past,Env.live,h.H,h.loc]at hr⊢;exact hr
 | .vec k id ad off n,c,hr=>by
  simp only[rel,Env.past,Env.live,h.H,h.loc]at hr⊢;exact hr
 | .map id,c,hr=>by
  simp only[rel,Env.past,Env.live,h.H,h.loc]at hr⊢;exact hr
 | .clo f caps,c,hr=>by
  simp only[rel]at hr⊢;obtain⟨cs,e,b⟩:=hr;exact⟨cs,e,kN h caps b⟩
 |.ifc,c,hr=>by simpa only[rel]using hr
 |.emptyS n,c,hr=>by simpa only[rel]using hr
 | .sub id l j,c,hr=>by
  simp only[rel,Env.past,Env.live,Env.CO,h.H,h.r]at hr⊢;exact hr
theorem kN{E E':Env}(h:fv E E'):∀(as:List AV) {vs:List Value},ae E as vs→ae E' as vs
 | [],[],_=>by simp[ae]
 | [],_::_,hr=>by simp[ae]at hr
 |_::_,[],hr=>by simp[ae]at hr
 | a::as,v::vs,hr=>by
  simp only[ae]at hr⊢;exact⟨qx h a hr.1,kN h as hr.2⟩
end
theorem ak.bY{E E':Env}(H:ak E)(h:fv E E'):ak E' where
 dX:=H.dX.bh h.toC
 len:=by rw[h.loc,h.H]; exact H.len
 inj:=by rw[h.loc]; exact H.inj
 lt:=fun i b m hi=>by
  rw[h.loc]at hi;have:=H.lt i b m hi;exact⟨cM this.1 h.size,(h.same b this.1 this.2).1⟩
 X:=h.X
 obj:=fun i o hi=>by
  rw[h.H]at hi;exact iN (fun a _ hr=>qx h a hr) (by rw[h.loc]) (fun b n d=>(h.same b (H.lt i b n d).1 (H.lt i b n d).2).2) (fun l _=>⟨by rw[h.r],fun k g m hk=>(h.same g (H.bR l k g m hk).1 (H.bR l k g m hk).2).2⟩) (H.obj i o hi)
 dD:=by rw[h.r]; exact H.dD
 cd:=by rw[h.r,h.loc]; exact H.cd
 bR:=fun l k b m hk=>by
  rw[h.r]at hk;have:=H.bR l k b m hk;exact⟨cM this.1 h.size,(h.same b this.1 this.2).1⟩
 uniq:=by rw[h.H]; exact H.uniq
 fc:=by rw[h.H,h.r]; exact H.fc
theorem br.bY{s:St}{E E':Env}{a:Act}(hs:br s E a)(h:fv E E'){l:List Deferred}(hm:gN E'.w E'.X l):br s E' { a with defers:=l } :=
 ⟨by rw[h.H]; exact hs.H,kN h _ hs.fr,hm,hs.heap.bY h⟩
theorem D_{P:Program}{fn:Func}{tmps:Array Value}{R:Ending→World→Prop}:∀(l:List Deferred) (w:World) (X:XS),gN w X l →
  (∀ w',w'.heap.size=w.heap.size→(∀ b,w'.heap[b]? ≠ w.heap[b]? → X b∧X.z b)→c7 w w'→∃ v,(results fn tmps).run P w'=.ok v w'∧R (.returned v) w')→LeavesInM (fz none) 0 P fn tmps R l .returning w
 | [],w,X,_,h=>h w rfl (fun b a=>(a rfl).elim) (c7.refl w)
 | d::l,w,X,hm,h=>by
  obtain⟨D,e,h1,r,t⟩:=hm.2 d cW;subst e;have B:D<w.heap.size:=(dM.1 h1).1;have g:∀ b,b≠D→(w.putObj D (.deferred none)).heap[b]? = w.heap[b]? := fun b a=>World.putObj_heap_other a;have q:(w.putObj D (.deferred none)).heap.size=w.heap.size:=by simp[World.putObj]
  refine⟨by simp,.inl ⟨D,_,rfl,run_takeDeferred h1,D_ l _ X ⟨(gJ.1 hm.1).2,fun d' i=>?_⟩ fun w' g1 g2 g3=>h w' (by rw[g1,q]) (fun b a=>?_) (c7.trans ⟨rfl,rfl,rfl,by first|exact fun _=>aB _|exact fun _=>Nat.le_add_right _ _⟩ g3)⟩⟩
  ·obtain ⟨k, e', u, y, A⟩ := hm.2 d' (List.mem_cons_of_mem _ i)
   refine⟨k,e',?_,y,A⟩;rw[g k (fun e=>(gJ.1 hm.1).1 (by rw[←e,←e']; exact i))];exact u
  ·by_cases e : b = D
   ·subst e
    exact⟨r,t⟩
   ·refine g2 b ?_
    rw[g b e];exact a
theorem yt{P:Program}{f:FuncId}{fn:Func}{c:Code}{args:Array Value}{w:World}{R:Ending→World→Prop}(hf:P.funcs[f]? = some fn)(g:fn.body=some c)
  (h : c.wpIn (fz none) 0 P (fun e d a => (e = .normal ∨ e = .ret) ∧ ∃ X, gN a X d.defers ∧ ∀ w', w'.heap.size = a.heap.size → (∀ b, w'.heap[b]? ≠ a.heap[b]? → X b ∧ X.z b) → c7 a w' → ∃ v, (results fn d.tmps).run P w' = .ok v w' ∧ R (.returned v) w')
   { tmps:=args++fq (fn.ntmps-args.size) undef,defers:=[] } w):Calls P f args w R:=by
 refine(callsIn_wide (n:=0)).1 (callsIn_of_wp_marks (F:=fz none) hf g trivial (wpIn_mono h fun e d a i=>?_));obtain⟨he,X,h1,k⟩:=i;have:=D_ (P:=P) (fn:=fn) (tmps:=d.tmps) (R:=R) d.defers a X h1 k;rcases he with rfl|rfl
 ·exact this
 ·exact this
theorem yu{m:Nat}{E:Env}{s':St}{g:List (Option (Nat × Nat))}{X':XS}{i:Act}{a w':World}(HE:ak E)(hs:br s' { w:=a,H:=s'.H,loc:=g,X:=X' } i)
  (hle:({ E with X:=⟨E.X.x,fun _=>False,E.X.r⟩ }:Env).cO m { w:=a,H:=s'.H,loc:=g,X:=X' }) (h1:w'.heap.size=a.heap.size) (k:∀ b,w'.heap[b]? ≠ a.heap[b]? → X' b∧X'.z b) (t:c7 a w') :
  br s' { w:=w',H:=s'.H,loc:=g,X:=E.X.re X'.r } { i with defers:=[] }∧E.cO m { w:=w',H:=s'.H,loc:=g,X:=E.X.re X'.r }:=by
 have q:∀ b,b<E.w.heap.size→w'.heap[b]? = a.heap[b]? := fun b d=>Xl fun h=>((hle.X b d).2.1 (k b h).2).elim;have v:E.w.heap.size≤a.heap.size:=hle.size;have bY:fv { w:=a,H:=s'.H,loc:=g,X:=X' } { w:=w',H:=s'.H,loc:=g,X:=E.X.re X'.r } :=
  ⟨rfl, rfl, by show a.heap.size ≤ w'.heap.size; omega, fun b d l => ⟨fun he => l ((hle.X b (HE.X b he)).1.2 he), Xl fun h => l (k b h).1⟩, fun b d => by
   have:=HE.X b d;show b<w'.heap.size
   omega,rfl⟩
 refine⟨hs.bY bY (mI _ _),⟨hle.past,by show E.w.heap.size≤w'.heap.size; omega,fun b d u=>?_,hle.own,hle.live,fun b _=>⟨Iff.rfl,Iff.rfl⟩,hle.rl,hle.env.trans t,hle.grow⟩⟩;show w'.heap[b]? = E.w.heap[b]?
 rw[q b d];exact hle.same b d u
theorem oM{E:Env}(HE:ak E):fv E { E with X:=⟨E.X.x,fun _=>False,E.X.r⟩ }:=⟨rfl,rfl,aB _,fun b _ a=>⟨a,rfl⟩,HE.X,rfl⟩
theorem M4{P:Program}{f:FuncId}{fn:Func}{c:Code}{args:List AV}{H:List ab}{x:bt}{s':St}{vs:List AV}
  (hf:P.funcs[f]? = some fn) (l:fn.body=some c) (hs:cq P H.length c ⟨gQ args fn.ntmps,H⟩ x s') (q:x=.normal∨x=.ret) (hr:gb P s' fn.results.toList=some vs) (k:uv H) :
  c9 P f args H (cH vs) s'.H:=by
 intro E cargs hH HE d;refine yt hf l ?_;have g:=oM HE;have d:=kN g _ d;have h:br ⟨gQ args fn.ntmps,H⟩ { E with X:=⟨E.X.x,fun _=>False,E.X.r⟩ } { tmps:=cargs++fq (fn.ntmps-cargs.size) undef,defers:=[] }:=by
  refine⟨hH,?_,mI _ _,HE.bY g⟩;simp only[gQ,tg,Array.toList_replicate];refine iQ d ?_;have:=fb d;have e:args.length=cargs.size:=by simpa using this
  rw[e];have:=qw (E:={ E with X:=⟨E.X.x,fun _=>False,E.X.r⟩ }) (cu (fn.ntmps-cargs.size) undef);simpa using this
 refine wpIn_mono (hs none (yp _) { E with X:=⟨E.X.x,fun _=>False,E.X.r⟩ } _ h) fun e A B ⟨t,i,X',a,b⟩=>?_;refine⟨by subst t; rcases q with rfl|rfl; exact .inl rfl; exact .inr rfl,X',a.defers,fun w' v w y=>?_⟩;obtain⟨a,b⟩:=yu HE a b v w y;obtain⟨u,g1,g2⟩:=M3 a hr;have b:=b.full ⟨rfl,rfl⟩ (by rw[hH]; exact aB _) (by rw[hH]; exact k);exact⟨u,g1,u,cH vs,s'.H,rfl,⟨rfl,rfl⟩,i,X'.r,g2,a.heap,b⟩
theorem M5{P:Program}{f:FuncId}{args:List AV}{v:AV}{H1:List ab}(h:c9 P f args [] v H1)(J:AV.aV args=true)(M:v.closed=true):dE P f args v:=by
 intro H E cargs hH HE B
 let E0:Env:={ w:=E.w,H:=[],loc:=[],X:=(E.X.or E.own).re cY }
 have t:∀ b,¬ E0.own b:=by rintro b (⟨id,c,hid⟩|⟨l,k,c,hk⟩); simp[E0]at hid; simp[E0,cY]at hk
 have y:E.bh E0:=⟨fun b a=>⟨⟨a.1,t b,fun d=>d.elim a.2.2 a.2.1⟩,rfl⟩⟩
 have I:ak E0:=by
  refine⟨rfl,?_,?_,?_,?_,HE.dX.bh y,fun l k l' k' b m n hk=>by simp[E0,cY]at hk,fun i b m l k n hi=>by simp[E0]at hi,fun l k b m hk=>by simp[E0,cY]at hk,fun i j o o' l hi=>by simp[E0]at hi,fun l _ k q hk=>by simp[E0,cY]at hk⟩
  ·intro i j b m n hi; simp[E0]at hi
  ·intro i b m hi; simp[E0]at hi
  ·rintro b (d | g)
   ·exact HE.X b d
   ·exact(HE.tJ g).1
  ·intro i o hi; simp[E0]at hi
 refine(h E0 cargs rfl I (lv y args J B)).mono ?_;rintro _ w' ⟨c,A,H',rfl,⟨rfl,rfl⟩,D,r',g1,g2,g3⟩;have u:Ext E.w w':=⟨g3.size,fun b a=>g3.same b a (t b),g3.env⟩
 refine⟨c,A,H,rfl,⟨rfl,rfl⟩,E.loc,E.X.r,?_,?_,?_⟩
 ·rw [← hH]
  exact cZ (E:={ w:=w',H:=H',loc:=D,X:=E0.X.re r' }) (E':={ w:=w',H:=E.H,loc:=E.loc,X:=E.X })
   ⟨fun b a=>⟨⟨a.1,fun g=>a.2.2 (Or.inr g),fun d=>a.2.2 (Or.inl d)⟩,rfl⟩⟩ A M g1
 ·rw[←hH]; exact HE.ext u
 ·rw[←hH]; exact Env.fK u
end Go.AL

namespace Go.AL
open Go
variable [Dr]
variable {P:Program} {pf:FuncId→Bool} {ops:Array Oper}
def ju(r:Operand→AV):Op→Option Nat
 | .load _ a=>match r a with
  |.ptr id _ _ _ _=>some id
  |_=>none
 | .lookup _ m _ _=>match r m with
  |.map id=>some id
  |.sub id _ _=>some id
  |_=>none
 | .call c=>match c.args.toList with
  | [a]=>match r a with
   |.map id=>some id
   |_=>none
  |_=>none
 |_=>none
theorem Ea{r:Operand→AV}{H H2:List ab}:∀{op:Op},(∀ id,ju r op=some id→H2[id]? = H[id]?)→dF P r H2 op=dF P r H op:=by
 intro op h;cases op<;>simp only[dF]
 case load t a =>
  simp only[ju]at h;unfold fW;cases b:r a with
  | ptr id ad w row col =>
   rw[b]at h;have:=h id rfl;simp only[this]
  |_=>rfl
 case lookup t m k ok =>
  simp only[ju]at h;have d:ir P t (r m) (r k) ok H2=ir P t (r m) (r k) ok H:=My (fun id e=>by rw[e]at h; exact h id rfl) (fun id l j e=>by rw[e]at h; exact h id rfl);rw[d];have h1:eR P t (r m) (r k) ok H2=eR P t (r m) (r k) ok H:=by
   unfold eR;cases cz P t with
   |none=>rfl
   | some p =>
    obtain⟨g,i⟩:=p;cases hm:r m with
    | map id =>
     rw[hm]at h;have:=h id rfl;simp only[this]
    |_=>rfl
  rw[h1]
 case call c =>
  simp only[ju]at h;unfold lF;split
  ·rename_i a t q b u
   rw[b]at h;simp only[]at h;cases cz P t with
   |none=>rfl
   | some p =>
    cases hm:r a with
    | map id =>
     rw[hm]at h;have:=h id rfl;simp only[this]
    |_=>rfl
  ·rfl
theorem Eb{r r':Operand→AV}(o:Op)(h:∀ x∈o.operands,r x=r' x):ju r o=ju r' o:=by
 cases o<;>simp only[ju]
 case load t a =>
  simp only[dU]at h;rw[h a (by simp)]
 case lookup t m k ok =>
  simp only[dU]at h;rw[h m (by simp)]
 case call c =>
  split
  ·rename_i a b
   have:a∈(Op.call c).operands:=by
    show a∈c.operands
    have h1:a∈c.args:=by
     have:a∈c.args.toList:=by rw[b]; simp
     simpa using this
    simp[pT,h1]
   rw[h a this]
  ·rfl
abbrev fP:=List (Nat × List Nat × Nat)
abbrev gC:=List (Nat × Nat)
def kept(W:fP)(j A:Nat):Prop:=∀ e∈W,e.1=j→A∉e.2.1∧A<e.2.2
def yv(ops:Array Oper):Bool :=
 (dV ops.size).any fun j => (dV j).any fun i => match ops[i]?, ops[j]? with
  |some x,some y=>dn x.op&&dn y.op && !waits ops ops.size j i
  |_,_=>false
def iU:Op→Bool
 | .call c=>match c.callee with
  |.value (.func _)=>true
  |_=>false
 |_=>false
def isVar:Op→Bool
 |.alloc _=>true
 |_=>false
theorem oN{op:Op}(h:isVar op=true):dn op=true:=by
 unfold isVar at h;split at h
 ·rfl
 ·cases h
def lI(ops:Array Oper):Bool :=
 (dV ops.size).any fun j => (dV j).any fun i => match ops[i]?, ops[j]? with
  |some x,some y=>iU x.op&&isVar y.op && !waits ops ops.size j i
  |_,_=>false
def gD:Op→Bool
 |.mapEntry ..=>true
 |.entryStore ..=>true
 |_=>false
def yw(ops:Array Oper):Bool :=
 (dV ops.size).any fun j => (dV j).any fun i => match ops[i]?, ops[j]? with
  |some x,some y=>dn x.op&&gD y.op && !waits ops ops.size j i
  |_,_=>false
def kO(ops:Array Oper):Bool:=(yv ops||lI ops)||yw ops
theorem Ec{pf:FuncId→Bool}{op:Op}(h:gD op=true):b8 pf op=.write:=by
 unfold gD at h;split at h
 ·rfl
 ·rfl
 ·cases h
theorem M6{op:Op}(h:gD op=true):dn op=false:=by
 unfold gD at h;split at h
 ·rfl
 ·rfl
 ·cases h
theorem M7{op:Op}(h:gD op=true):iU op=false:=by
 unfold gD at h;split at h
 ·rfl
 ·rfl
 ·cases h
theorem kP{pf:FuncId→Bool}{op:Op}(h:dn op=true):b8 pf op=.write:=by
 unfold dn at h;split at h
 ·rfl
 ·rfl
 ·cases h
theorem uA{pf:FuncId→Bool}{op:Op}{X:Prop}(h:b8 pf op≠.write):dn op=true→X:=fun a=>(h (kP a)).elim
theorem j0{op:Op}(h:dn op=true):iU op=false:=by
 unfold dn at h;split at h
 ·rfl
 ·rfl
 ·cases h
def kQ(σ:List (Nat × ab))(H:List ab):List ab:=σ.foldl (fun H p=>H.set p.1 p.2) H
def uB(W:fP)(j:Nat)(H:List ab)(σ:List (Nat × ab)):Prop:=∀ p∈σ,kept W j p.1∧∃ k r,H[p.1]? = some (.vec k 0 [])∧p.2=.vec k 1 r
def Step(P:Program)(pf:FuncId→Bool)(ops:Array Oper)(R:gC)(W:fP)(j:Nat)(o:Oper)(s:St)(v:AV)(H':List ab):Prop :=
 (b8 pf o.op = .write → ∀ A, kept W j A → H'[A]? = s.H[A]?) ∧ (b8 pf o.op = .read → bz ops s.fr o = some true → ∀ id, ju s.eval o.op = some id → (j, id) ∈ R) ∧
  (dn o.op=true→kO ops=true→bz ops s.fr o=some true→H'.length=s.H.length∧∀ id,H'[id]? ≠ s.H[id]? → ∃ e∈W,e.1=j∧id∈e.2.1) ∧
  (iU o.op=true→lI ops=true→b8 pf o.op=.write→bz ops s.fr o=some true→∀ σ,uB W j s.H σ→Yields P pf ops o ⟨s.fr,kQ σ s.H⟩ v (kQ σ H'))
def Ed(R:gC)(W:fP)(i j:Nat):Prop:=∀ id,(i,id)∈R→kept W j id
def yx(pf:FuncId→Bool)(ops:Array Oper)(R:gC)(W:fP)(i:Nat)(x:Oper)(j:Nat)(y:Oper):Prop :=
 kM pf x y=true∨(b8 pf x.op=.read∧b8 pf y.op=.write∧Ed R W i j)∨(b8 pf x.op=.write∧b8 pf y.op=.read∧Ed R W j i)∨(dn x.op=true∧dn y.op=true∧kO ops=true) ∨
  (b8 pf x.op=.write∧iU x.op=true∧isVar y.op=true∧lI ops=true∧∀ e∈W,e.1=j→∀ id∈e.2.1,kept W i id) ∨
  (dn x.op=true∧gD y.op=true∧kO ops=true∧∀ e∈W,e.1=i→∀ id∈e.2.1,kept W j id)
theorem Ee{o:Oper}{s:St}{v:AV}{H':List ab}(a:isVar o.op=true)(h:Yields P pf ops o s v H')(g:bz ops s.fr o=some true→H'.length=s.H.length) :
  (bz ops s.fr o = some false ∧ v = .tuple [] ∧ H' = s.H) ∨
   (bz ops s.fr o=some true∧∃ t id z k m,o.op=.alloc t∧di P t=some z∧s.H[id]? = some (.vec k 0 [])∧k=z.length∧v=.ptr id 1 k 0 0∧H'=s.H.set id (.vec k 1 [c8 m z])):=by
 unfold Yields at h;cases hw:bz ops s.fr o with
 |none=>rw[hw]at h; exact h.elim
 | some b =>
  rw[hw]at h;cases b with
  |false=>exact .inl ⟨rfl,h.1,h.2⟩
  | true =>
   right;refine⟨rfl,?_⟩;simp only[kP (oN a)]at h;have g:=g hw;rcases h with(h|⟨f,args,h1,_⟩)|(⟨t,id,m,d,l⟩|⟨t,id,d,l⟩)|i
   ·unfold isVar at a
    split at a
    ·rename_i t d
     rw[d]at h;simp only[cw,mN]at h;split at h
     ·split at h
      ·cases h
       simp at g
      ·cases h
     ·split at h
      ·cases h
       simp at g
      ·cases h
    ·cases a
   ·unfold isVar at a
    split at a
    ·rename_i t d
     rw[d]at h1;cases h1
    ·cases a
   ·obtain ⟨z, k, h1, q, r, u, w⟩ := DZ l
    exact⟨t,id,z,k,m,d,h1,q,r,u,w⟩
   ·rw [d] at a
    cases a
   ·unfold isVar at a
    split at a
    ·rename_i t d
     rw[d]at i;exact i.elim
    ·cases a
def gR(P:Program)(op:Op)(id:Nat)(y:ab)(v:AV)(x:ab):Prop :=
 (∃ t z k m,op=.alloc t∧di P t=some z∧k=z.length∧y=.vec k 0 []∧v=.ptr id 1 k 0 0∧x=.vec k 1 [c8 m z])∨∃ t,op=.makeMap t none∧y=.c6∧v=.map id∧x=.map [] 0
theorem gR.ne{op b:Op}{id d:Nat}{y a x g:ab}{v i:AV}(h:gR P op id y v x)(h':gR P b d a i g):x≠a:=by
 rcases h with⟨_,_,_,_,_,_,_,_,_,rfl⟩|⟨_,_,_,_,rfl⟩<;>rcases h' with⟨_,_,_,_,_,_,_,rfl,_,_⟩|⟨_,_,rfl,_,_⟩<;>intro e<;>cases e
theorem yy{o:Oper}{s:St}{v:AV}{H':List ab}(g:dn o.op=true)(h:Yields P pf ops o s v H')(i:bz ops s.fr o=some true→H'.length=s.H.length) :
  (bz ops s.fr o = some false ∧ v = .tuple [] ∧ H' = s.H) ∨
   (bz ops s.fr o=some true∧∃ id y x,gR P o.op id y v x∧s.H[id]? = some y∧H'=s.H.set id x):=by
 cases d:isVar o.op with
 | true =>
  rcases Ee d h i with h|⟨h1,t,id,z,k,m,q,r,w,A,B,D⟩
  ·exact .inl h
  ·exact .inr ⟨h1,id,_,_,.inl ⟨t,z,k,m,q,r,A,rfl,B,rfl⟩,w,D⟩
 | false =>
  have hm:∃ t,o.op=.makeMap t none:=by
   unfold dn at g;split at g
   ·rename_i t a
    rw[a]at d;cases d
   ·rename_i t a
    exact⟨t,a⟩
   ·cases g
  obtain⟨t,a⟩:=hm;unfold Yields at h;cases hw:bz ops s.fr o with
  |none=>rw[hw]at h; exact h.elim
  | some b =>
   rw[hw]at h;cases b with
   |false=>exact .inl ⟨rfl,h.1,h.2⟩
   | true =>
    right;refine⟨rfl,?_⟩;simp only[kP g]at h;have i:=i hw;rcases h with(h|⟨f,args,h1,_⟩)|(⟨t',id,m,l,d⟩|⟨t',id,l,d⟩)|u
    ·rw [a] at h
     simp only[cw]at h;cases h;simp at i
    ·rw [a] at h1
     cases h1
    ·rw [a] at l
     cases l
    ·obtain ⟨h1, q, r⟩ := x5 d
     exact⟨id,_,_,.inr ⟨t,a,rfl,q,rfl⟩,h1,r⟩
    ·rw [a] at u
     exact u.elim
theorem Ef{o:Oper}{s:St}{t:TypeId}{id k:Nat}{z:List Value}(hw:bz ops s.fr o=some true)(a:o.op=.alloc t)(b:di P t=some z)(hid:s.H[id]? = some (.vec k 0 []))(hk:k=z.length) (m:List (Option (List Kd))) :
  Yields P pf ops o s (.ptr id 1 k 0 0) (s.H.set id (.vec k 1 [c8 m z])):=by
 unfold Yields;rw[hw,a];exact .inr (.inl (.inl ⟨t,id,m,rfl,D0 m b hid hk⟩))
theorem yz{o:Oper}{s:St}{id:Nat}{v:AV}{x y:ab}(hw:bz ops s.fr o=some true)(a:gR P o.op id y v x)(hid:s.H[id]? = some y):Yields P pf ops o s v (s.H.set id x):=by
 rcases a with⟨t,z,k,m,h1,b,d,rfl,rfl,rfl⟩|⟨t,h1,rfl,rfl,rfl⟩
 ·exact Ef hw h1 b hid d m
 ·unfold Yields
  rw[hw,h1];exact .inr (.inl (.inr ⟨t,id,rfl,Dx hid⟩))
def jv:ab→Bool
 |.aM ..=>false
 |.mm ..=>false
 |_=>true
theorem gR.no{op:Op}{id:Nat}{y x:ab}{v:AV}(h:gR P op id y v x):jv x=true∧jv y=true∧x≠.dead:=by
 rcases h with⟨_,_,_,_,_,_,_,rfl,_,rfl⟩|⟨_,_,rfl,_,rfl⟩
 ·exact⟨rfl,rfl,fun e=>by cases e⟩
 ·exact⟨rfl,rfl,fun e=>by cases e⟩
theorem M8{t:TypeId}{id:Nat}{k:AV}{H:List ab}{x:ab}(h:H[id]? = some x)(a:jv x=true):f_ P t (.map id) k H=none∧gO P t (.map id) k H=none:=by
 unfold f_ gO;cases cz P t with
 |none=>exact⟨rfl,rfl⟩
 | some p =>
  simp only[h];cases x<;>first|exact⟨rfl,rfl⟩|cases a
theorem M9{t:TypeId}{id a:Nat}{k:AV}{H:List ab}{x:ab}(b:id≠a)(d:a<H.length):f_ P t (.map id) k (H.set a x)=(f_ P t (.map id) k H).map fun p=>(p.1,p.2.set a x):=by
 unfold f_;cases cz P t with
 |none=>rfl
 | some p =>
  simp only[aJ (Ne.symm b),List.length_set];split
  ·split
   ·split
    ·split
     ·split
      ·simp only [eZ]
       rw[CF _ _ (by simpa using d),kz _ _ b]
      ·rfl
     ·simp only [eZ]
      rw[CF _ _ (by simpa using d),kz _ _ b]
     ·rfl
    ·rfl
   ·rfl
  ·rfl
theorem M_{t:TypeId}{id a:Nat}{k:AV}{H:List ab}{x:ab}(b:id≠a):gO P t (.map id) k (H.set a x)=(gO P t (.map id) k H).map fun p=>(p.1,p.2.set a x):=by
 unfold gO;cases cz P t with
 |none=>rfl
 | some p =>
  simp only[aJ (Ne.symm b)];split
  ·split
   ·split
    ·simp only [eZ]
     rw[kz _ _ b]
    ·rfl
   ·rfl
  ·rfl
theorem M'{t:TypeId}{id a:Nat}{k v:AV}{H H':List ab}(b:id≠a)(d:a<H.length)(h:f_ P t (.map id) k H=some (v,H')):H'[a]? = H[a]? := by
 unfold f_ at h;split at h
 case h_2=>cases h
 rename_i he;cases he;split at h
 case h_2=>cases h
 split at h
 case h_2=>cases h
 split at h
 case h_2=>cases h
 split at h
 ·split at h
  ·cases h
   rw[cn (by simpa using d),aJ b]
  ·cases h
 ·cases h
  rw[cn (by simpa using d),aJ b]
 ·cases h
theorem Na{t:TypeId}{id a:Nat}{k v:AV}{H H':List ab}(b:id≠a)(h:gO P t (.map id) k H=some (v,H')):H'[a]? = H[a]? := by
 unfold gO at h;split at h
 case h_2=>cases h
 rename_i he;cases he;split at h
 case h_2=>cases h
 split at h
 case h_2=>cases h
 split at h
 ·cases h
  rw[aJ b]
 ·cases h
theorem Nb{m s v:AV}{a:Nat}{x y:ab}{H g:List ab}(r:H[a]? = some y)(t:jv x=true∧jv y=true∧x≠.dead)(h:iR m s v (H.set a x)=some g)(hk:g[a]? = some x) :
  ∃ H1,iR m s v H=some H1∧g=H1.set a x∧H1[a]? = some y:=by
 have k:=az r;unfold iR at h⊢;split at h
 case h_2=>cases h
 rename_i id st w j ad off n;have b:id≠a:=fun e=>by
  subst e;rw[bd k]at h;obtain⟨h1,_⟩:=t;cases x<;>first|cases h|cases h1
 rw[aJ (Ne.symm b)]at h;split at h
 case h_2=>cases h
 rename_i l w' es cl D B rows g1 g2;split at h
 case isFalse=>cases h
 rename_i u;split at h
 case h_2=>cases h
 rename_i i hi;split at h
 case h_2=>cases h
 rename_i key q bn A;cases h;have d:j≠a:=fun e=>by
  subst e;rw[bd (by simpa using k)]at hk;exact t.2.2 (fa hk).symm
 rw[aJ (Ne.symm d)]at g2;rw[g1,g2];simp only[if_pos u,hi,A];refine⟨_,rfl,?_,?_⟩
 ·rw[kz _ _ (Ne.symm b),kz _ _ (Ne.symm d)]
 ·rw[aJ d,aJ b,r]
theorem Nc{m s v:AV}{a:Nat}{x y:ab}{H g:List ab}(q:H[a]? = some y)(r:jv x=true∧jv y=true∧x≠.dead)(h:jt m s v (H.set a x)=some g)(hk:g[a]? = some x) :
  ∃ H1,jt m s v H=some H1∧g=H1.set a x∧H1[a]? = some y:=by
 have k:=az q;unfold jt at h⊢;split at h
 case h_2=>cases h
 rename_i id st j;have b:id≠a:=fun e=>by
  subst e;rw[bd k]at h;obtain⟨h1,_⟩:=r;cases x<;>first|cases h|cases h1
 rw[aJ (Ne.symm b)]at h;split at h
 case h_2=>cases h
 rename_i l es ms cl u cJ g1 g2;split at h
 case h_2=>cases h
 rename_i i hi;split at h
 case h_2=>cases h
 rename_i key bn t;cases h;have d:j≠a:=fun e=>by
  subst e;rw[bd (by simpa using k)]at hk;exact r.2.2 (fa hk).symm
 rw[aJ (Ne.symm d)]at g2;rw[g1,g2];simp only[hi,t];refine⟨_,rfl,?_,?_⟩
 ·rw[kz _ _ (Ne.symm b),kz _ _ (Ne.symm d)]
 ·rw[aJ d,aJ b,q]
theorem Nd{m s v:AV}{a:Nat}{x y:ab}{H:List ab}(b:H[a]? = some y)(d:jv x=true∧jv y=true∧x≠.dead){H2:List ab}(hm:jt m s v H=some H2):iR m s v H=none:=by
 unfold jt at hm;split at hm
 case h_2=>cases hm
 rfl
theorem Nf{op:Op}(q:gD op=true){r:Operand→AV}{H w:List ab}{a:Nat}{x y:ab}{u:AV}(b:H[a]? = some y)(g:jv x=true∧jv y=true∧x≠.dead)(h:cw P r (H.set a x) op=some (u,w))(hk:w[a]? = some x) :
  ∃ H1,cw P r H op=some (u,H1)∧w=H1.set a x∧H1[a]? = some y:=by
 have i:=az b;unfold gD at q;split at q
 ·rename_i t m k
  simp only[cw]at h⊢;cases hm:r m with
  | map id =>
   rw[hm]at h;by_cases d:id=a
   ·subst d
    obtain⟨D,I⟩:=M8 (P:=P) (t:=t) (k:=r k) (bd (a:=x) i) g.1;rw[D,I]at h;cases h
   ·rw [M9 d i, M_ d] at h
    cases he:f_ P t (.map id) (r k) H with
    | some p =>
     rw[he]at h;simp only[eZ]at h;obtain⟨p1,A⟩:=p;cases h;exact⟨A,rfl,rfl,by rw[M' d i he,b]⟩
    | none =>
     rw[he]at h;simp only[Option.map_none]at h;cases l:gO P t (.map id) (r k) H with
     | some p =>
      rw[l]at h;simp only[eZ]at h;obtain⟨p1,A⟩:=p;cases h;exact⟨A,rfl,rfl,by rw[Na d l,b]⟩
     | none =>
      rw[l]at h;cases h
  | _ =>
   rw[hm]at h;unfold f_ gO at h;cases B:cz P t with
   |none=>rw[B]at h; cases h
   |some p=>rw[B]at h; cases h
 ·rename_i t m s v
  simp only[cw]at h⊢;cases he:iR (r m) (r s) (r v) (H.set a x)with
  | some H2 =>
   rw[he]at h;cases h;obtain⟨H1,g1,g2,g3⟩:=Nb b g he hk;rw[g1];exact⟨H1,rfl,g2,g3⟩
  | none =>
   rw[he]at h;cases hm:jt (r m) (r s) (r v) (H.set a x)with
   |none=>rw[hm]at h; cases h
   | some H2 =>
    rw[hm]at h;cases h;obtain⟨H1,g1,g2,g3⟩:=Nc b g hm hk;rw[Nd b g g1,g1];exact⟨H1,rfl,g2,g3⟩
 ·cases q
theorem Ng{o:Oper}{s:St}{u:AV}{g:List ab}(b:gD o.op=true)(h:Yields P pf ops o s u g)(hw:bz ops s.fr o=some true):cw P s.eval s.H o.op=some (u,g):=by
 unfold Yields at h;simp only[hw,Ec b]at h;rcases h with(h|⟨f,args,h1,_⟩)|(⟨t,id,m,a,_⟩|⟨t,id,a,_⟩)|d
 ·exact h
 ·unfold gD at b
  split at b
  ·rename_i a
   rw[a]at h1;cases h1
  ·rename_i a
   rw[a]at h1;cases h1
  ·cases b
 ·rw [a] at b
  cases b
 ·rw [a] at b
  cases b
 ·unfold gD at b
  split at b
  ·rename_i a
   rw[a]at d;exact d.elim
  ·rename_i a
   rw[a]at d;exact d.elim
  ·cases b
theorem Nh{R:gC}{W:fP}{i j:Nat}{q g:Oper}{s:St}{v u:AV}{B d:List ab}(h1:q.apart ops g=true)(h2:g.apart ops q=true)(Y:yx pf ops R W i q j g)
  (hi:Yields P pf ops q s v B) (V:Step P pf ops R W i q s v B) (D:Yields P pf ops g (s.put q.dst v B) u d) (sj:Step P pf ops R W j g (s.put q.dst v B) u d) :
  ∃ Yd,Yields P pf ops g s u Yd∧Step P pf ops R W j g s u Yd∧Yields P pf ops q (s.put g.dst u Yd) v d∧Step P pf ops R W i q (s.put g.dst u Yd) v d:=by
 obtain⟨a1,a2,a3⟩:=CC h1;have M:bz ops (s.put q.dst v B).fr g=bz ops s.fr g:=uq a1;have U:∀ H2,bz ops (s.put g.dst u H2).fr q=bz ops s.fr q:=fun H2=>uq a3;have ej:∀ x∈g.op.operands,(s.put q.dst v B).eval x=s.eval x:=fun x hx=>eval_put a1 hx;have ei:∀ H2,∀ x∈q.op.operands,(s.put g.dst u H2).eval x=s.eval x:=fun H2 x hx=>eval_put a3 hx;have cj:=Eb g.op ej;have ci:=fun H2=>Eb q.op (ei H2);have YL:=DW (P:=P) (H:=B) g.op ej;have YF:b8 pf g.op=.read→Step P pf ops R W j g s u s.H:=fun hr=>⟨fun hw=>(by rw[hr]at hw; cases hw),fun _ hw id hid=>sj.2.1 hr (by rw[M]; exact hw) id (by rw[cj]; exact hid),uA (by rw[hr]; simp),fun _ _ hw=>(by rw[hr]at hw; cases hw)⟩
 have YG:b8 pf q.op=.read→∀ H2 H3,Step P pf ops R W i q (s.put g.dst u H2) v H3:=fun hr H2 H3=>⟨fun hw=>(by rw[hr]at hw; cases hw),fun _ hw id hid=>V.2.1 hr (by rw[U]at hw; exact hw) id (by rw[ci]at hid; exact hid),uA (by rw[hr]; simp),fun _ _ hw=>(by rw[hr]at hw; cases hw)⟩
 have YM:∀{H2 H3:List ab} {v':AV},Yields P pf ops g ⟨(s.put q.dst v B).fr,H2⟩ v' H3→Yields P pf ops g ⟨s.fr,H2⟩ v' H3:=fun {H2 _ _} h=>(er (s1:=⟨(s.put q.dst v B).fr,H2⟩) (s:=⟨s.fr,H2⟩) M (fun x hx=>by
  have:=ej x hx;cases x<;>exact this) rfl).1 h
 have Ys:∀{H1 H2 H3:List ab} {v':AV},Yields P pf ops q ⟨s.fr,H2⟩ v' H3→Yields P pf ops q ⟨(s.put g.dst u H1).fr,H2⟩ v' H3:=fun {H1 H2 _ _} h=>(er (s1:=⟨(s.put g.dst u H1).fr,H2⟩) (s:=⟨s.fr,H2⟩) (U H1) (fun x hx=>by
  have:=ei H1 x hx;cases x<;>exact this) rfl).2 h
 have toJ:B=s.H→Step P pf ops R W j g s u d:=by
  intro e;subst e;exact⟨fun hw A I=>sj.1 hw A I,fun hr hw id hid=>sj.2.1 hr (by rw[M]; exact hw) id (by rw[cj]; exact hid),fun ha ht hw=>sj.2.2.1 ha ht (by rw[M]; exact hw),
   fun y Yo hw Yk σ Yn=>YM (sj.2.2.2 y Yo hw (by rw[M]; exact Yk) σ Yn)⟩
 have toI:d=B→Step P pf ops R W i q (s.put g.dst u s.H) v d:=by
  intro e;subst e;exact⟨fun hw A I=>V.1 hw A I,fun hr hw id hid=>V.2.1 hr (by rw[U]at hw; exact hw) id (by rw[ci]at hid; exact hid),fun ha ht hw=>V.2.2.1 ha ht (by rw[U]at hw; exact hw),
   fun y Yo hw Yk σ Yn=>Ys (V.2.2.2 y Yo hw (by rw[U]at Yk; exact Yk) σ Yn)⟩
 have YN:kM pf q g=true→∃ Yd,Yields P pf ops g s u Yd∧Yields P pf ops q (s.put g.dst u Yd) v d:=fun Y=>D1 h1 h2 Y hi D;cases t:b8 pf q.op with
 | pure =>
  obtain⟨J,g1⟩:=qu t hi;subst J;refine⟨d,(er M ej rfl).1 D,toJ rfl,
   (er (s1:=s.put g.dst u d) (s:=⟨s.fr,d⟩) (U d) (fun x hx=>by rw[ei d x hx]; cases x<;>rfl) rfl).2 (g1 d),⟨fun hw=>(by rw[t]at hw; cases hw),fun hr=>(by rw[t]at hr; cases hr),uA (by rw[t]; simp),fun _ _ hw=>(by rw[t]at hw; cases hw)⟩⟩
 | read =>
  have J:=mX t hi;subst J;have Yt:=(er M ej rfl).1 D;refine⟨d,Yt,toJ rfl,?_,YG t _ _⟩;have key:∀ H2:List ab,St.eval ⟨s.fr,H2⟩=s.eval:=fun H2=>by funext x; cases x<;>rfl
  have same:bz ops s.fr q=some true→dF P s.eval d q.op=dF P s.eval s.H q.op:=by
   intro hw;cases w:b8 pf g.op with
   | pure =>
    have:=(qu w Yt).1;rw[this]
   | read =>
    have:=mX w Yt;rw[this]
   | write =>
    rcases Y with Y|⟨_,_,Yl⟩|⟨Yi,_,_⟩|⟨Yi,_,_⟩|⟨Yi,_⟩|⟨Yi,_⟩
    ·obtain ⟨Yd, q1, q2⟩ := YN Y
     have q3:=(er (s1:=s.put g.dst u Yd) (s:=⟨s.fr,Yd⟩) (U Yd) (fun x hx=>by rw[ei Yd x hx]; cases x<;>rfl) rfl).1 q2;have e2:d=Yd:=mX t q3;subst e2;unfold Yields at q3 hi;simp only[t,hw]at q3 hi;rw[key]at q3;rw[q3.2,hi.2]
    ·exact Ea fun id hid=>sj.1 w id (Yl id (V.2.1 t hw id hid))
    ·rw [t] at Yi
     cases Yi
    ·rw [kP Yi] at t
     cases t
    ·rw [t] at Yi
     cases Yi
    ·rw [kP Yi] at t
     cases t
  refine(er (s1:=s.put g.dst u d) (s:=⟨s.fr,d⟩) (U d) (fun x hx=>by rw[ei d x hx]; cases x<;>rfl) rfl).2 ?_;unfold Yields at hi⊢;simp only[t]at hi⊢;cases hw:bz ops s.fr q with
  |none=>rw[hw]at hi; exact hi.elim
  | some b =>
   rw[hw]at hi;cases b with
   |false=>exact⟨hi.1,by simp⟩
   | true =>
    refine⟨by simp,?_⟩;rw[key,same hw];exact hi.2
 | write =>
  cases w:b8 pf g.op with
  | pure =>
   obtain⟨J,g1⟩:=qu w D;have YO:d=B:=J;subst YO;refine⟨s.H,?_,⟨fun hw=>(by rw[w]at hw; cases hw),fun hr=>(by rw[w]at hr; cases hr),uA (by rw[w]; simp),fun _ _ hw=>(by rw[w]at hw; cases hw)⟩,(er (s1:=s.put g.dst u s.H) (s:=s) (U s.H) (ei s.H) rfl).2 hi,toI rfl⟩;exact(er (s1:=⟨(s.put q.dst v d).fr,s.H⟩) (s:=s) M (fun x hx=>by
    have:=ej x hx;cases x<;>exact this) rfl).1 (g1 s.H)
  | read =>
   have e2:=mX w D;have O:d=B:=e2;subst O;refine⟨s.H,?_,YF w,(er (s1:=s.put g.dst u s.H) (s:=s) (U s.H) (ei s.H) rfl).2 hi,toI rfl⟩;have same:bz ops s.fr g=some true→dF P s.eval d g.op=dF P s.eval s.H g.op:=by
    intro hw;rcases Y with Y|⟨Yc,_,_⟩|⟨_,_,Yl⟩|⟨_,Yc,_⟩|⟨_,_,Yc,_⟩|⟨_,Yc,_⟩
    ·unfold kM at Y
     rw[t,w]at Y;cases Y
    ·rw [t] at Yc
     cases Yc
    ·exact Ea fun id hid=>V.1 t id (Yl id (sj.2.1 w (by rw[M]; exact hw) id (by rw[cj]; exact hid)))
    ·rw [kP Yc] at w
     cases w
    ·rw [kP (oN Yc)] at w
     cases w
    ·rw [Ec Yc] at w
     cases w
   unfold Yields at D⊢;simp only[w]at D⊢;rw[M]at D;cases hw:bz ops s.fr g with
   |none=>rw[hw]at D; exact D.elim
   | some b =>
    rw[hw]at D;cases b with
    |false=>exact⟨D.1,by simp⟩
    | true =>
     refine⟨by simp,?_⟩;rw[←same hw,←YL];exact D.2
  | write =>
   rcases Y with Y|⟨Yc,_,_⟩|⟨_,Yc,_⟩|⟨Yf,Yg,Ym⟩|⟨_,Yu,Yg,Yo,Yl⟩|⟨Yf,Yr,Ym,Yl⟩
   ·unfold kM at Y
    rw[t,w]at Y;cases Y
   ·rw [t] at Yc
    cases Yc
   ·rw [w] at Yc
    cases Yc
   ·-- two YT, each in YP own place
    have ck:∀{f:Option Bool},f=some true→f=some false→False:=fun h1 h2=>by rw[h1]at h2; cases h2
    rcases yy Yf hi (fun hw=>(V.2.2.1 Yf Ym hw).1)with⟨Yj,rfl,J⟩|⟨Yj,N,yi,xi,ni,z2,J⟩
    ·subst J
     refine⟨d,(er M ej rfl).1 D,toJ rfl,?_,⟨fun _ A _=>rfl,fun hr=>(by rw[t]at hr; cases hr),fun _ _ _=>⟨rfl,fun _ h=>(h rfl).elim⟩,fun y=>(by rw[j0 Yf]at y; cases y)⟩⟩;unfold Yields;rw[U,Yj];exact⟨rfl,rfl⟩
    ·rcases yy Yg D (fun hw => (sj.2.2.1 Yg Ym hw).1) with ⟨Yh, rfl, e2⟩ | ⟨Yh, l, yj, xj, nj, y2, e2⟩
     ·have O : d = B := e2
      subst O;refine⟨s.H,?_,⟨fun _ A _=>rfl,fun hr=>(by rw[w]at hr; cases hr),fun _ _ _=>⟨rfl,fun _ h=>(h rfl).elim⟩,fun y=>(by rw[j0 Yg]at y; cases y)⟩,(er (s1:=s.put g.dst (.tuple []) s.H) (s:=s) (U s.H) (ei s.H) rfl).2 hi,toI rfl⟩;unfold Yields;rw[M]at Yh;rw[Yh];exact⟨rfl,rfl⟩
     ·have O : d = B.set l xj := e2
      have X:B[l]? = some yj:=y2;have Ye:l≠N:=by
       intro e;subst e;rw[J,bd (az z2)]at X;exact gR.ne ni nj (fa X)
      have Yp:s.H[l]? = some yj:=by rw[J,aJ (Ne.symm Ye)]at X; exact X
      have Yv:bz ops s.fr g=some true:=by rw[←M]; exact Yh
      have Yw:∀ A,kept W j A→A≠l:=by
       intro A I e;subst e;have h:=sj.1 w A I;have h':d[A]? = B[A]? := h;rw[O,bd (az X),X]at h';exact gR.ne nj nj (fa h')
      have Yx:∀ A,kept W i A→A≠N:=by
       intro A I e;subst e;have h:=V.1 t A I;rw[J,bd (az z2),z2]at h;exact gR.ne ni ni (fa h)
      have Yq:d=(s.H.set l xj).set N xi:=by rw[O,J,kz _ _ (Ne.symm Ye)]
      refine⟨s.H.set l xj,yz Yv nj Yp,⟨fun _ A I=>aJ (Ne.symm (Yw A I)),fun hr=>(by rw[w]at hr; cases hr),fun _ _ _=>⟨by simp,fun id Ye=>?_⟩,fun y=>(by rw[j0 Yg]at y; cases y)⟩,?_,
       ⟨fun _ A I=>?_,fun hr=>(by rw[t]at hr; cases hr),fun _ _ _=>⟨?_,fun id Ye=>?_⟩,fun y=>(by rw[j0 Yf]at y; cases y)⟩⟩
      ·have e : id = l := n4 fun e => Ye (aJ (Ne.symm e))
       subst e;refine(sj.2.2.1 Yg Ym Yh).2 id ?_;show d[id]? ≠ B[id]?
       rw[O,bd (az X),X];exact fun e=>gR.ne nj nj (fa e)
      ·rw [Yq]
       refine yz (s:=s.put g.dst u (s.H.set l xj)) (by rw[U]; exact Yj) ni ?_;show (s.H.set l _)[N]? = _
       rw[aJ Ye];exact z2
      ·show d[A]? = (s.H.set l _)[A]?
       rw[Yq,aJ (Ne.symm (Yx A I))]
      ·show d.length = (s.H.set l _).length
       rw[Yq];simp
      ·have e:id=N:=n4 fun e=>Ye (by
        show d[id]? = (s.H.set l _)[id]?
        rw[Yq,aJ (Ne.symm e)])
       subst e;refine(V.2.2.1 Yf Ym Yj).2 id ?_;rw[J,bd (az z2),z2];exact fun e=>gR.ne ni ni (fa e)
   ·-- a call, and an YE in a place YJ it YK not YH
    have YB:kO ops=true:=by
     unfold kO;rw[Yo];simp
    rcases Ee Yg D (fun hw=>(sj.2.2.1 (oN Yg) YB hw).1)with⟨Yh,rfl,e2⟩|⟨Yh,tj,l,zj,kj,mj,YQ,y1,y2,y3,rfl,e2⟩
    ·have O : d = B := e2
     subst O;refine⟨s.H,?_,⟨fun _ A _=>rfl,fun hr=>(by rw[w]at hr; cases hr),fun _ _ _=>⟨rfl,fun _ h=>(h rfl).elim⟩,fun y=>(by rw[j0 (oN Yg)]at y; cases y)⟩,(er (s1:=s.put g.dst (.tuple []) s.H) (s:=s) (U s.H) (ei s.H) rfl).2 hi,toI rfl⟩;unfold Yields;rw[M]at Yh;rw[Yh];exact⟨rfl,rfl⟩
    ·have O : d = B.set l (.vec kj 1 [c8 mj zj]) := e2
     have X:B[l]? = some (.vec kj 0 []):=y2;obtain⟨e,he,YC,hid⟩:=(sj.2.2.1 (oN Yg) YB Yh).2 l (by
      show d[l]? ≠ B[l]?
      rw[O,bd (az X),X];simp)
     have hk:=Yl e he YC l hid;have Yp:s.H[l]? = some (.vec kj 0 []):=by rw[←V.1 t l hk]; exact X
     have Yv:bz ops s.fr g=some true:=by rw[←M]; exact Yh
     have Yw:∀ A,kept W j A→A≠l:=by
      intro A I e;subst e;have h:=sj.1 w A I;have h':d[A]? = B[A]? := h;rw[O,bd (az X),X]at h';simp at h'
     have Yz:uB W i s.H [(l,.vec kj 1 [c8 mj zj])]:=by
      intro p hp;rw[List.mem_singleton.1 hp];exact⟨hk,kj,_,Yp,rfl⟩
     have YA:Yields P pf ops q ⟨s.fr,s.H.set l (.vec kj 1 [c8 mj zj])⟩ v d∧(bz ops s.fr q=some true→∀ σ,uB W i (s.H.set l (.vec kj 1 [c8 mj zj])) σ→Yields P pf ops q ⟨s.fr,kQ σ (s.H.set l (.vec kj 1 [c8 mj zj]))⟩ v (kQ σ d)):=by
      cases hw:bz ops s.fr q with
      | none =>
       unfold Yields at hi;rw[hw]at hi;exact hi.elim
      | some b =>
       cases b with
       | false =>
        refine⟨?_,fun h=>by cases h⟩;unfold Yields at hi⊢;rw[hw]at hi;rw[show bz ops (St.mk s.fr (s.H.set l (.vec kj 1 [c8 mj zj]))).fr q=some false from hw];refine⟨hi.1,?_⟩;show d=s.H.set l _
        rw[O,hi.2]
       | true =>
        have h4:=V.2.2.2 Yu Yo t hw;refine⟨?_,fun _ σ Yn=>?_⟩
        ·have := h4 _ Yz
         rw[O];exact this
        ·have:=h4 ((l,.vec kj 1 [c8 mj zj])::σ) (by
          intro p hp;rcases List.mem_cons.1 hp with rfl|hp
          ·exact Yz _ cW
          ·obtain ⟨a2, k, r, a3, a4⟩ := Yn p hp
           refine⟨a2,k,r,?_,a4⟩;have Ye:p.1≠l:=fun e=>by
            rw[e,bd (az Yp)]at a3;simp at a3
           rwa [aJ (Ne.symm Ye)]at a3)
         rw[O];exact this
     refine⟨s.H.set l (.vec kj 1 [c8 mj zj]),Ef Yv YQ y1 Yp y3 mj,⟨fun _ A I=>aJ (Ne.symm (Yw A I)),fun hr=>(by rw[w]at hr; cases hr),fun _ _ _=>⟨by simp,fun id Ye=>?_⟩,fun y=>(by rw[j0 (oN Yg)]at y; cases y)⟩,Ys (H1:=s.H.set l (.vec kj 1 [c8 mj zj])) YA.1,
      ⟨fun _ A I=>?_,fun hr=>(by rw[t]at hr; cases hr),fun ha=>(by rw[j0 ha]at Yu; cases Yu),fun _ _ _ Yk σ Yn=>Ys (H1:=s.H.set l (.vec kj 1 [c8 mj zj])) (YA.2 (by rw[U]at Yk; exact Yk) σ Yn)⟩⟩
     ·have e : id = l := n4 fun e => Ye (aJ (Ne.symm e))
      subst e;exact⟨_,he,YC,hid⟩
     ·show d[A]? = (s.H.set l _)[A]?
      have h1:B[A]? = s.H[A]? := V.1 t A I;by_cases e:A=l
      ·subst e
       rw[O,bd (az X),bd (az Yp)]
      ·rw[O,aJ (Ne.symm e),aJ (Ne.symm e),h1]
   ·-- an YE in YP place, and an operation YJ YK not YH it
    rcases yy Yf hi (fun hw=>(V.2.2.1 Yf Ym hw).1)with⟨Yj,rfl,J⟩|⟨Yj,N,yi,xi,ni,z2,J⟩
    ·subst J
     refine⟨d,(er M ej rfl).1 D,toJ rfl,?_,⟨fun _ A _=>rfl,fun hr=>(by rw[t]at hr; cases hr),fun _ _ _=>⟨rfl,fun _ h=>(h rfl).elim⟩,fun y=>(by rw[j0 Yf]at y; cases y)⟩⟩;unfold Yields;rw[U,Yj];exact⟨rfl,rfl⟩
    ·have Yx:∀ A,kept W i A→A≠N:=by
      intro A I e;subst e;have h:=V.1 t A I;rw[J,bd (az z2),z2]at h;exact gR.ne ni ni (fa h)
     obtain⟨e,he,YD,hid⟩:=(V.2.2.1 Yf Ym Yj).2 N (by
      rw[J,bd (az z2),z2];exact fun e=>gR.ne ni ni (fa e))
     have hk:kept W j N:=Yl e he YD N hid;have YR:B[N]? = some xi:=by rw[J,bd (az z2)]
     have YS:d[N]? = some xi:=by rw[sj.1 w N hk]; exact YR
     have YI:∃ H1,Yields P pf ops g s u H1∧d=H1.set N xi∧H1[N]? = some yi:=by
      cases hw:bz ops s.fr g with
      | none =>
       unfold Yields at D;rw[M,hw]at D;exact D.elim
      | some b =>
       cases b with
       | false =>
        unfold Yields at D;rw[M,hw]at D;refine⟨s.H,?_,?_,z2⟩
        ·unfold Yields
         rw[hw];exact⟨D.1,rfl⟩
        ·rw [D.2]
         exact J
       | true =>
        have h1:=Ng Yr D (by rw[M]; exact hw);have h2:cw P s.eval (s.H.set N xi) g.op=some (u,d):=by
         rw[←J];have:=DX (P:=P) (H:=B) g.op ej;rw[←this];exact h1
        obtain⟨H1,g1,g2,g3⟩:=Nf Yr z2 ni.no h2 YS;refine⟨H1,?_,g2,g3⟩;unfold Yields;simp only[hw,w];exact .inl (.inl g1)
     obtain⟨H1,q1,q2,q3⟩:=YI;refine⟨H1,q1,⟨fun _ A I=>?_,fun hr=>(by rw[w]at hr; cases hr),fun ha=>(by rw[M6 Yr]at ha; cases ha),fun y=>(by rw[M7 Yr]at y; cases y)⟩,?_,⟨fun _ A I=>?_,fun hr=>(by rw[t]at hr; cases hr),fun _ _ _=>⟨?_,fun id Ye=>?_⟩,fun y=>(by rw[j0 Yf]at y; cases y)⟩⟩
     ·by_cases Yy : A = N
      ·rw[Yy,q3,z2]
      ·have h3 : d[A]? = B[A]? := sj.1 w A I
       rw[q2,aJ (Ne.symm Yy),J,aJ (Ne.symm Yy)]at h3;exact h3
     ·rw [q2]
      exact yz (s:=s.put g.dst u H1) (by rw[U]; exact Yj) ni q3
     ·show d[A]? = H1[A]?
      rw[q2,aJ (Ne.symm (Yx A I))]
     ·show d.length = H1.length
      rw[q2];simp
     ·have e2:id=N:=n4 fun e2=>Ye (by
       show d[id]? = H1[id]?
       rw[q2,aJ (Ne.symm e2)])
      subst e2;exact⟨e,he,YD,hid⟩
def qy(P:Program)(pf:FuncId→Bool)(ops:Array Oper)(R:gC)(W:fP)(i:Nat)(K:St→Prop)(s:St):Prop :=
 match ops[i]? with
 |none=>K s
 |some o=>∃ v H',Yields P pf ops o s v H'∧Step P pf ops R W i o s v H'∧K (s.put o.dst v H')
def qz(P:Program)(pf:FuncId→Bool)(ops:Array Oper)(R:gC)(W:fP)(s':St):Nat→Array Bool→St→Prop
 |0,listed,s=>dz .any ops listed=[]∧s=s'
 |fuel+1,listed,s=>(dz .any ops listed=[]→s=s')∧∀ i∈dz .any ops listed,qy P pf ops R W i (qz P pf ops R W s' fuel (listed.setIfInBounds i true)) s
theorem uC{R:gC}{W:fP}{s':St}:∀(fuel:Nat) (listed:Array Bool) (s:St),qz P pf ops R W s' fuel listed s→jZ P pf ops s' fuel listed s
 |0,_,_,h=>h
 | fuel+1,listed,s,h=>by
  refine⟨h.1,fun i hi=>?_⟩;have h1:=h.2 i hi;unfold qy at h1;unfold mW;cases a:ops[i]? with
  |none=>rw[a]at h1; exact uC fuel _ _ h1
  | some o =>
   rw[a]at h1;obtain⟨v,H',g1,_,g2⟩:=h1;exact⟨v,H',g1,uC fuel _ _ g2⟩
theorem Ni{R:gC}{W:fP}{s':St}{i:Nat}{b:Oper}(hi:ops[i]? = some b):∀(fuel:Nat) (listed:Array Bool) (s:St) (v:AV) (H':List ab),lG ops listed →
  (∀ j d,ops[j]? = some d→j≠i→listed.getD j true=false→waits ops ops.size j i=false→b.apart ops d=true∧d.apart ops b=true∧yx pf ops R W i b j d) →
  i∈dz .any ops listed→Yields P pf ops b s v H'→Step P pf ops R W i b s v H'→qz P pf ops R W s' fuel (listed.setIfInBounds i true) (s.put b.dst v H')→qz P pf ops R W s' (fuel+1) listed s:=by
 intro fuel
 induction fuel with
 | zero =>
  intro listed s v H' _ _ hr q l H;refine⟨fun h=>(by rw[h]at hr; cases hr),fun j g=>?_⟩;by_cases a:j=i
  ·subst a
   unfold qy;simp only[hi];exact⟨v,H',q,l,H⟩
  ·have := ready_mono g a
   rw[H.1]at this;cases this
 | succ fuel Y =>
  intro listed s v H' y t hr q l H;refine⟨fun h=>(by rw[h]at hr; cases hr),fun j g=>?_⟩;by_cases a:j=i
  ·subst a
   unfold qy;simp only[hi];exact⟨v,H',q,l,H⟩
  ·have h1 := H.2 j (ready_mono g a)
   obtain⟨w,d,A,Yc⟩:=mem_ready.1 g;unfold qy at h1⊢;simp only[A]at h1⊢;obtain⟨u,I,N,O,M⟩:=h1;have U:waits ops ops.size j i=false:=by
    cases hw:waits ops ops.size j i with
    |false=>rfl
    | true =>
     have:=ur y _ _ _ (uu g) hw;rw[yo hr]at this;cases this
   obtain⟨J,a2,a3⟩:=t j d A a w U;obtain⟨r,q1,q2,q3,q4⟩:=Nh J a2 a3 q l N O;refine⟨u,r,q1,q2,?_⟩;refine Y (listed.setIfInBounds j true) (s.put d.dst u r) v I (qv y g) ?_ (ready_mono hr (Ne.symm a)) q3 q4 ?_
   ·intro k ok hk V B X
    refine t k ok hk V ?_ X;by_cases D:j=k
    ·subst D; exact w
    ·rw[getD_set_ne true D]at B; exact B
   ·rw [Xk _ _ a]
    have:=D2 s b.dst d.dst v u H' I r (CC J).2.1;rw[←this];exact M
def mY(P:Program)(pf:FuncId→Bool)(ops:Array Oper)(R:gC)(W:fP):List Oper→Nat→St→St→Prop
 | [],_,s,s'=>s=s'
 |o::l,j,s,s'=>∃ v H',Yields P pf ops o s v H'∧Step P pf ops R W j o s v H'∧mY P pf ops R W l (j+1) (s.put o.dst v H') s'
def yA(pf:FuncId→Bool)(x y:Oper):Bool :=
 kM pf x y||((match b8 pf x.op,b8 pf y.op with
  |.read,.write=>true
  |.write,.read=>true
  |_,_=>false)||((dn x.op&&dn y.op)||((match b8 pf x.op with
  |.write=>iU x.op&&isVar y.op
  |_=>false)||(dn x.op&&gD y.op))))
theorem Nj{i j:Nat}{x y:Oper}(hi:ops[i]? = some x)(a:ops[j]? = some y)(b:i<j)(hw:waits ops ops.size j i=false)(d:dn x.op=true)(g:dn y.op=true):yv ops=true:=by
 unfold yv;refine gK.2 ⟨j,e_.2 (dM.1 a).1,gK.2 ⟨i,e_.2 b,?_⟩⟩;rw[hi,a];simp[d,g,hw]
theorem Nk{i j:Nat}{x y:Oper}(hi:ops[i]? = some x)(a:ops[j]? = some y)(b:i<j)(hw:waits ops ops.size j i=false)(d:dn x.op=true)(g:gD y.op=true):yw ops=true:=by
 unfold yw;refine gK.2 ⟨j,e_.2 (dM.1 a).1,gK.2 ⟨i,e_.2 b,?_⟩⟩;rw[hi,a];simp[d,g,hw]
theorem Nl{i j:Nat}{x y:Oper}(hi:ops[i]? = some x)(a:ops[j]? = some y)(b:i<j)(hw:waits ops ops.size j i=false)(d:iU x.op=true)(g:isVar y.op=true):lI ops=true:=by
 unfold lI;refine gK.2 ⟨j,e_.2 (dM.1 a).1,gK.2 ⟨i,e_.2 b,?_⟩⟩;rw[hi,a];simp[d,g,hw]
def jx(pf:FuncId→Bool)(ops:Array Oper):Bool :=
  Xj ops &&
  (dV ops.size).all fun j=>(match ops[j]? with
    | some a=>(a.after.toList.all fun e => !xd .any e||e.on<j) &&
      ((dV j).all fun i => match ops[i]? with
        |some b=>waits ops ops.size j i||(b.apart ops a&&a.apart ops b&&yA pf b a)
        |none=>true)
    |none=>true)
def lJ(ops:Array Oper)(R:gC)(W:fP):Prop:=(∀ i id,(i,id)∈R→∀ e∈W,(i<e.1→waits ops ops.size e.1 i=false→id∉e.2.1∧id<e.2.2)∧(e.1<i→waits ops ops.size i e.1=false→id∉e.2.1∧id<e.2.2)) ∧
 (∀ e∈W,∀ e'∈W,e.1<e'.1→waits ops ops.size e'.1 e.1=false→∀ id∈e'.2.1,id∉e.2.1∧id<e.2.2) ∧
 ∀ e∈W,∀ e'∈W,e.1<e'.1→waits ops ops.size e'.1 e.1=false→∀ id∈e.2.1,id<e'.2.2
theorem Nn{R:gC}{W:fP}(g:lJ ops R W){i j:Nat}{x y:Oper}(hi:ops[i]? = some x)(d:ops[j]? = some y)(b:i<j)(hw:waits ops ops.size j i=false)(a:yA pf x y=true):yx pf ops R W i x j y:=by
 unfold yA at a;simp only[xf]at a;rcases a with a|a|a|a|a
 ·exact .inl a
 ·split at a
  ·rename_i h1 q
   refine .inr (.inl ⟨h1,q,fun id hid e he d=>?_⟩);subst d;exact(g.1 i id hid e he).1 b hw
  ·rename_i h1 q
   refine .inr (.inr (.inl ⟨h1,q,fun id hid e he d=>?_⟩));subst d;exact(g.1 j id hid e he).2 b hw
  ·cases a
 ·simp only [aq] at a
  refine .inr (.inr (.inr (.inl ⟨a.1,a.2,?_⟩)));unfold kO;rw[Nj hi d b hw a.1 a.2];rfl
 ·split at a
  ·rename_i h1
   simp only[aq]at a;refine .inr (.inr (.inr (.inr (.inl ⟨h1,a.1,a.2,Nl hi d b hw a.1 a.2,fun e he k id hid e' h l=>?_⟩))));subst k l;exact g.2.1 e' h e he b hw id hid
  ·cases a
 ·simp only [aq] at a
  refine .inr (.inr (.inr (.inr (.inr ⟨a.1,a.2,?_,fun e he l id hid e' h k=>?_⟩))))
  ·unfold kO
   rw[Nk hi d b hw a.1 a.2];simp
  ·subst l k
   exact⟨fun hm=>(g.2.1 e he e' h b hw id hm).1 hid,g.2.2 e he e' h b hw id hid⟩
theorem yB{R:gC}{W:fP}{s':St}(w:jx pf ops=true)(y:lJ ops R W):∀(l:List Oper) (k:Nat) (listed:Array Bool) (s:St),l=ops.toList.drop k→lG ops listed→listed.size=ops.size →
  (∀ j,j<ops.size→(listed.getD j true=false↔k≤j))→mY P pf ops R W l k s s'→qz P pf ops R W s' l.length listed s
 | [],k,listed,s,g,_,r,hk,h=>by
  simp only[mY]at h;refine⟨?_,h⟩;apply Lb.2;intro j a;obtain⟨h0,o,M,_⟩:=mem_ready.1 a;have d:j<ops.size:=(dM.1 M).1;have:=(hk j d).1 h0;have hlen:(ops.toList.drop k).length=0:=by rw[←g]; rfl
  simp at hlen;omega
 | o::l,k,listed,s,g,t,r,hk,h=>by
  obtain⟨v,H',N,I,D⟩:=h;have h0:ops[k]? = some o:=by
   have:(ops.toList.drop k)[0]? = some o:=by rw[←g]; rfl
   simpa using this
  have d:k<ops.size:=(dM.1 h0).1;simp only[jx,aq,cC,e_]at w;obtain⟨_,i⟩:=w;have B:∀ j,j<k→listed.getD j false=true:=by
   intro j a;have A:¬ (listed.getD j true=false):=fun e=>by have:=(hk j (by omega)).1 e; omega
   have:j<listed.size:=by omega
   simp[this]at A⊢;exact A
  have q:k∈dz .any ops listed:=by
   refine mem_ready.2 ⟨(hk k d).2 (aB _),o,h0,fun e he O=>?_⟩;have:=i k d;rw[h0]at this;simp only[aq,cC]at this;have h1:=this.1 e (by simpa using he);simp only[O,Lc,xg,decide_eq_true_eq]at h1;exact B e.on h1
  refine Ni h0 l.length listed s v H' t ?_ q N I ?_
  ·intro j X a U J u
   have b:j<ops.size:=(dM.1 a).1;have V:k≤j:=(hk j b).1 J;have:=i j b;rw[a]at this;simp only[aq,cC,e_]at this;have h1:=this.2 k (by omega);rw[h0]at h1;simp only[u,xg,aq]at h1;exact⟨h1.1.1,h1.1.2,Nn y h0 a (by omega) u h1.2⟩
  ·refine yB (by simp only [jx, aq, cC, e_]; exact ⟨‹_›, i⟩) y l (k + 1) _ _ ?_ (qv t q) (by simpa using r) ?_ D
   ·rw[←mA,←g]; rfl
   ·intro j b
    by_cases e:k=j
    ·subst e
     have:k<listed.size:=by omega
     simp[this]
    ·rw [getD_set_ne true e, hk j b]
     omega
theorem No{R:gC}{W:fP}{id:Nat}{s s':St}{E:Env}{a:Act}{Q:Exit→Act→World→Prop}(hm:P.follows .mixedOrders=true)(i:jx pf ops=true)(k:lJ ops R W)(hs:br s E a)
  (h:mY P pf ops R W ops.toList 0 s s') (l:∀ b w',dm E s' b w'→Q .normal b w'):∀ ro:Option Nat,(Code.region id ops true).wpIn (fz ro) 0 P Q a E.w:=by
 intro ro;have g:br s { E with w:={ E.w with drawn:=E.w.drawn+1 } } a:=⟨hs.H,cR (Env.fK (Ext.drawn E.w _)) _ hs.fr,qa hs.heap (Env.fK (Ext.drawn E.w _)) hs.defers,hs.heap.ext (Ext.drawn E.w _)⟩
 refine wpIn_region_any hm (uo (pf:=pf) _ _ s { E with w:={ E.w with drawn:=E.w.drawn+1 } } a g ?_ (fun b w' q=>l b w' (dm.after (Env.fK (Ext.drawn E.w _)) q)) ro);have:=uC _ _ _ (yB (P:=P) (s':=s') i k ops.toList 0 (fq ops.size false) s (by simp) (by
  intro j d;exfalso;rcases gr j ops.size with h'|h'
  ·simp[h']at d
  ·simp[pU (xs:=fq ops.size false) (by simpa using h')]at d) (by simp) (by intro j d; simp[d]) h)
 simpa using this
end Go.AL
