/-
 What is proved here: every operation that the logic knows,put together,with calls; what an operation leaves. No program in sight; no condition.
-/
import Derived.Test.YtjmnkdlhpemooaaGreatDoorMA
set_option linter.all false
open Array renaming ext'→fm,getElem?_eq_some_iff→gr,toList_append→wN,getElem?_eq_none→Hw,setIfInBounds_comm→agW,replicate→nr
open Bool renaming and_eq_true→ax,or_eq_true→tu,not_true→wQ,false_or→qw
open Classical renaming byContradiction→agY
open Decidable renaming byContradiction→AU
open Function renaming comp_def→Sa
open Go.Builtin renaming len_→R'
open Go.Call renaming operands→tq
open Go.Op renaming operands→fa
open Go.Oper renaming wpIn→oX,semAt_eq→np,apart_spec→Hv
open Go.Region renaming wanted→Ht,binds→Hu,noSelect→agV,ready→kL
open Go.Result renaming andThen_ok→bX
open Go.Sem renaming run_bind→bW,run_pure→fl
open Go.Value.slice renaming injEq→jT
open List renaming length_cons→cr,getElem?_append_left→cK,getElem?_set_self→bx,getElem?_set_ne→aR,all_eq_true→dq,drop_drop→oS,map_map→lu,replicate→bO,mem_cons_self→cO,nodup_cons→kK,set_comm→mo,range→dP,map_congr_left→qv,any_eq_true→ia,eq_nil_iff_forall_not_mem→agX,mem_range→fF,set_append_left→Hy
open Nat renaming le_refl→aD,lt_of_lt_of_le→dz,lt_or_ge→jy
open Option renaming map_some→dO
open Option.some renaming injEq→aQ,inj→gx
namespace Go.AL
open Go
variable [Dr]
def lI(x:Operand):Bool:=x matches .const _
def BS:AV→AV→Option AV
 |.lit (.int k a),.lit (.int _ b)=>some (.lit (.int k (if b>a then b else a)))
 |_,_=>none
def BT:AV→AV→Option AV
 |.lit (.int k a),.lit (.int _ b)=>some (.lit (.int k (if b<a then b else a)))
 |_,_=>none
def q_(f:AV→AV→Option AV):AV→List AV→Option AV
 |x,[]=>some x
 | x,y::l=>match f x y with
  |some z=>q_ f z l
  |none=>none
def TM:List AV→Option AV
 | []=>none
 |x::rest=>q_ BS x rest
def TN:List AV→Option AV
 | []=>none
 |x::rest=>q_ BT x rest
def xz(k:SK)(x:AV):Option AV :=
 match k,x with
 |.str,.lit (.string s)=>some (.int s.size)
 |.slice _ _ _,.lit (.string _)=>none
 | .slice _ _ _,x=>match w8 x with
  |some n=>some (.int n)
  |none=>none
 |_,_=>none
def BU(P:Program)(b:Builtin)(tys:List TypeId)(args:List AV):Option AV :=
 match b with
 | .len=>match tys[0]?,args[0]? with
  |some t,some x=>xz (b_ P t) x
  |_,_=>none
 |.max=>TM args
 |.min=>TN args
 | .cap=>match tys,args with
  | t::_,.lit (.slice none 0 0)::_=>match b_ P t with
   |.slice _ _ _=>some (.int 0)
   |_=>none
  |_,_=>none
 |_=>none
def BV(r:Operand→AV)(fn:Fn)(first caps:Array Operand):Option AV :=
 match fn with
 |.func f=>if first.toList.isEmpty then some (.clo f (caps.toList.map r)) else none
 |_=>none
def BW(P:Program)(r:Operand→AV)(c:Call):Option AV :=
 match c.callee with
 |.builtin b=>BU P b c.argTypes.toList (c.args.toList.map r)
 |_=>none
def gS(P:Program)(r:Operand→AV):Op→Option AV
 |.move x | .assign x=>some (r x)
 | .pick c a b=>match r c with
  |.lit (.bool t)=>some (bif t then r a else r b)
  |_=>none
 | .extract t i=>match r t with
  |.tuple vs=>vs[i]?
  |_=>none
 | .field t x f=>match qJ P t f with
  |some k=>Br k (r x)
  |none=>none
 | .fieldAddr t x f=>match qJ P t f with
  |some k=>Bg k (r x)
  |none=>none
 |.indexAddr t x i=>j0 (b_ P t) (r x) (r i)
 |.index t x i=>nE (b_ P t) (r x) (r i)
 |.binOp op t x y _=>gA P op t (lI x||lI y) (r x) (r y)
 |.unOp op _ x=>qR op (r x)
 |.convert s d x=>qS P s d (r x)
 |.build t parts=>Bt P t (parts.toList.map fun p=>(p.1,r p.2))
 |.buildSlice t n parts=>qX P t n (parts.toList.map fun p=>(p.1,r p.2))
 |.slice t x lo hi mx=>kQ P t (r x) (lo.map r) (hi.map r) (mx.map r)
 |.makeFunc fn first caps=>BV r fn first caps
 | .nilCheck x=>match r x with
  |.ptr id ad k row col=>some (.ptr id ad k row col)
  |.cptr cells=>some (.cptr cells)
  |.clo f caps=>some (.clo f caps)
  |_=>none
 | .makeInterface t _=>match P.underlying t with
  |some (.interface _)=>none
  |some _=>some .ifc
  |none=>none
 |.call c=>BW P r c
 |_=>none
theorem pz{E:Env}{r:Operand→AV}{ρ:Operand→Value}(h:∀ x,rel E (r x) (ρ x)):∀(l:List Operand),af E (l.map r) (l.map ρ)
 | []=>by simp[af]
 |x::l=>by simp only[List.map_cons,af]; exact⟨h x,pz h l⟩
theorem BX{E:Env}{r:Operand→AV}{ρ:Operand→Value}(h:∀ x,rel E (r x) (ρ x))(o:Option Operand):nC E (o.map r) (o.map ρ):=by
 cases o with
 |none=>simp[nC]
 |some x=>simpa[nC]using h x
def gh(E:Env)(v:AV)(u:Value)(w':World):Prop:=Ext E.w w'∧rel { E with w:=w' } v u
theorem gh.same{E:Env}{v:AV}{u:Value}(h:rel E v u):gh E v u E.w:=⟨Ext.refl _,h⟩
theorem j9{P:Program}{s:Sem Value}{w w':World}{u:Value}(h:s.run P w=.ok u w'):(do pure (Next.value (← s)):Sem Next).run P w=.ok (.value u) w':=by
 simp[h]
theorem BY{P:Program}{E:Env}{f:AV→AV→Option AV}{g:Value→Value→Sem Value}
  (q:∀ x y c d z,f x y=some z→rel E x c→rel E y d→∃ u,(g c d).run P E.w=.ok u E.w∧rel E z u) :
  ∀(rest:List AV) (x:AV) (c:Value) (cs:List Value) (v:AV),rel E x c→af E rest cs→q_ f x rest=some v →
   ∃ u,(cs.foldlM g c).run P E.w=.ok u E.w∧rel E v u
 | [],x,c,cs,v,k,hr,h=>by
  cases cs with
  |nil=>simp[q_]at h; subst h; exact⟨c,rfl,k⟩
  |cons _ _=>simp[af]at hr
 | y::rest,x,c,cs,v,k,hr,h=>by
  cases cs with
  |nil=>simp[af]at hr
  | cons d cs =>
   simp only[af]at hr;simp only[q_]at h;split at h
   ·rename_i z B
    obtain⟨u,g1,g2⟩:=q x y c d z B k hr.1;obtain⟨I,g3,g4⟩:=BY q rest z u cs v g2 hr.2 h;exact⟨I,by simp only[List.foldlM_cons,bW,g1,bX]; exact g3,g4⟩
   ·cases h
theorem TO{P:Program}{E:Env}(x y:AV)(c d:Value)(z:AV)(h:BS x y=some z)(k:rel E x c)(q:rel E y d) :
  ∃ u,(Builtin.max2 c d).run P E.w=.ok u E.w∧rel E z u:=by
 unfold BS at h;split at h
 ·cases h
  simp only[rel]at k q;subst k; subst q;exact⟨_,rfl,by simp[rel]⟩
 ·cases h
theorem TP{P:Program}{E:Env}(x y:AV)(c d:Value)(z:AV)(h:BT x y=some z)(k:rel E x c)(q:rel E y d) :
  ∃ u,(Builtin.min2 c d).run P E.w=.ok u E.w∧rel E z u:=by
 unfold BT at h;split at h
 ·cases h
  simp only[rel]at k q;subst k; subst q;exact⟨_,rfl,by simp[rel]⟩
 ·cases h
theorem TQ{P:Program}{E:Env}{b:Builtin}{tys:Array TypeId}{ty:TypeId}{consts:Array Bool}{args:List AV}{cargs:Array Value}{v:AV}
  (h:BU P b tys.toList args=some v) (hr:af E args cargs.toList):∃ u,(builtin b tys ty consts cargs).run P E.w=.ok (.value u) E.w∧rel E v u:=by
 cases b<;>simp only[BU]at h<;>try cases h
 case len =>
  split at h
  case h_2=>cases h
  rename_i t x I O;obtain⟨c,J,d⟩:=mA hr O;have q:tys[0]? = some t:=by simpa using I
  have y:cargs[0]? = some c:=by simpa using J
  unfold xz at h;split at h
  ·rename_i s hk
   cases h;simp only[rel]at d;subst d;refine⟨goInt s.size,?_,by simp[rel,goInt]⟩;simp[builtin,R',q,y,Sem.bp (pe hk)]
  ·cases h
  ·rename_i e sz M hk N
   split at h
   ·rename_i n B
    cases h;obtain⟨hu,_⟩:=gz hk;rcases SE B d with⟨s,rfl,_⟩|⟨base,cap,rfl⟩
    ·exfalso
     unfold w8 at B;split at B
     ·rename_i s'
      exact N s' rfl
     all_goals first
      |(simp[rel,dV]at d; done)
      |cases B
    ·refine ⟨goInt n, ?_, by simp [rel, goInt]⟩
     simp[builtin,R',q,y,Sem.bp hu]
   ·cases h
  ·cases h
 case max =>
  cases args with
  |nil=>cases h
  | cons x rest =>
   cases k:cargs.toList with
   |nil=>rw[k]at hr; simp[af]at hr
   | cons c cs =>
    rw[k]at hr;simp only[af]at hr;obtain⟨u,g1,g2⟩:=BY (P:=P) TO rest x c cs v hr.1 hr.2 h;refine⟨u,?_,g2⟩;simp[builtin,Builtin.max_,k,g1]
 case min =>
  cases args with
  |nil=>cases h
  | cons x rest =>
   cases k:cargs.toList with
   |nil=>rw[k]at hr; simp[af]at hr
   | cons c cs =>
    rw[k]at hr;simp only[af]at hr;obtain⟨u,g1,g2⟩:=BY (P:=P) TP rest x c cs v hr.1 hr.2 h;refine⟨u,?_,g2⟩;simp[builtin,Builtin.min_,k,g1]
 case cap =>
  split at h
  case h_2=>cases h
  rename_i t U as I;obtain⟨c,J,d⟩:=mA (i:=0) hr rfl;have q:tys[0]? = some t:=by
   have:tys.toList[0]? = some t:=by rw[I]; rfl
   simpa using this
  have y:cargs[0]? = some c:=by simpa using J
  simp only[rel]at d;subst d;split at h
  ·rename_i e sz M hk
   cases h;obtain⟨hu,_⟩:=gz hk;refine⟨goInt 0,?_,by simp[rel,goInt]⟩;simp[builtin,Builtin.cap_,q,y,Sem.bp hu]
  ·cases h
theorem TR{P:Program}{E:Env}(HE:ar E){r:Operand→AV}{ρ:Operand→Value}(hr:∀ x,rel E (r x) (ρ x)){o:Oper}{v:AV}(h:gS P r o.op=some v) :
  ∃ u w',(execOp ρ o).run P E.w=.ok (.value u) w'∧gh E v u w':=by
 obtain⟨dst,op,type,pos,after,guard⟩:=o;have same:∀{s:Sem Value},(∃ u,s.run P E.w=.ok u E.w∧rel E v u)→∃ u w',(do pure (Next.value (← s)):Sem Next).run P E.w=.ok (.value u) w'∧gh E v u w':=by
  rintro s ⟨u,g1,g2⟩;exact⟨u,E.w,j9 g1,gh.same g2⟩
 cases op<;>simp only[gS]at h<;>try cases h
 case move x=>exact⟨ρ x,E.w,rfl,gh.same (hr x)⟩
 case assign x=>exact⟨ρ x,E.w,rfl,gh.same (hr x)⟩
 case pick c a b =>
  split at h
  ·rename_i t J
   cases h;have B:=hr c;rw[J]at B;simp only[rel]at B;refine⟨if t then ρ a else ρ b,E.w,?_,?_⟩
   ·simp[execOp,B,asBool]
   ·cases t
    ·exact gh.same (hr b)
    ·exact gh.same (hr a)
  ·cases h
 case build t parts =>
  obtain⟨u,g1,g2⟩:=SV (E:=E) (cparts:=parts.toList.map fun p=>(p.1,ρ p.2)) h (by simp) (by
   simp only[lu];have:=pz hr (parts.toList.map (·.2));simpa[lu,Sa]using this)
  have e:(parts.toList.map fun p=>(p.1,ρ p.2)).toArray=parts.map fun(i,x)=>(i,ρ x):=by
   apply fm; simp
  rw[e]at g1;exact same ⟨u,g1,g2⟩
 case buildSlice t n parts =>
  obtain⟨u,w',g1,g2,g3⟩:=Tb HE (cparts:=parts.toList.map fun p=>(p.1,ρ p.2)) h (by simp) (by
   simp only[lu];have:=pz hr (parts.toList.map (·.2));simpa[lu,Sa]using this)
  have e:(parts.toList.map fun p=>(p.1,ρ p.2)).toArray=parts.map fun(i,x)=>(i,ρ x):=by
   apply fm; simp
  rw[e]at g1;exact⟨u,w',j9 g1,g2,g3⟩
 case nilCheck x =>
  have q:=hr x;split at h
  ·rename_i id ad k row col he
   cases h;rw[he]at q;have I:=q;simp only[rel]at I;obtain⟨⟨b,o,B⟩,_⟩:=I;exact⟨ρ x,E.w,by simp[execOp,B],gh.same q⟩
  ·rename_i cells he
   cases h;rw[he]at q;have I:=q;simp only[rel]at I;obtain⟨_,b,o,B,_⟩:=I;exact⟨ρ x,E.w,by simp[execOp,B],gh.same q⟩
  ·rename_i f caps he
   cases h;rw[he]at q;have I:=q;simp only[rel]at I;obtain⟨cs,B,_⟩:=I;exact⟨ρ x,E.w,by simp[execOp,B],gh.same q⟩
  ·cases h
 case binOp op t x y _ =>
  refine same (SP (x:=x) (y:=y) (fun hk=>?_) h (hr x) (hr y));cases x<;>cases y<;>first|rfl|exact hk
 case unOp op _ x=>exact same (SQ h (hr x))
 case convert s d x=>exact same (SR h (hr x))
 case makeInterface t x =>
  split at h
  ·cases h
  ·rename_i d M hu
   cases h;refine same ⟨.iface t (ρ x),?_,by simp only[rel]; exact⟨_,_,rfl⟩⟩;simp only[Instr.makeInterface,bW,Sem.bp hu,bX];cases d<;>first|rfl|(exact(M _ hu).elim)|(exact(M _ rfl).elim)
  ·cases h
 case makeFunc fn first caps =>
  cases fn<;>simp only[BV]at h<;>try cases h
  rename_i f;split at h
  ·rename_i O
   cases h;refine⟨.func (.func f) (first.map ρ) (caps.map ρ),E.w,rfl,gh.same ?_⟩;simp only[rel];refine⟨caps.map ρ,?_,by simpa using pz hr caps.toList⟩;have:first=#[]:=by
    apply fm;simpa using O
   simp[this]
  ·cases h
 case slice t x lo hi mx=>exact same (SL h (hr x) (BX hr lo) (BX hr hi) (BX hr mx))
 case fieldAddr t x f =>
  split at h
  ·rename_i k hk; exact same (SG hk h (hr x))
  ·cases h
 case field t x f =>
  split at h
  ·rename_i k hk; exact same (SU hk h (hr x))
  ·cases h
 case indexAddr t x i=>exact same (SH HE h (hr x) (hr i))
 case index t x i=>exact same (SS h (hr x) (hr i))
 case extract t i =>
  split at h
  ·rename_i vs J
   have q:=hr t;rw[J]at q;simp only[rel]at q;obtain⟨cs,B,U⟩:=q;obtain⟨u,g1,g2⟩:=mA U h;refine same ⟨u,?_,g2⟩;have N:cs[i]? = some u:=by simpa using g1
   simp[Instr.extract,B,N]
  ·cases h
 case call c =>
  obtain⟨callee,args,argTypes⟩:=c;cases callee<;>simp only[BW]at h<;>try cases h
  rename_i b;obtain⟨u,g1,g2⟩:=TQ (P:=P) (E:=E) (b:=b) (tys:=argTypes) (ty:=type) (consts:=args.map fun | .const _=>true|_=>false) (cargs:=args.map ρ) h
   (by simpa using pz hr args.toList)
  exact⟨u,E.w,by simp only[execOp,resolve,bW,fl,bX,invoke]; exact g1,gh.same g2⟩
def xA(P:Program)(r:Operand→AV)(H:List ab)(c:Call):Option (AV × List ab) :=
 match c.callee with
 | .builtin .append=>match c.args.toList,c.argTypes.toList with
  | [s,x],[t,xt]=>match po P t xt (r s) (r x) H with
   |some y=>some y
   |none=>qT P t xt (r s) (r x) H
  |_,_=>none
 | .builtin .clear=>match c.args.toList,c.argTypes.toList with
  | [x],[t]=>match tT P t (r x) H with
   |some H'=>some (.tuple [],H')
   |none=>none
  |_,_=>none
 | .builtin .delete=>match c.args.toList,c.argTypes.toList with
  | [x,k],t::_=>match tS P t (r x) (r k) H with
   |some H'=>some (.tuple [],H')
   |none=>none
  |_,_=>none
 |_=>none
def c_(P:Program)(r:Operand→AV)(H:List ab):Op→Option (AV × List ab)
 |.alloc t=>pj P t H
 |.box _ x=>xo (r x) H
 | .store t a x=>match qV P t (r a) (r x) H with
  |some H'=>some (.undef,H')
  |none=>none
 |.makeSlice t l c=>tO P t (r l) (r c) H
 |.buildSlice t n parts=>tU P t n (parts.toList.map fun p=>(p.1,r p.2)) H
 |.range t x=>xq P t (r x) H
 |.next it isString=>xr (r it) isString H
 |.makeMap _ none=>some (.map H.length,H++[.map [] 0])
 | .mapUpdate t m k v=>match lH P t (r m) (r k) (r v) H with
  |some H'=>some (.undef,H')
  | none=>match pq P t (r m) (r k) (r v) H with
   |some H'=>some (.undef,H')
   | none=>match tY P t (r m) (r k) (r v) H with
    |some H'=>some (.undef,H')
    |none=>none
 | .insert t m k v=>match lH P t (r m) (r k) (r v) H with
  |some H'=>some (.undef,H')
  |none=>none
 | .lookup t m k false=>match fT P t (r m) (r k) false H with
  |some v=>some (v,H)
  |none=>tW P t (r m) (r k) H
 | .mapEntry t m k=>match im P t (r m) (r k) H with
  |some y=>some y
  |none=>jf P t (r m) (r k) H
 | .entryStore _ m s x=>match j8 (r m) (r s) (r x) H with
  |some H'=>some (.undef,H')
  | none=>match kU (r m) (r s) (r x) H with
   |some H'=>some (.undef,H')
   |none=>none
 |.call c=>xA P r H c
 |_=>none
theorem cQ.of_le{E:Env}{w':World}{H':List ab}(h1:ar { w:=w',H:=H',loc:=E.loc,X:=E.X })(d:E.le { w:=w',H:=H',loc:=E.loc,X:=E.X })(u:Value) :
  cQ E .undef H' u w':=⟨E.loc,E.X.r,by simp[rel],h1,d⟩
theorem gh.toOp{E:Env}(HE:ar E){v:AV}{u:Value}{w':World}(h:gh E v u w'):cQ E v E.H u w' :=
 ⟨E.loc,E.X.r,h.2,HE.ext h.1,Env.jd h.1⟩
theorem TS{P:Program}{E:Env}(HE:ar E){r:Operand→AV}{ρ:Operand→Value}(hr:∀ x,rel E (r x) (ρ x)){o:Oper}{v:AV}{H':List ab}
  (h:c_ P r E.H o.op=some (v,H')) :
  ∃ n u w',(execOp ρ o).run P E.w=.ok n w'∧(n=.value u∨n=.skip∧u=undef)∧cQ E v H' u w':=by
 obtain⟨dst,op,type,pos,after,guard⟩:=o;have same:∀{s:Sem Value},(∃ u w',s.run P E.w=.ok u w'∧cQ E v H' u w') →
   ∃ n u w',(do pure (Next.value (← s)):Sem Next).run P E.w=.ok n w'∧(n=.value u∨n=.skip∧u=undef)∧cQ E v H' u w':=by
  rintro s ⟨u,w',g1,g2⟩;exact⟨_,u,w',j9 g1,.inl rfl,g2⟩
 cases op<;>simp only[c_]at h<;>try cases h
 case alloc t=>exact same (S5 HE h)
 case box t x=>exact same (S_ HE h (hr x))
 case store t a x =>
  split at h
  ·rename_i H1 d
   cases h;obtain⟨w',g1,g2,g3⟩:=Ij HE d (hr a) (hr x);exact⟨.skip,undef,w',by simp[execOp,g1],.inr ⟨rfl,rfl⟩,cQ.of_le g2 g3 _⟩
  ·cases h
 case makeSlice t l c=>exact same (Ta HE h (hr l) (hr c))
 case buildSlice t n parts =>
  obtain⟨u,w',g1,g2⟩:=To HE (cparts:=parts.toList.map fun p=>(p.1,ρ p.2)) h (by simp) (by
   simp only[lu];have:=pz hr (parts.toList.map (·.2));simpa[lu,Sa]using this)
  have e:(parts.toList.map fun p=>(p.1,ρ p.2)).toArray=parts.map fun(i,x)=>(i,ρ x):=by
   apply fm; simp
  rw[e]at g1;exact same ⟨u,w',g1,g2⟩
 case range t x=>exact same (Td HE h (hr x))
 case next it isString=>exact same (Te HE h (hr it))
 case makeMap t res =>
  cases res with
  |some _=>cases h
  | none =>
   cases h;exact same ⟨_,_,by simp[Instr.makeMap,newObj]; rfl,Tg HE⟩
 case mapUpdate t m k x =>
  split at h
  ·rename_i H1 d
   cases h;obtain⟨w',g1,g2,g3⟩:=ID HE d (hr m) (hr k) (hr x);exact⟨.skip,undef,w',by simp[execOp,g1],.inr ⟨rfl,rfl⟩,cQ.of_le g2 g3 _⟩
  ·split at h
   ·rename_i H1 d
    cases h;obtain⟨w',g1,g2⟩:=Tu HE d (hr m) (hr k) (hr x);exact⟨.skip,undef,w',by simp[execOp,g1],.inr ⟨rfl,rfl⟩,g2 _⟩
   ·split at h
    ·rename_i H1 d
     cases h;obtain⟨w',g1,g2,g3⟩:=TI HE d (hr m) (hr k) (hr x);exact⟨.skip,undef,w',by simp[execOp,g1],.inr ⟨rfl,rfl⟩,cQ.of_le g2 g3 _⟩
    ·cases h
 case lookup t m k ok =>
  cases ok with
  |true=>cases h
  | false =>
   simp only[]at h;split at h
   ·rename_i v1 U
    cases h;obtain⟨u,g1,g2⟩:=Iy HE U (hr m) (hr k);exact same ⟨u,_,g1,gh.toOp HE ⟨Ext.refl _,g2⟩⟩
   ·exact same (Tt HE h (hr m) (hr k))
 case mapEntry t m k =>
  split at h
  ·rename_i y B
   cases h;exact same (Tz HE B (hr m) (hr k))
  ·exact same (TJ HE h (hr m) (hr k))
 case entryStore t m s x =>
  split at h
  ·rename_i H1 d
   cases h;obtain⟨w',g1,g2⟩:=TB (P:=P) (t:=t) HE d (hr m) (hr s) (hr x);exact⟨.skip,undef,w',by simp[execOp,g1],.inr ⟨rfl,rfl⟩,g2 _⟩
  ·split at h
   ·rename_i H1 d
    cases h;obtain⟨w',g1,g2⟩:=TL (P:=P) (t:=t) HE d (hr m) (hr s) (hr x);exact⟨.skip,undef,w',by simp[execOp,g1],.inr ⟨rfl,rfl⟩,g2 _⟩
   ·cases h
 case insert t m k x =>
  split at h
  ·rename_i H1 d
   cases h;obtain⟨w',g1,g2,g3⟩:=ID HE d (hr m) (hr k) (hr x);exact⟨.skip,undef,w',by simp[execOp,g1],.inr ⟨rfl,rfl⟩,cQ.of_le g2 g3 _⟩
  ·cases h
 case call c =>
  obtain⟨callee,args,argTypes⟩:=c;unfold xA at h;split at h
  ·rename_i q
   simp only[]at q;subst q;simp only[]at h;split at h
   case h_2=>cases h
   rename_i s x t xt J M;have I:args=#[s,x]:=by apply fm; simpa using J
   have N:argTypes=#[t,xt]:=by apply fm; simpa using M
   subst I;subst N;split at h
   ·rename_i y B
    cases h;obtain⟨u,w',g1,g2⟩:=Tn (P:=P) (ty:=type) HE B (hr s) (hr x);refine⟨.value u,u,w',?_,.inl rfl,g2⟩;simp[execOp,resolve,invoke,builtin,g1]
   ·obtain ⟨u, w', g1, g2⟩ := S2 (P := P) (ty := type) HE h (hr s) (hr x)
    refine⟨.value u,u,w',?_,.inl rfl,g2⟩;simp[execOp,resolve,invoke,builtin,g1]
  ·rename_i q
   simp only[]at q;subst q;simp only[]at h;split at h
   case h_2=>cases h
   rename_i x t J M;have I:args=#[x]:=by apply fm; simpa using J
   have N:argTypes=#[t]:=by apply fm; simpa using M
   subst I;subst N;split at h
   ·rename_i H1 B
    cases h;obtain⟨w',g1,g2,g3⟩:=Tl (P:=P) (ty:=type) (tys:=#[t]) (cs:=#[ρ x]) HE B rfl rfl (hr x);refine⟨.value (.tuple #[]),.tuple #[],w',?_,.inl rfl,E.loc,E.X.r,by simp[rel,af],g2,g3⟩;simp[execOp,resolve,invoke,builtin,g1]
   ·cases h
  ·rename_i q
   simp only[]at q;subst q;simp only[]at h;split at h
   case h_2=>cases h
   rename_i x k t V J M;have I:args=#[x,k]:=by apply fm; simpa using J
   subst I;split at h
   ·rename_i H1 B
    cases h;have O:argTypes[0]? = some t:=by
     have:argTypes.toList[0]? = some t:=by rw[M]; rfl
     simpa using this
    obtain⟨w',g1,g2,g3⟩:=Tj (P:=P) (ty:=type) (tys:=argTypes) (cs:=#[ρ x,ρ k]) HE B O rfl rfl (hr x) (hr k);refine⟨.value (.tuple #[]),.tuple #[],w',?_,.inl rfl,E.loc,E.X.r,by simp[rel,af],g2,g3⟩;simp[execOp,resolve,invoke,builtin,g1]
   ·cases h
  ·cases h
def tZ(P:Program)(f:FuncId)(args:List AV)(H:List ab)(Q:AV→List ab→Prop):Prop :=
 ∀(E:Env) (cargs:Array Value),E.H=H→ar E→af E args cargs.toList →
  Calls P f cargs E.w fun e w'=>∃ c v H',e=.returned c∧Q v H'∧cQ E v H' c w'
def cR(P:Program)(f:FuncId)(args:List AV)(v:AV):Prop:=∀ H,tZ P f args H fun d H'=>d=v∧H'=H
theorem tZ.mono{P:Program}{f:FuncId}{args:List AV}{H:List ab}{Q d:AV→List ab→Prop}(h:tZ P f args H Q)(k:∀ v H',Q v H'→d v H'):tZ P f args H d :=
 fun E cargs h1 u y=>(h E cargs h1 u y).mono fun _ _ ⟨c,v,H',e,q,r⟩=>⟨c,v,H',e,k v H' q,r⟩
def fc(P:Program)(f:FuncId):Bool :=
 match P.funcs[f]? with
 |some fn => !(fn.name == "runtime.NumGoroutine")&&fn.body.isSome
 |none=>false
theorem BZ{P:Program}{f:FuncId}(h:fc P f=true)(args:Array Value)(w:World):(callFunc f args).run P w=.ok (.enter f args) w:=by
 unfold fc at h;split at h
 ·rename_i fn d
  simp only[ax,Bool.not_eq_true']at h;have h1:fn.name ≠ "runtime.NumGoroutine" := by simpa using h.1
  have k:fn.body≠none:=fun e=>by rw[e]at h; simp at h
  simp[callFunc,d,h1,k]
 ·cases h
def B0(r:Operand→AV)(c:Call):Option (FuncId × List AV) :=
 match c.callee with
 | .value g=>match r g with
  |.clo f caps=>some (f,c.args.toList.map r++caps)
  |_=>none
 |_=>none
def iq(r:Operand→AV):Op→Option (FuncId × List AV)
 |.call c=>B0 r c
 |_=>none
theorem IV{P:Program}{E:Env}{r:Operand→AV}{ρ:Operand→Value}(hr:∀ x,rel E (r x) (ρ x)){o:Oper}{f:FuncId}{args:List AV}
  (h:iq r o.op=some (f,args)) (hb:fc P f=true):∃ cargs:Array Value,(execOp ρ o).run P E.w=.ok (.enter f cargs) E.w∧af E args cargs.toList:=by
 obtain⟨dst,op,type,pos,after,guard⟩:=o;cases op<;>simp only[iq]at h<;>try cases h
 rename_i c;obtain⟨callee,as,argTypes⟩:=c;cases callee<;>simp only[B0]at h<;>try cases h
 rename_i g;split at h
 case h_2=>cases h
 rename_i u caps hg;cases h;have d:=hr g;rw[hg]at d;simp only[rel]at d;obtain⟨cs,k,q⟩:=d;refine⟨as.map ρ++cs,?_,?_⟩
 ·simp[execOp,resolve,k,Deferred.ofValue,invoke,BZ hb]
 ·simp only [wN, Array.toList_map]
  exact j7 (pz hr as.toList) q
end Go.AL

namespace Go.AL
open Go
variable [Dr]
inductive TT where
 |pure|read|write
 deriving DecidableEq
def TU(pf:FuncId→Bool)(c:Call):Bool :=
 match c.argTypes.toList with
 | [t]=>pf (t+1000000)
 |_=>false
def cL(pf:FuncId→Bool):Op→TT
 |.load ..=>.read
 |.lookup t _ _ _=>if pf (t+1500000) then .write else .read
 |.buildSlice t n _=>if pf (t+100000*n+2000000) then .write else .pure
 |.alloc .. | .box .. | .store .. | .makeSlice .. | .mapUpdate .. | .insert .. | .makeMap .. | .mapEntry .. | .entryStore .. | .range .. | .next .. | .entry ..=>.write
 |.go .. | .defer .. | .panic .. | .send .. | .recv .. | .select .. | .makeChan .. | .ready .. | .waits ..=>.write
 | .call c=>match c.callee with
  | .builtin .len=>match TU pf c with
   |true=>.read
   |false=>.pure
  |.builtin .max | .builtin .min | .builtin .cap=>.pure
  |.value (.func f)=>if pf f then .pure else .write
  |_=>.write
 |_=>.pure
def nH(P:Program)(r:Operand→AV)(H:List ab)(c:Call):Option AV :=
 match c.callee,c.args.toList,c.argTypes.toList with
 | .builtin .len,[a],[t]=>match dc P t,r a with
  | some _,.map id=>match H[id]? with
   |some (.map es _)=>some (.int es.length)
   |_=>none
  |_,_=>none
 |_,_,_=>none
theorem TV{P:Program}{E:Env}(HE:ar E){r:Operand→AV}{ρ:Operand→Value}(hr:∀ x,rel E (r x) (ρ x)){o:Oper}{c:Call}{v:AV}(ho:o.op=.call c)(h:nH P r E.H c=some v) :
  ∃ u,(execOp ρ o).run P E.w=.ok (.value u) E.w∧rel E v u:=by
 obtain⟨dst,op,type,pos,after,guard⟩:=o;subst ho;obtain⟨callee,args,argTypes⟩:=c;unfold nH at h;split at h
 case h_2=>cases h
 rename_i a t k d q;simp only[]at k d q;subst k;have B:args=#[a]:=by apply fm; simpa using d
 have I:argTypes=#[t]:=by apply fm; simpa using q
 subst B;subst I;split at h
 case h_2=>cases h
 rename_i p id J hid;split at h
 case h_2=>cases h
 rename_i es cl hH;cases h;have y:=hr a;rw[hid]at y;obtain⟨b,n,ms,M,h1,N,O⟩:=pk HE hH y;obtain⟨W,et⟩:=p;have U:=(dX.1 O).1;have V:(getObj b).run P E.w=.ok (.map ms cl) E.w:=by simp[getObj,Sem.run,N]
 refine⟨goInt ms.size,?_,by simp[rel,goInt,U]⟩;simp only[execOp,resolve,bW,fl,bX,invoke];simp[builtin,R',Sem.bp (ft J),M,V]
def eL(P:Program)(r:Operand→AV)(H:List ab):Op→Option AV
 |.load t a=>ig P t (r a) H
 | .lookup t m k ok=>match fT P t (r m) (r k) ok H with
  |some v=>some v
  |none=>jF P t (r m) (r k) ok H
 |.call c=>nH P r H c
 |_=>none
theorem TW{P:Program}{E:Env}(HE:ar E){r:Operand→AV}{ρ:Operand→Value}(hr:∀ x,rel E (r x) (ρ x)){o:Oper}{v:AV}(h:eL P r E.H o.op=some v) :
  ∃ u,(execOp ρ o).run P E.w=.ok (.value u) E.w∧rel E v u:=by
 obtain⟨dst,op,type,pos,after,guard⟩:=o;cases op<;>simp only[eL]at h<;>try cases h
 case load t a =>
  obtain⟨u,g1,g2⟩:=HS HE h (hr a);exact⟨u,j9 g1,g2⟩
 case lookup t m k ok =>
  split at h
  ·rename_i v1 h1
   cases h;obtain⟨u,g1,g2⟩:=Iy HE h1 (hr m) (hr k);exact⟨u,j9 g1,g2⟩
  ·obtain ⟨u, g1, g2⟩ := TG HE h (hr m) (hr k)
   exact⟨u,j9 g1,g2⟩
 case call c=>exact TV HE hr rfl h
def dB(P:Program)(f:FuncId)(args:List AV)(H:List ab)(v:AV)(H':List ab):Prop:=tZ P f args H fun v1 H1=>v1=v∧H1=H'
def bQ(ops:Array Oper)(fr:List AV)(o:Oper):Option Bool :=
 match o.guard with
 |none=>some true
 | some (j,want)=>match (ops[j]?).bind (·.dst) with
  | some t=>match fr[t]? with
   |some (.lit (.bool b))=>some (b==want)
   |some (.tuple [])=>some false
   |_=>none
  |none=>none
def TX(H:List ab)(v v1:AV)(H1:List ab):Prop :=
 ∃(id ad:Nat) (ks:List Kd) (rows:List (List G)),v=.vec ks.length id ad 0 rows.length∧H[id]? = some (.vec ks.length ad (rows.map (aH ks)))∧v1=.listF ks rows∧H1=H.set id .dead
theorem IW{E:Env}(HE:ar E){id ad:Nat}{ks:List Kd}{rows:List (List G)} (hid:E.H[id]? = some (.vec ks.length ad (rows.map (aH ks)))) {c:Value} (hr:rel E (.vec ks.length id ad 0 rows.length) c) :
  rel { w:=E.w,H:=E.H.set id .dead,loc:=E.loc.set id none,X:=E.X } (.listF ks rows) c:=by
 have hle:=Env.qI HE id;have ho:=HE.obj id _ hid;rw[iN];simp only[rel]at hr⊢;obtain⟨⟨base,cap,rfl,v,_⟩,_,h⟩:=hr;obtain⟨J,y⟩:=h ⟨_,hid,rfl⟩;have q:eS (rows.map (aH ks)):=by
  intro r hr;obtain⟨g,_,rfl⟩:=List.mem_map.1 hr;exact fG ks g
 refine⟨q,base,cap,by simp,by simpa using v,?_⟩;simp only[aJ]at ho;rcases ho with⟨h1,u⟩|⟨b,mm,h1,u,h,_,B⟩
 ·exact .inl u
 ·obtain ⟨g1, o, g2, g3⟩ := y b mm h1
  by_cases hm:rows=[]
  ·subst hm; exact .inl rfl
  ·right
   have:0<rows.length:=by cases rows with|nil=>exact(hm rfl).elim|cons _ _=>simp
   simp at h;have ho:=g2 (by omega);simp at ho;subst ho;simp only[jT]at g3;refine⟨b,0,g3.1,⟨(HE.lt id b mm h1).1,?_,(HE.lt id b mm h1).2⟩,kO hle.toC _ q rfl B⟩;rintro(⟨j,I,d⟩|⟨l,k,I,d⟩)
   case inr=>exact HE.cP _ _ _ _ _ _ h1 d
   simp only[List.getElem?_set]at d;split at d
   ·split at d<;>cases d
   ·rename_i aw
    exact aw (HE.inj _ _ _ _ _ h1 d)
def ra(P:Program)(r:Operand→AV)(H:List ab)(v:AV)(H':List ab):Op→Prop
 |.store t a x=>∃ v1 H1,TX H (r x) v1 H1∧qV P t (r a) v1 H1=some H'∧v=.undef
 |_=>False
theorem TY{P:Program}{r r':Operand→AV}{H:List ab}{v:AV}{H':List ab}(o:Op)(h:∀ x∈o.operands,r x=r' x):ra P r H v H' o=ra P r' H v H' o:=by
 cases o<;>try rfl
 rename_i t a x;simp only[ra];rw[h a (by simp[fa]),h x (by simp[fa])]
theorem TZ{P:Program}{E:Env}(HE:ar E){r:Operand→AV}{ρ:Operand→Value}(hr:∀ x,rel E (r x) (ρ x)){o:Oper}{v:AV}{H':List ab}(h:ra P r E.H v H' o.op) :
  ∃ w',(execOp ρ o).run P E.w=.ok .skip w'∧cQ E v H' undef w':=by
 obtain⟨dst,op,type,pos,after,guard⟩:=o;cases op<;>try exact h.elim
 rename_i t a x;obtain⟨v1,H1,⟨id,ad,ks,rows,h1,d,rfl,rfl⟩,q,rfl⟩:=h;have k:=hr x;rw[h1]at k;have hle:=Env.qI HE id;obtain⟨w',g1,g2,g3⟩:=Ij (E:={ w:=E.w,H:=E.H.set id .dead,loc:=E.loc.set id none,X:=E.X }) (ar.drop HE id fun o ho=>by rw[d]at ho; cases ho; rfl) q (bH hle _ (hr a)) (IW HE d k);have g1:(Instr.storeAt t (ρ a) (ρ x)).run P E.w=.ok () w':=g1;exact⟨w',by simp[execOp,g1],E.loc.set id none,E.X.r,by simp[rel],g2,hle.trans g3⟩
def Yields(P:Program)(pf:FuncId→Bool)(ops:Array Oper)(o:Oper)(s:St)(v:AV)(H':List ab):Prop :=
 match bQ ops s.fr o with
 |none=>False
 |some false=>v=.tuple []∧H'=s.H
 | some true=>match cL pf o.op with
  |.pure=>H'=s.H∧(gS P s.eval o.op=some v∨∃ f args,iq s.eval o.op=some (f,args)∧fc P f=true∧cR P f args v)
  |.read=>H'=s.H∧eL P s.eval s.H o.op=some v
  |.write=>(c_ P s.eval s.H o.op=some (v,H')∨∃ f args,iq s.eval o.op=some (f,args)∧fc P f=true∧dB P f args s.H v H')∨(((∃ t id m,o.op=.alloc t∧nF P t id m s.H=some (v,H'))∨∃ t id,o.op=.makeMap t none∧pn id s.H=some (v,H'))∨ra P s.eval s.H v H' o.op)
def jg(fr:List AV)(dst:Option Tmp)(v:AV):List AV :=
 match dst with
 |some d=>fr.set d v
 |none=>fr
def St.put(s:St)(dst:Option Tmp)(v:AV)(H':List ab):St:=⟨jg s.fr dst v,H'⟩
theorem xB{E:Env}:∀{as:List AV} {vs:List Value} {a:AV} {v:Value} (d:Nat),af E as vs→rel E a v→af E (as.set d a) (vs.set d v)
 | [],[],_,_,_,_,_=>by simp[af]
 | [],_::_,_,_,_,h,_=>by simp[af]at h
 |_::_,[],_,_,_,h,_=>by simp[af]at h
 |_::as,_::vs,a,v,0,h,k=>by simp only[af]at h; simp only[List.set_cons_zero,af]; exact⟨k,h.2⟩
 |_::as,_::vs,a,v,d+1,h,k=>by simp only[af]at h; simp only[List.set_cons_succ,af]; exact⟨h.1,xB d h.2 k⟩
theorem IX{E E':Env}{s:St}{a:Act}(h:af E s.fr a.tmps.toList)(hle:E.le E')(dst:Option Tmp){v:AV}{u:Value}(k:rel E' v u) :
  af E' (jg s.fr dst v) (a.put dst u).tmps.toList:=by
 have h':=dw hle _ h;cases dst with
 |none=>exact h'
 | some d =>
  simp only[jg,Act.put,Array.toList_setIfInBounds];exact xB d h' k
def fz(r:Option Nat):Fence:={ Fence.wide with round:=r }
theorem IY{r:Option Nat}{n:Nat}{P:Program}{f:FuncId}{args:Array Value}{w:World}{R:Ending→World→Prop}(h:Calls P f args w R):CallsIn (fz r) n P f args w R:=(callsIn_wide (n:=n)).2 h
theorem put_defers(a:Act)(dst:Option Tmp)(v:Value):(a.put dst v).defers=a.defers:=by cases dst<;>rfl
theorem IZ{ops:Array Oper}{s:St}{E:Env}{a:Act}(h:bP s E a){o:Oper}{b:Bool}(hw:bQ ops s.fr o=some b) :
  Ht o (yielded ops a.tmps)=b:=by
 unfold bQ at hw;unfold Ht;cases hg:o.guard with
 |none=>rw[hg]at hw; simpa using hw
 | some q =>
  obtain⟨j,want⟩:=q;rw[hg]at hw;simp only[]at hw⊢;split at hw
  case h_2=>cases hw
  rename_i t k;split at hw
  ·rename_i v hb
   cases hw;obtain⟨u,g1,g2⟩:=mA h.fr hb;simp only[rel]at g2;subst g2;have d:a.tmps[t]? = some (.bool v):=by simpa using g1
   simp[yielded,k,d]
  ·rename_i hb
   cases hw;obtain⟨u,g1,g2⟩:=mA h.fr hb;simp only[rel]at g2;obtain⟨cs,rfl,_⟩:=g2;have d:a.tmps[t]? = some (.tuple cs):=by simpa using g1
   simp[yielded,k,d]
  ·cases hw
def eV(E:Env)(s':St)(h:Act)(w':World):Prop :=
 ∃ d r',bP s' { w:=w',H:=s'.H,loc:=d,X:=E.X.re r' } h∧E.le { w:=w',H:=s'.H,loc:=d,X:=E.X.re r' }
theorem B1{P:Program}{pf:FuncId→Bool}{ops:Array Oper}{s:St}{E:Env}{a:Act}(k:bP s E a){i:Nat}{o:Oper}(hi:ops[i]? = some o){v:AV}{H':List ab}
  (d:Yields P pf ops o s v H') {K:Act→World→Prop} {Q:Exit→Act→World→Prop} (U:∀ N w',eV E (s.put o.dst v H') N w'→K N w') (ro:Option Nat):wpOpIn (fz ro) 0 P ops Q i K a E.w:=by
 have B:=k.eval;have hH:=k.H;have fin:∀{u:Value} {w':World},cQ E v H' u w'→K (a.put o.dst u) w':=by
  rintro u w' ⟨O,r',h1,I,y⟩;exact U _ _ ⟨O,r',⟨rfl,IX k.fr y o.dst h1,by rw[put_defers]; exact w7 k.heap y k.defers,I⟩,y⟩
 have pure':H'=s.H→∀{u:Value} {w':World},gh E v u w'→cQ E v H' u w':=by
  intro e u w' J;have:=J.toOp k.heap;rw[hH,←e]at this;exact this
 have M:(fz ro).depth.isSome=true→1≤0:=fun h=>by cases h
 unfold wpOpIn;simp only[hi];unfold Yields at d;split at d
 ·cases d
 ·rename_i hw
  rw[IZ k hw];simp only[Bool.false_eq_true,if_false];obtain⟨rfl,e⟩:=d;refine⟨fun _ _=>trivial,fin ?_⟩;rw[e,←hH];exact⟨E.loc,E.X.r,by simp only[rel]; exact⟨#[],rfl,by simp[af]⟩,k.heap,Env.le.refl E⟩
 ·rename_i hw
  rw[IZ k hw];simp only[if_true];split at d
  ·obtain ⟨e, d⟩ := d
   rcases d with d|⟨f,args,h1,I,y⟩
   ·have q : ∀ c, o.op ≠ .defer c := fun c e => by rw [e] at d; cases d
    obtain⟨u,w',g1,g2⟩:=TR k.heap B d;unfold oX;rw[np _ _ _ q,g1];exact⟨fun _ _=>trivial,fin (pure' e g2)⟩
   ·have q : ∀ c, o.op ≠ .defer c := fun c e => by rw [e] at h1; cases h1
    obtain⟨cargs,g1,g2⟩:=IV B h1 I;unfold oX;rw[np _ _ _ q,g1];refine⟨fun _ _=>trivial,M,IY ((y s.H E cargs hH k.heap g2).mono ?_)⟩;rintro _ w' ⟨c,V,H1,rfl,⟨rfl,rfl⟩,J⟩;exact fin (by rw[e]; exact J)
  ·obtain ⟨e, d⟩ := d
   rw[←hH]at d;have q:∀ c,o.op≠.defer c:=fun c e=>by rw[e]at d; cases d
   obtain⟨u,g1,g2⟩:=TW k.heap B d;unfold oX;rw[np _ _ _ q,g1];exact⟨fun _ _=>trivial,fin (pure' e (gh.same g2))⟩
  ·rcases d with (d | ⟨f, args, h1, I, y⟩) | (⟨t, id, m, ho, d⟩ | ⟨t, id, ho, d⟩) | d
   ·have q : ∀ c, o.op ≠ .defer c := fun c e => by rw [e] at d; cases d
    rw[←hH]at d;obtain⟨n,u,w',g1,g2,g3⟩:=TS k.heap B d;unfold oX;rw[np _ _ _ q,g1];rcases g2 with rfl|⟨rfl,rfl⟩
    ·exact⟨fun _ _=>trivial,fin g3⟩
    ·exact⟨fun _ _=>trivial,fin g3⟩
   ·have q : ∀ c, o.op ≠ .defer c := fun c e => by rw [e] at h1; cases h1
    obtain⟨cargs,g1,g2⟩:=IV B h1 I;unfold oX;rw[np _ _ _ q,g1];refine⟨fun _ _=>trivial,M,IY ((y E cargs hH k.heap g2).mono ?_)⟩;rintro _ w' ⟨c,V,H1,rfl,⟨rfl,rfl⟩,J⟩;exact fin J
   ·rw [← hH] at d
    obtain⟨u,w',g1,g2⟩:=S9 k.heap d;unfold oX;obtain⟨dst,op,type,pos,after,guard⟩:=o;simp only[]at ho;subst ho;have g3:(execOp a.eval ⟨dst,.alloc t,type,pos,after,guard⟩).run P E.w=.ok (.value u) w':=j9 g1;rw[np _ _ _ (fun c e=>by cases e),g3];exact⟨fun _ _=>trivial,fin g2⟩
   ·rw [← hH] at d
    obtain⟨u,w',g1,g2⟩:=Ti (P:=P) (t:=t) k.heap d;unfold oX;obtain⟨dst,op,type,pos,after,guard⟩:=o;simp only[]at ho;subst ho;have g3:(execOp a.eval ⟨dst,.makeMap t none,type,pos,after,guard⟩).run P E.w=.ok (.value u) w':=j9 g1;rw[np _ _ _ (fun c e=>by cases e),g3];exact⟨fun _ _=>trivial,fin g2⟩
   ·have q : ∀ c, o.op ≠ .defer c := fun c e => by rw [e] at d; exact d
    rw[←hH]at d;obtain⟨w',g1,g2⟩:=TZ k.heap B d;unfold oX;rw[np _ _ _ q,g1];exact⟨fun _ _=>trivial,fin g2⟩
def fI(P:Program)(pf:FuncId→Bool)(ops:Array Oper):List Oper→St→St→Prop
 | [],s,s'=>s'=s
 |o::rest,s,s'=>∃ v H',Yields P pf ops o s v H'∧fI P pf ops rest (s.put o.dst v H') s'
theorem eV.after{E E':Env}{s':St}{d:Act}{w':World}(h:E.le E')(h':eV E' s' d w'):eV E s' d w':=by
 obtain⟨k,r',q,u⟩:=h';refine⟨k,r',?_,?_⟩
 ·rw[←XS.HI h.X]; exact q
 ·rw[←XS.HI h.X]; exact h.trans u
theorem eV.refl{s:St}{E:Env}{a:Act}(h:bP s E a):eV E s a E.w:=by
 obtain⟨w,H,loc,X⟩:=E;have:=h.H;simp only at this;subst this;exact⟨loc,X.r,h,Env.le.refl _⟩
theorem xC{P:Program}{pf:FuncId→Bool}{ops:Array Oper}{Q:Exit→Act→World→Prop}:∀(l:List Oper) (k:Nat) (s s':St) (E:Env) (a:Act),
  l=ops.toList.drop k→fI P pf ops l s s'→bP s E a→(∀ d w',eV E s' d w'→Q .normal d w')→∀ ro:Option Nat,wpOpsIn (fz ro) 0 P ops Q (List.range' k l.length) a E.w
 | [],k,s,s',E,a,_,h,q,u,ro=>by
  simp only[fI]at h;subst h;exact u _ _ (eV.refl q)
 | o::l,k,s,s',E,a,y,h,q,u,ro=>by
  obtain⟨v,H',M,B⟩:=h;simp only[cr,List.range'_succ];rw[wpOpsIn_cons];have hk:ops[k]? = some o:=by
   have:(ops.toList.drop k)[0]? = some o:=by rw[←y]; rfl
   simpa using this
  refine B1 q hk M (fun d w' N=>?_) ro;obtain⟨I,r',h1,O⟩:=N;refine xC l (k+1) _ s' { w:=w',H:=H',loc:=I,X:=E.X.re r' } d ?_ B h1 (fun a2 U J=>u a2 U ?_) ro
  ·rw[←oS,←y]; rfl
  ·exact eV.after O J
/-! ### d in any order -/
def waits(ops:Array Oper):Nat→Nat→Nat→Bool
 |0,_,_=>false
 | n+1,j,i=>match ops[j]? with
  |some o=>o.after.toList.any fun e=>Hu .any e&&(e.on==i||waits ops n e.on i)
  |none=>false
def eb:Op→Bool
 |.alloc _=>true
 |.makeMap _ none=>true
 |_=>false
def mF(pf:FuncId→Bool)(x y:Oper):Bool :=
 match cL pf x.op,cL pf y.op with
 |.pure,_|_,.pure | .read,.read=>true
 |.read,.write=>eb y.op
 |_,_=>false
def rb(pf:FuncId→Bool)(ops:Array Oper):Bool :=
  agV ops &&
  (dP ops.size).all fun j=>(match ops[j]? with
    | some d=>(d.after.toList.all fun e => !Hu .any e||e.on<j) &&
      ((dP j).all fun i => match ops[i]? with
        |some h=>waits ops ops.size j i||(h.apart ops d&&d.apart ops h&&mF pf h d)
        |none=>true)
    |none=>true)
def rf(P:Program)(pf:FuncId→Bool)(ops:Array Oper)(i:Nat)(K:St→Prop)(s:St):Prop :=
 match ops[i]? with
 |none=>K s
 |some o=>∃ v H',Yields P pf ops o s v H'∧K (s.put o.dst v H')
def rh(P:Program)(pf:FuncId→Bool)(ops:Array Oper)(s':St):Nat→Array Bool→St→Prop
 |0,listed,s=>kL .any ops listed=[]∧s=s'
 |fuel+1,listed,s=>(kL .any ops listed=[]→s=s')∧∀ i∈kL .any ops listed,rf P pf ops i (rh P pf ops s' fuel (listed.setIfInBounds i true)) s
theorem xD{P:Program}{pf:FuncId→Bool}{ops:Array Oper}{s':St}{Q:Exit→Act→World→Prop}:∀(fuel:Nat) (listed:Array Bool) (s:St) (E:Env) (a:Act),
  bP s E a→rh P pf ops s' fuel listed s→(∀ q w',eV E s' q w'→Q .normal q w')→∀ ro:Option Nat,wpAnyIn (fz ro) 0 P .any ops Q fuel listed a E.w
 |0,_,s,E,a,d,h,k,_=>⟨h.1,k _ _ (h.2▸eV.refl d)⟩
 | fuel+1,listed,s,E,a,d,h,k,ro=>by
  refine⟨fun h0=>k _ _ (h.1 h0▸eV.refl d),fun i hi=>?_⟩;have h1:=h.2 i hi;unfold rf at h1;cases ho:ops[i]? with
  | none =>
   rw[ho]at h1;unfold wpOpIn;simp only[ho];exact xD fuel _ s E a d h1 k ro
  | some o =>
   rw[ho]at h1;obtain⟨v,H',B,I⟩:=h1;refine B1 d ho B (fun q w' J=>?_) ro;obtain⟨u,r',g1,g2⟩:=J;exact xD fuel _ _ { w:=w',H:=H',loc:=u,X:=E.X.re r' } q g1 I (fun a2 M y=>k a2 M (eV.after g2 y)) ro
theorem T0{ops:Array Oper}{o:Oper}{t:Tmp}(h:Operand.tmp t∈o.op.operands):t∈o.looksAt ops :=
 List.mem_append_left _ (List.mem_filterMap.2 ⟨.tmp t,by simpa using h,rfl⟩)
theorem T3{fr:List AV}{d t:Nat}{v:AV}(h:d≠t):(fr.set d v).getD t .undef=fr.getD t .undef:=by
 simp[List.getD_eq_getElem?_getD,aR h]
theorem eval_put{ops:Array Oper}{s:St}{o:Oper}{dst:Option Tmp}{v:AV}{H':List ab}(h:∀ d,dst=some d→d∉o.looksAt ops){x:Operand}(k:x∈o.op.operands) :
  (s.put dst v H').eval x=s.eval x:=by
 cases dst with
 |none=>cases x<;>rfl
 | some d =>
  cases x with
  | tmp t =>
   have aw:d≠t:=fun e=>h d rfl (e▸T0 k);simp only[St.eval,St.put,jg];exact T3 aw
  |_=>rfl
theorem xE{ops:Array Oper}{fr:List AV}{o:Oper}{dst:Option Tmp}{v:AV}(h:∀ d,dst=some d→d∉o.looksAt ops) :
  bQ ops (jg fr dst v) o=bQ ops fr o:=by
 cases dst with
 |none=>rfl
 | some d =>
  unfold bQ;cases hg:o.guard with
  |none=>rfl
  | some k =>
   obtain⟨g,want⟩:=k;simp only[];cases q:(ops[g]?).bind (·.dst)with
   |none=>rfl
   | some t =>
    have aw:d≠t:=fun e=>h d rfl (by subst e; simp[Oper.looksAt,hg,q]);simp only[jg,aR aw]
theorem T4(fr:List AV){x y:Option Tmp}(v u:AV)(h:∀ d,x=some d→y≠some d):jg (jg fr x v) y u=jg (jg fr y u) x v:=by
 cases x with
 |none=>rfl
 | some d =>
  cases y with
  |none=>rfl
  | some e =>
   have aw:d≠e:=fun he=>h d rfl (he▸rfl);simp only[jg];rw[mo _ _ aw]
theorem I0{P:Program}{r r':Operand→AV}(o:Op)(h:∀ x∈o.operands,r x=r' x):gS P r o=gS P r' o:=by
 cases o<;>simp only[gS]<;>simp only[fa]at h
 case build t ps =>
  have:(ps.toList.map fun p=>(p.1,r p.2))=ps.toList.map fun p=>(p.1,r' p.2):=qv fun p d=>by
   rw[h p.2 (by simp; exact⟨p.1,by simpa using d⟩)]
  rw[this]
 case buildSlice t n ps =>
  have:(ps.toList.map fun p=>(p.1,r p.2))=ps.toList.map fun p=>(p.1,r' p.2):=qv fun p d=>by
   rw[h p.2 (by simp; exact⟨p.1,by simpa using d⟩)]
  rw[this]
 case makeFunc fn first captured =>
  unfold BV;cases fn<;>try rfl
  have:(captured.toList.map r)=captured.toList.map r':=qv fun x k=>h x (by simp; right; simpa using k);simp only[this]
 case call c =>
  obtain⟨callee,args,argTypes⟩:=c;unfold BW;cases callee<;>try rfl
  have:(args.toList.map r)=args.toList.map r':=qv fun x k=>h x (by simp[tq]; simpa using k);simp only[this]
 case slice t x lo hi mx=>cases lo<;>cases hi<;>cases mx<;>simp_all
 all_goals (first|rfl|(simp_all; done))
theorem I1{P:Program}{r r':Operand→AV}{H:List ab}(o:Op)(h:∀ x∈o.operands,r x=r' x):eL P r H o=eL P r' H o:=by
 cases o<;>simp only[eL]<;>simp only[fa]at h
 case call c =>
  obtain⟨callee,args,argTypes⟩:=c;unfold nH;cases callee<;>try rfl
  split
  ·rename_i a t d ha k
   have hm:a∈args:=by
    have:a∈args.toList:=by rw[show args.toList=[a] from ha]; simp
    simpa using this
   have:r a=r' a:=h a (by simp[tq]; simpa using hm);simp only[this,d,ha,k]
  ·rfl
 all_goals (first|rfl|(simp_all; done))
theorem I2{P:Program}{r r':Operand→AV}{H:List ab}(o:Op)(h:∀ x∈o.operands,r x=r' x):c_ P r H o=c_ P r' H o:=by
  cases o<;>simp only[c_]<;>simp only[fa]at h
  case buildSlice t n ps =>
    have:(ps.toList.map fun p=>(p.1,r p.2))=ps.toList.map fun p=>(p.1,r' p.2):=qv fun p u=>by
      rw[h p.2 (by simp; exact⟨p.1,by simpa using u⟩)]
    rw[this]
  case call c =>
    obtain⟨callee,args,argTypes⟩:=c;unfold xA;cases callee<;>try rfl
    rename_i b;have d:∀ x,x∈args.toList→r x=r' x:=fun x v=>h x (by simp[tq]; simpa using v);cases b<;>try rfl
    all_goals simp only[]
    all_goals split
    all_goals first
      |rfl
      | (rename_i s x t xt ha q
         rw[d s (by rw[ha]; simp),d x (by rw[ha]; simp)])
      | (rename_i x t ha q
         rw[d x (by rw[ha]; simp)])
      | (rename_i x k t y ha q
         rw[d x (by rw[ha]; simp),d k (by rw[ha]; simp)])
  case makeMap t res=>cases res<;>rfl
  case lookup t m k ok =>
    cases ok with
    |true=>rfl
    |false=>simp only[h m (by simp),h k (by simp)]
  case mapEntry t m k=>simp only[h m (by simp),h k (by simp)]
  case entryStore t m s x=>simp only[h m (by simp),h s (by simp),h x (by simp)]
  all_goals (first|rfl|(simp_all; done))
theorem I3{r r':Operand→AV}(o:Op)(h:∀ x∈o.operands,r x=r' x):iq r o=iq r' o:=by
 cases o<;>simp only[iq]<;>simp only[fa]at h
 rename_i c;obtain⟨callee,args,argTypes⟩:=c;unfold B0;cases callee<;>try rfl
 rename_i g;have d:r g=r' g:=h g (by simp[tq]);have k:(args.toList.map r)=args.toList.map r':=qv fun x q=>h x (by simp[tq]; right; simpa using q);simp only[d,k]
end Go.AL

namespace Go.AL
open Go
variable [Dr]
variable {P:Program} {pf:FuncId→Bool} {ops:Array Oper}
theorem fu{o:Oper}{s s1:St}{v:AV}{H':List ab}(hw:bQ ops s1.fr o=bQ ops s.fr o)(hr:∀ x∈o.op.operands,s1.eval x=s.eval x)(hH:s1.H=s.H) :
  Yields P pf ops o s1 v H'↔Yields P pf ops o s v H':=by
 unfold Yields;rw[hw,hH,I0 o.op hr,I1 o.op hr,I2 o.op hr,I3 o.op hr,TY o.op hr]
theorem t_{o:Oper}{s:St}{v:AV}{H':List ab}(d:cL pf o.op=.pure)(h:Yields P pf ops o s v H'):H'=s.H∧∀ H2,Yields P pf ops o ⟨s.fr,H2⟩ v H2:=by
 have key:∀ H2:List ab,∀ x∈o.op.operands,St.eval ⟨s.fr,H2⟩ x=s.eval x:=fun H2 x _=>by cases x<;>rfl
 unfold Yields at h;cases hw:bQ ops s.fr o with
 |none=>rw[hw]at h; exact h.elim
 | some b =>
  rw[hw]at h;cases b with
  | false =>
   refine⟨h.2,fun H2=>?_⟩;unfold Yields;rw[show bQ ops (St.mk s.fr H2).fr o=some false from hw];exact⟨h.1,rfl⟩
  | true =>
   simp only[d]at h;refine⟨h.1,fun H2=>?_⟩;unfold Yields;rw[show bQ ops (St.mk s.fr H2).fr o=some true from hw];simp only[d];refine⟨trivial,?_⟩;rw[I0 o.op (key H2),I3 o.op (key H2)];exact h.2
theorem pA{o:Oper}{s:St}{v:AV}{H':List ab}(d:cL pf o.op=.read)(h:Yields P pf ops o s v H'):H'=s.H:=by
 unfold Yields at h;simp only[d]at h;split at h
 ·cases h
 ·exact h.2
 ·exact h.1
theorem T5{r:Operand→AV}{H:List ab}{x:ab}{v:AV}:∀{op:Op},eL P r H op=some v→eL P r (H++[x]) op=some v:=by
 have get:∀{i:Nat} {y:ab},H[i]? = some y→(H++[x])[i]? = some y:=by
  intro i y h;rw[cK (List.getElem?_eq_some_iff.1 h).1];exact h
 intro op h;cases op<;>simp only[eL]at h⊢<;>try cases h
 case load t a =>
  unfold ig at h⊢;split at h
  ·rename_i n agg B
   split at h
   ·exact h
   ·rename_i id ad w row col ha
    cases hi:H[id]? with
    |none=>rw[hi]at h; cases h
    |some y=>rw[hi]at h; rw[get hi]; exact h
   ·cases h
  ·cases h
 case lookup t m k ok =>
  split at h
  ·rename_i v1 h1
   cases h;have d:fT P t (r m) (r k) ok (H++[x])=some v:=by
    unfold fT at h1⊢;split at h1
    ·rename_i I J id hm u
     cases hi:H[id]? with
     |none=>rw[hi]at h1; cases h1
     |some y=>rw[hi]at h1; rw[get hi]; exact h1
    ·cases h1
   rw[d]
  ·obtain ⟨d, q⟩ := IQ (H2 := H ++ [x]) (fun i l es ms cl hi => get hi) h
   rw[q,d]
 case call c =>
  unfold nH at h⊢;split at h
  ·split at h
   ·rename_i id _ _
    cases hi:H[id]? with
    |none=>rw[hi]at h; cases h
    |some y=>rw[hi]at h; rw[get hi]; exact h
   ·cases h
  ·cases h
theorem T6{r:Operand→AV}{H:List ab}{id:Nat}{x y:ab}{v:AV}(hid:H[id]? = some y)(d:(∃ k,y=.vec k 0 [])∨y=.dQ):∀{op:Op},eL P r H op=some v→eL P r (H.set id x) op=some v:=by
 have get:∀{i:Nat},i≠id→(H.set id x)[i]? = H[i]? := fun h=>aR (Ne.symm h);intro op h;cases op<;>simp only[eL]at h⊢<;>try cases h
 case load t a =>
  unfold ig at h⊢;split at h
  ·rename_i n agg I
   split at h
   ·exact h
   ·rename_i i ad w row col ha
    by_cases e:i=id
    ·subst e
     rw[hid]at h;rcases d with⟨k,rfl⟩|rfl<;>simp at h
    ·rw [get e]
     exact h
   ·cases h
  ·cases h
 case lookup t m k ok =>
  split at h
  ·rename_i v1 h1
   cases h;have q:fT P t (r m) (r k) ok (H.set id x)=some v:=by
    unfold fT at h1⊢;split at h1
    ·rename_i J M i hm B
     by_cases e:i=id
     ·subst e
      rw[hid]at h1;rcases d with⟨k,rfl⟩|rfl<;>simp at h1
     ·rw [get e]
      exact h1
    ·cases h1
   rw[q]
  ·obtain ⟨q,u⟩:=IQ (H2:=H.set id x) (fun i l es ms cl hi=>by
    have e:i≠id:=fun e=>by
     rw[e,hid]at hi;rcases d with⟨k,rfl⟩|rfl<;>cases hi
    rw[get e];exact hi) h
   rw[u,q]
 case call c =>
  unfold nH at h⊢;split at h
  ·split at h
   ·rename_i i _ _
    by_cases e:i=id
    ·subst e
     rw[hid]at h;rcases d with⟨k,rfl⟩|rfl<;>simp at h
    ·rw [get e]
     exact h
   ·cases h
  ·cases h
theorem I4{P:Program}{t:TypeId}{id:Nat}{m:List (Option (List Kd))}{H H':List ab}{v:AV}(h:nF P t id m H=some (v,H')) :
  ∃ z k,d_ P t=some z∧H[id]? = some (.vec k 0 [])∧k=z.length∧v=.ptr id 1 k 0 0∧H'=H.set id (.vec k 1 [dS m z]):=by
 unfold nF at h;split at h
 ·rename_i z k d hid
  split at h
  ·rename_i hk
   cases h;exact⟨z,k,d,hid,hk,rfl,rfl⟩
  ·cases h
 ·cases h
theorem I5{P:Program}{t:TypeId}{id:Nat}{H:List ab}{z:List Value}{k:Nat} (m:List (Option (List Kd))) (d:d_ P t=some z) (hid:H[id]? = some (.vec k 0 [])) (hk:k=z.length) :
  nF P t id m H=some (.ptr id 1 k 0 0,H.set id (.vec k 1 [dS m z])):=by
 unfold nF;rw[d,hid];simp only[];rw[if_pos hk]
theorem I6{B q:Oper}{s:St}{v u:AV}{U h:List ab}(h1:B.apart ops q=true)(_h2:q.apart ops B=true)(I:mF pf B q=true)
  (hi:Yields P pf ops B s v U) (V:Yields P pf ops q (s.put B.dst v U) u h) :
  ∃ Hj1,Yields P pf ops q s u Hj1∧Yields P pf ops B (s.put q.dst u Hj1) v h:=by
 obtain⟨a1,a2,a3⟩:=Hv h1;have wj:bQ ops (s.put B.dst v U).fr q=bQ ops s.fr q:=xE a1;have wi:∀ H2,bQ ops (s.put q.dst u H2).fr B=bQ ops s.fr B:=fun H2=>xE a3;have ej:∀ x∈q.op.operands,(s.put B.dst v U).eval x=s.eval x:=fun x J=>eval_put a1 J;have ei:∀ H2,∀ x∈B.op.operands,(s.put q.dst u H2).eval x=s.eval x:=fun H2 x J=>eval_put a3 J;unfold mF at I;split at I
 ·-- B only computes
  rename_i N;obtain⟨M,g1⟩:=t_ N hi;subst M;refine⟨h,(fu wj ej rfl).1 V,?_⟩;exact(fu (s1:=s.put q.dst u h) (s:=⟨s.fr,h⟩) (wi h) (fun x J=>by rw[ei h x J]; cases x<;>rfl) rfl).2 (g1 h)
 ·-- q only computes
  rename_i O _;obtain⟨M,g1⟩:=t_ O V;have e1':h=U:=M;subst e1';refine⟨s.H,?_,?_⟩
  ·have := g1 s.H
   exact(fu (s1:=⟨(s.put B.dst v h).fr,s.H⟩) (s:=s) wj (fun x J=>by
    have:=ej x J;cases x<;>exact this) rfl).1 this
  ·exact(fu (s1:=s.put q.dst u s.H) (s:=s) (wi s.H) (ei s.H) rfl).2 hi
 ·rename_i N O
  have M:=pA N hi;subst M;have e2:=pA O V;have e2':h=s.H:=e2;subst e2';exact⟨s.H,(fu wj ej rfl).1 V,(fu (s1:=s.put q.dst u s.H) (s:=s) (wi s.H) (ei s.H) rfl).2 hi⟩
 ·rename_i N O
  have M:=pA N hi;subst M;have d:=(fu wj ej rfl).1 V;refine⟨h,d,?_⟩;have hpush:h=s.H∨(∃ x,h=s.H++[x])∨∃ id y x,s.H[id]? = some y∧((∃ k,y=.vec k 0 [])∨y=.dQ)∧h=s.H.set id x:=by
   unfold Yields at d;simp only[O]at d;split at d
   ·exact d.elim
   ·exact .inl d.2
   ·rcases d with (d | ⟨f, args, h1, _⟩) | (⟨t, id, m, ho, hv⟩ | ⟨t, id, ho, hv⟩) | W
    ·unfold eb at I
     split at I
     ·rename_i t ho
      rw[ho]at d;simp only[c_,pj]at d;split at d
      ·split at d
       ·cases d; exact .inr (.inl ⟨_,rfl⟩)
       ·cases d
      ·split at d
       ·cases d; exact .inr (.inl ⟨_,rfl⟩)
       ·cases d
     ·rename_i t ho
      rw[ho]at d;simp only[c_]at d;cases d;exact .inr (.inl ⟨_,rfl⟩)
     ·cases I
    ·unfold eb at I
     split at I
     ·rename_i t ho
      rw[ho]at h1;cases h1
     ·rename_i t ho
      rw[ho]at h1;cases h1
     ·cases I
    ·obtain ⟨z, k, _, h2, _, _, h3⟩ := I4 hv
     exact .inr (.inr ⟨id,_,_,h2,.inl ⟨k,rfl⟩,h3⟩)
    ·obtain ⟨h1, _, h3⟩ := BJ hv
     exact .inr (.inr ⟨id,_,_,h1,.inr rfl,h3⟩)
    ·unfold eb at I
     split at I
     ·rename_i t ho
      rw[ho]at W;exact W.elim
     ·rename_i t ho
      rw[ho]at W;exact W.elim
     ·cases I
  refine(fu (s1:=s.put q.dst u h) (s:=⟨s.fr,h⟩) (wi h) (fun x J=>by rw[ei h x J]; cases x<;>rfl) rfl).2 ?_;have key:∀ H2:List ab,St.eval ⟨s.fr,H2⟩=s.eval:=fun H2=>by funext x; cases x<;>rfl
  unfold Yields at hi⊢;simp only[N]at hi⊢;cases hw:bQ ops s.fr B with
  |none=>rw[hw]at hi; exact hi.elim
  | some b =>
   rw[hw]at hi;cases b with
   |false=>exact⟨hi.1,by simp⟩
   | true =>
    refine⟨by simp,?_⟩;rw[key];rcases hpush with rfl|⟨x,rfl⟩|⟨id,y,x,hid,hy,rfl⟩
    ·exact hi.2
    ·exact T5 hi.2
    ·exact T6 hid hy hi.2
 ·cases I
def B2(ops:Array Oper)(listed:Array Bool)(j:Nat):Prop :=
 ∀ o,ops[j]? = some o→∀ e∈o.after,Hu .any e=true→listed.getD e.on false=true
def pB(ops:Array Oper)(listed:Array Bool):Prop:=∀ j,listed.getD j false=true→B2 ops listed j
theorem B3{listed:Array Bool}(d:pB ops listed):∀(n j i:Nat),B2 ops listed j→waits ops n j i=true→listed.getD i false=true
 |0,_,_,_,h=>by simp[waits]at h
 | n+1,j,i,q,h=>by
  unfold waits at h;split at h
  ·rename_i o ho
   rw[ia]at h;obtain⟨e,he,hb⟩:=h;simp only[ax,tu,beq_iff_eq]at hb;have k:=q o ho e (by simpa using he) hb.1;rcases hb.2 with rfl|hw
   ·exact k
   ·exact B3 d n e.on i (d _ k) hw
  ·cases h
theorem B4{listed:Array Bool}{j:Nat}(h:j∈kL .any ops listed):B2 ops listed j:=by
 obtain⟨_,o,ho,k⟩:=mem_ready.1 h;intro o' d;rw[ho]at d;cases d;exact k
theorem xF{listed:Array Bool}(q:pB ops listed){j:Nat}(u:j∈kL .any ops listed):pB ops (listed.setIfInBounds j true):=by
 intro k hk o ho e he hb;by_cases d:j=k
 ·subst d
  exact getD_set_true (B4 u o ho e he hb)
 ·have:listed.getD k false=true:=by
   have h:=hk;simp[Array.getElem?_setIfInBounds_ne d]at h;simpa using h
  exact getD_set_true (q k this o ho e he hb)
theorem I7(s:St)(x y:Option Tmp)(v u:AV)(H1 H2 k:List ab)(h:∀ d,x=some d→y≠some d):(s.put x v H1).put y u H2=(s.put y u k).put x v H2:=by
 simp only[St.put,T4 s.fr v u h]
theorem I8{listed:Array Bool}{i:Nat}(h:i∈kL .any ops listed):listed.getD i false=false:=by
 obtain⟨h0,_⟩:=mem_ready.1 h;rcases jy i listed.size with h'|h'
 ·simp[h']at h0⊢; exact h0
 ·simp[Hw h']at h0
theorem T7{s':St}{i:Nat}{y:Oper}(hi:ops[i]? = some y):∀(fuel:Nat) (listed:Array Bool) (s:St) (v:AV) (H':List ab),pB ops listed →
  (∀ j q,ops[j]? = some q→j≠i→listed.getD j true=false→waits ops ops.size j i=false→y.apart ops q=true∧q.apart ops y=true∧mF pf y q=true) →
  i∈kL .any ops listed→Yields P pf ops y s v H'→rh P pf ops s' fuel (listed.setIfInBounds i true) (s.put y.dst v H')→rh P pf ops s' (fuel+1) listed s:=by
 intro fuel
 induction fuel with
 | zero =>
  intro listed s v H' _ _ hr I H;refine⟨fun h=>(by rw[h]at hr; cases hr),fun j B=>?_⟩;by_cases d:j=i
  ·subst d
   unfold rf;simp only[hi];exact⟨v,H',I,H⟩
  ·have := ready_mono B d
   rw[H.1]at this;cases this
 | succ fuel ih =>
  intro listed s v H' O M hr I H;refine⟨fun h=>(by rw[h]at hr; cases hr),fun j B=>?_⟩;by_cases d:j=i
  ·subst d
   unfold rf;simp only[hi];exact⟨v,H',I,H⟩
  ·have h1 := H.2 j (ready_mono B d)
   obtain⟨N,q,U,hall⟩:=mem_ready.1 B;unfold rf at h1⊢;simp only[U]at h1⊢;obtain⟨u,Hj,hyj,hrest⟩:=h1;have hnw:waits ops ops.size j i=false:=by
    cases hw:waits ops ops.size j i with
    |false=>rfl
    | true =>
     have:=B3 O _ _ _ (B4 B) hw;rw[I8 hr]at this;cases this
   obtain⟨a1,a2,a3⟩:=M j q U d N hnw;obtain⟨J,q1,q2⟩:=I6 a1 a2 a3 I hyj;refine⟨u,J,q1,?_⟩;refine ih (listed.setIfInBounds j true) (s.put q.dst u J) v Hj (xF O B) ?_ (ready_mono hr (Ne.symm d)) q2 ?_
   ·intro k ok hk hki V hno
    refine M k ok hk hki ?_ hno;by_cases W:j=k
    ·subst W; exact N
    ·rw[getD_set_ne true W]at V; exact V
   ·rw [agW _ _ d]
    have:=I7 s y.dst q.dst v u H' Hj J (Hv a1).2.1;rw[←this];exact hrest
theorem I9{s':St}(N:rb pf ops=true):∀(l:List Oper) (k:Nat) (listed:Array Bool) (s:St),l=ops.toList.drop k→pB ops listed→listed.size=ops.size →
  (∀ j,j<ops.size→(listed.getD j true=false↔k≤j))→fI P pf ops l s s'→rh P pf ops s' l.length listed s
 | [],k,listed,s,y,_,J,hk,h=>by
  simp only[fI]at h;refine⟨?_,h.symm⟩;apply agX.2;intro j d;obtain⟨h0,o,ho,_⟩:=mem_ready.1 d;have u:j<ops.size:=(gr.1 ho).1;have:=(hk j u).1 h0;have hlen:(ops.toList.drop k).length=0:=by rw[←y]; rfl
  simp at hlen;omega
 | o::l,k,listed,s,y,M,J,hk,h=>by
  obtain⟨v,H',hy,V⟩:=h;have h0:ops[k]? = some o:=by
   have:(ops.toList.drop k)[0]? = some o:=by rw[←y]; rfl
   simpa using this
  have u:k<ops.size:=(gr.1 h0).1;simp only[rb,ax,dq,fF]at N;obtain⟨_,B⟩:=N;have U:∀ j,j<k→listed.getD j false=true:=by
   intro j d;have O:¬ (listed.getD j true=false):=fun e=>by have:=(hk j (by omega)).1 e; omega
   have:j<listed.size:=by omega
   simp[this]at O⊢;exact O
  have I:k∈kL .any ops listed:=by
   refine mem_ready.2 ⟨(hk k u).2 (aD _),o,h0,fun e he hb=>?_⟩;have:=B k u;rw[h0]at this;simp only[ax,dq]at this;have h1:=this.1 e (by simpa using he);simp only[hb,wQ,qw,decide_eq_true_eq]at h1;exact U e.on h1
  refine T7 h0 l.length listed s v H' M ?_ I hy ?_
  ·intro j oj d hjk W hnw
   have q:j<ops.size:=(gr.1 d).1;have hkj:k≤j:=(hk j q).1 W;have:=B j q;rw[d]at this;simp only[ax,dq,fF]at this;have h1:=this.2 k (by omega);rw[h0]at h1;simp only[hnw,qw,ax]at h1;exact⟨h1.1.1,h1.1.2,h1.2⟩
  ·refine I9 (by simp only [rb, ax, dq, fF]; exact ⟨‹_›, B⟩) l (k + 1) _ _ ?_ (xF M I) (by simpa using J) ?_ V
   ·rw[←oS,←y]; rfl
   ·intro j q
    by_cases e:k=j
    ·subst e
     have:k<listed.size:=by omega
     simp[this]
    ·rw [getD_set_ne true e, hk j q]
     omega
theorem T8{id:Nat}{s s':St}{E:Env}{a:Act}{Q:Exit→Act→World→Prop}(hm:P.follows .mixedOrders=true)(v:rb pf ops=true)(d:bP s E a)
  (h:fI P pf ops ops.toList s s') (y:∀ k w',eV E s' k w'→Q .normal k w'):∀ ro:Option Nat,(Code.region id ops true).wpIn (fz ro) 0 P Q a E.w:=by
 intro ro;have u:bP s { E with w:={ E.w with drawn:=E.w.drawn+1 } } a:=⟨d.H,dw (Env.jd (Ext.drawn E.w _)) _ d.fr,w7 d.heap (Env.jd (Ext.drawn E.w _)) d.defers,d.heap.ext (Ext.drawn E.w _)⟩
 refine wpIn_region_any hm (xD (pf:=pf) _ _ s { E with w:={ E.w with drawn:=E.w.drawn+1 } } a u ?_ (fun k w' B=>y k w' (eV.after (Env.jd (Ext.drawn E.w _)) B)) ro);have:=I9 (P:=P) (s':=s') v ops.toList 0 (nr ops.size false) s (by simp) (by
  intro j q;exfalso;rcases jy j ops.size with h'|h'
  ·simp[h']at q
  ·simp[Hw (xs:=nr ops.size false) (by simpa using h')]at q) (by simp) (by intro j q; simp[q]) h
 simpa using this
theorem I_{id:Nat}{s s':St}{E:Env}{a:Act}{Q:Exit→Act→World→Prop}(k:bP s E a)
  (h:fI P pf ops ops.toList s s') (q:∀ d w',eV E s' d w'→Q .normal d w'):∀ ro:Option Nat,(Code.region id ops false).wpIn (fz ro) 0 P Q a E.w:=by
 intro ro;refine wpIn_region ?_;have:=xC (Q:=Q) ops.toList 0 s s' E a (by simp) h k q ro;rw[List.range_eq_range'];simpa using this
end Go.AL

namespace Go.AL
open Go
variable [Dr]
inductive bL where
 |normal
 |exit (id:Nat)
 |ret
 deriving DecidableEq
def bL.toExit:bL→Exit
 |.normal=>.normal
 |.exit id=>.exit id
 |.ret=>.ret
structure Env.dx (m:Nat) (E E':Env):Prop where
 past:∀ id,id<m→E.past id 0→E'.past id 0
 size:E.w.heap.size≤E'.w.heap.size
 same:∀ b,b<E.w.heap.size→¬ E.own b→E'.w.heap[b]? = E.w.heap[b]?
 own:∀ b,b<E.w.heap.size→¬ E.own b→¬ E'.own b
 live:∀ id,id<m→E.past id 0→E'.live id 0→E.live id 0∧E'.loc[id]? = E.loc[id]?
 X:∀ b,b<E.w.heap.size→(E'.X b↔E.X b)∧(E'.X.z b↔E.X.z b)
 rl:∀ l h,h<(E.X.r l).length→h<(E'.X.r l).length∧∀ q,(E'.X.r l)[h]? = some (some q)→(E.X.r l)[h]? = some (some q)
 env:dR E.w E'.w
 grow:∀ id,id<m→∀ l o,E.H[id]? = some o→o.dh=some l→E'.live id 0→(∃ t,E'.X.r l=E.X.r l++t)∧∃ o',E'.H[id]? = some o'∧o'.dh=some l
theorem Env.le.toM{m:Nat}{E E':Env}(h:E.le E'):E.dx m E':=⟨fun id _ d=>h.past id 0 d,h.size,h.same,h.own,fun id _ d k=>h.live id 0 d k,fun b _=>by rw[show E'.X.x=E.X.x from h.X.1,show E'.X.z=E.X.z from h.X.2]; exact⟨Iff.rfl,Iff.rfl⟩,h.rl,h.env,fun id _ l o h1 q u=>h.grow id l o h1 q u⟩
def xG(H:List ab):Prop:=∀ o∈H,o.aF = some 0
theorem Env.dx.full{m:Nat}{E E':Env}(h:E.dx m E')(hX:E'.X.x=E.X.x∧E'.X.z=E.X.z)(hm:E.H.length≤m)(q:xG E.H):E.le E':=by
 have key:∀ id ad,E.past id ad→id<m∧ad=0:=by
  rintro id ad ⟨o,ho,u⟩;have h1:=aI ho;have k:=u.2 0 (q o (List.mem_of_getElem? ho));exact⟨by omega,by omega⟩
 refine⟨fun id ad d=>?_,h.size,h.same,h.own,fun id ad d v=>?_,hX,h.rl,h.env,fun id l o h1 k y=>h.grow id (dz (aI h1) hm) l o h1 k y⟩
 ·obtain ⟨h1, rfl⟩ := key id ad d
  exact h.past id h1 d
 ·obtain ⟨h1, rfl⟩ := key id ad d
  exact h.live id h1 d v
theorem Env.dx.trans{m:Nat}{E E' I:Env}(h:E.dx m E')(h':E'.dx m I):E.dx m I where
 past:=fun id hi k=>h'.past id hi (h.past id hi k)
 size:=Nat.le_trans h.size h'.size
 same:=fun b hb ho=>by rw[h'.same b (dz hb h.size) (h.own b hb ho),h.same b hb ho]
 own:=fun b hb ho=>h'.own b (dz hb h.size) (h.own b hb ho)
 live:=fun id hi hid O=>by
  obtain⟨u,a2⟩:=h'.live id hi (h.past id hi hid) O;obtain⟨b1,y⟩:=h.live id hi hid u;exact⟨b1,by rw[a2,y]⟩
 X:=fun b hb=>by
  have h1:=h'.X b (dz hb h.size);have d:=h.X b hb;exact⟨h1.1.trans d.1,h1.2.trans d.2⟩
 rl:=fun l i hi=>by
  obtain⟨u,a2⟩:=h.rl l i hi;obtain⟨b1,y⟩:=h'.rl l i u;exact⟨b1,fun q U=>a2 q (y q U)⟩
 env:=h.env.trans h'.env
 grow:=fun id hi l o h1 d B=>by
  have k:E.past id 0:=⟨o,h1,ab.A7 d,fun v B=>Nat.zero_le _⟩
  obtain⟨J,_⟩:=h'.live id hi (h.past id hi k) B;obtain⟨⟨t,V⟩,o',g1,g2⟩:=h.grow id hi l o h1 d J;obtain⟨⟨t',M⟩,N,g3,g4⟩:=h'.grow id hi l o' g1 g2 B;exact⟨⟨t++t',by rw[M,V,List.append_assoc]⟩,N,g3,g4⟩
def dt(m:Nat)(E:Env)(s':St)(h:Act)(w':World):Prop :=
 ∃ d X',bP s' { w:=w',H:=s'.H,loc:=d,X:=X' } h∧E.dx m { w:=w',H:=s'.H,loc:=d,X:=X' }
theorem eV.toM{m:Nat}{E:Env}{s':St}{a:Act}{w:World}(h:eV E s' a w):dt m E s' a w:=let ⟨loc,r,h1,d⟩:=h; ⟨loc,E.X.re r,h1,d.toM⟩
theorem dt.after{m:Nat}{E E':Env}{s':St}{d:Act}{w':World}(h:E.dx m E')(h':dt m E' s' d w'):dt m E s' d w':=by
 obtain⟨k,X',h1,q⟩:=h';exact⟨k,X',h1,h.trans q⟩
theorem dt.refl{m:Nat}{s:St}{E:Env}{a:Act}(h:bP s E a):dt m E s a E.w:=(eV.refl h).toM
def fV:Code→Bool
 |.seq a b=>fV a&&fV b
 |.cond _ a b=>fV a&&fV b
 |.block _ c=>fV c
 |.loop c=>fV c
 |.scope c=>fV c
 |.rangeFunc ..=>false
 |_=>true
def eM(ro:Option Nat)(c:Code):Prop:=ro=none∨fV c=true
theorem eM.seq1{ro:Option Nat}{a b:Code}(h:eM ro (.seq a b)):eM ro a:=h.imp id fun h=>by
 have h:(fV a&&fV b)=true:=h;exact(ax _ _▸h).1
theorem eM.B5{ro:Option Nat}{a b:Code}(h:eM ro (.seq a b)):eM ro b:=h.imp id fun h=>by
 have h:(fV a&&fV b)=true:=h;exact(ax _ _▸h).2
theorem eM.cond{ro:Option Nat}{o:Operand}{a b:Code}(t:Bool)(h:eM ro (.cond o a b)):eM ro (if t then a else b):=h.imp id fun h=>by
 have h:(fV a&&fV b)=true:=h;cases t
 ·exact(ax _ _▸h).2
 ·exact(ax _ _▸h).1
theorem eM.block{ro:Option Nat}{i:Nat}{a:Code}(h:eM ro (.block i a)):eM ro a:=h
theorem eM.loop{ro:Option Nat}{a:Code}(h:eM ro (.loop a)):eM ro a:=h
theorem B6(c:Code):eM none c:=.inl rfl
def cM(P:Program)(m:Nat)(c:Code)(s:St)(x:bL)(s':St):Prop :=
 ∀(ro:Option Nat),eM ro c→∀(E:Env) (a:Act),bP s E a→c.wpIn (fz ro) 0 P (fun e d h=>e=x.toExit∧dt m E s' d h) a E.w
def be(m:Nat)(s s':St):Prop:=∀(E:Env) (a:Act),bP s E a→dt m E s' a E.w
theorem be.refl{m:Nat}(s:St):be m s s:=fun _ _ h=>dt.refl h
theorem be.trans{m:Nat}{s s1 s2:St}(h:be m s s1)(h':be m s1 s2):be m s s2:=fun E a d=>by
 obtain⟨loc,X,h1,k⟩:=h E a d;exact dt.after k (h' _ a h1)
theorem dt.weaken{m:Nat}{E:Env}{s s':St}{a:Act}{w:World}(h:dt m E s a w)(hle:be m s s'):dt m E s' a w:=by
 obtain⟨loc,X,h1,d⟩:=h;exact dt.after d (hle _ a h1)
section rules
variable {P:Program} {m:Nat} {s s' s1:St} {x:bL}
theorem rj{c:Code}(hle:be m s s1)(h:cM P m c s1 x s'):cM P m c s x s':=fun ro ho E a d=>by
 obtain⟨loc,X,h1,k⟩:=hle E a d;exact wpIn_mono (h ro ho { w:=E.w,H:=s1.H,loc:=loc,X:=X } a h1) fun e v y ⟨q,u⟩=>⟨q,dt.after k u⟩
theorem rk{c:Code}(h:cM P m c s x s1)(hle:be m s1 s'):cM P m c s x s':=fun ro ho E a d =>
 wpIn_mono (h ro ho E a d) fun _ _ _ ⟨k,q⟩=>⟨k,q.weaken hle⟩
theorem T9:cM P m .skip s .normal s:=fun _ _ _ _ d=>wpIn_skip ⟨rfl,dt.refl d⟩
theorem T_:cM P m .ret s .ret s:=fun _ _ _ _ d=>wpIn_ret ⟨rfl,dt.refl d⟩
theorem Ua{id:Nat}:cM P m (.exit id) s (.exit id) s:=fun _ _ _ _ d=>wpIn_exit ⟨rfl,dt.refl d⟩
theorem Ub{pf:FuncId→Bool}{id:Nat}{ops:Array Oper}{draw:Bool}(hm:P.follows .mixedOrders=true)(q:draw=true→rb pf ops=true)(h:fI P pf ops ops.toList s s') :
  cM P m (.region id ops draw) s .normal s':=fun ro ho E a k=>by
 cases draw with
 |false=>exact I_ k h (fun u w' d=>⟨rfl,d.toM⟩) ro
 |true=>exact T8 hm (q rfl) k h (fun u w' d=>⟨rfl,d.toM⟩) ro
theorem xH{c d:Code}(h:cM P m c s .normal s1)(h':cM P m d s1 x s'):cM P m (.seq c d) s x s':=fun ro ho E a k =>
 wpIn_seq (wpIn_mono (h ro ho.seq1 E a k) fun e q M ⟨u,v⟩=>by
  subst u;obtain⟨loc,X,y,B⟩:=v;exact wpIn_mono (h' ro ho.B5 _ q y) fun _ _ _ ⟨I,J⟩=>⟨I,dt.after B J⟩)
theorem I'{c d:Code}(h:cM P m c s x s')(q:x≠.normal):cM P m (.seq c d) s x s':=fun ro ho E a u =>
 wpIn_seq (wpIn_mono (h ro ho.seq1 E a u) fun e y B ⟨v,k⟩=>by
  subst v;cases x with
  |normal=>exact(q rfl).elim
  |exit id=>exact⟨rfl,k⟩
  |ret=>exact⟨rfl,k⟩)
theorem Ja{o:Operand}{c d:Code}{b:Bool}(hb:s.eval o=.lit (.bool b))(h:cM P m (if b then c else d) s x s'):cM P m (.cond o c d) s x s':=fun ro ho E a k=>by
 have:=k.eval o;rw[hb]at this;simp only[rel]at this;exact wpIn_cond this (h ro (ho.cond b) E a k)
def bL.inBlock(id:Nat):bL→bL
 |.exit i=>if i=id then .normal else .exit i
 |x=>x
theorem Jb{id:Nat}{c:Code}(h:cM P m c s x s'):cM P m (.block id c) s (x.inBlock id) s':=fun ro ho E a k =>
 wpIn_block (wpIn_mono (h ro ho E a k) fun e u v ⟨q,d⟩=>by
  subst q;cases x with
  |normal=>exact⟨rfl,d⟩
  | exit i =>
   simp only[bL.toExit,Exit.inBlock,bL.inBlock];split
   ·exact⟨rfl,d⟩
   ·exact⟨rfl,d⟩
  |ret=>exact⟨rfl,d⟩)
def rm(P:Program)(m:Nat)(c:Code):Nat→St→bL→St→Prop
 |0,s,x,s'=>x≠.normal∧cM P m c s x s'
 |n+1,s,x,s'=>∃ s1,cM P m c s .normal s1∧rm P m c n s1 x s'
def j_(P:Program)(m:Nat)(c:Code)(s:St)(x:bL)(s':St):Prop:=∃ n,rm P m c n s x s'
theorem j_.stop{c:Code}(h:cM P m c s x s')(d:x≠.normal):j_ P m c s x s':=⟨0,d,h⟩
theorem j_.next{c:Code}(h:cM P m c s .normal s1)(h':j_ P m c s1 x s'):j_ P m c s x s':=let ⟨n,d⟩:=h'; ⟨n+1,s1,h,d⟩
theorem j_.pre{c:Code}(hle:be m s s1)(h:j_ P m c s1 x s'):j_ P m c s x s':=by
 obtain⟨n,d⟩:=h;cases n with
 |zero=>exact⟨0,d.1,rj hle d.2⟩
 | succ n =>
  obtain⟨s2,h1,k⟩:=d;exact⟨n+1,s2,rj hle h1,k⟩
theorem Jc{c:Code}(h:j_ P m c s x s'):cM P m (.loop c) s x s':=fun ro ho E a W b k cs N hb hr=>by
 obtain⟨n,hn⟩:=h;have key:∀(n:Nat) (s1:St) (d:Env) (a:Act),bP s1 d a→E.dx m d→rm P m c n s1 x s' →
   ∃ e u w',(e=x.toExit∧dt m E s' u w')∧ArrivesIn (Machine.fenced P (fz ro)) P (lone (b.atR a (.code c::.inLoop c::k)) cs d.w) b k cs e u w':=by
  intro n
  induction n with
  | zero =>
   intro s1 d a I hle y;obtain⟨hx,B⟩:=y;obtain⟨e,J,O,⟨v,h4⟩,q⟩:=B ro ho.loop d a I b (.inLoop c::k) cs N hb hr;refine⟨e,J,O,⟨v,dt.after hle h4⟩,?_⟩;subst v;exact .pass (x:=.inLoop c) rfl (fun _ _=>.inl (by cases x<;>simp_all[bL.toExit])) q
  | succ n ih =>
   intro s1 d a I hle y;obtain⟨s2,B,U⟩:=y;obtain⟨e,J,O,⟨v,loc,X,h5,h6⟩,q⟩:=B ro ho.loop d a I b (.inLoop c::k) cs N hb hr;subst v;obtain⟨e2,a2,w2,M,V⟩:=ih s2 _ J h5 (hle.trans h6) U;exact⟨e2,a2,w2,M,.of_steps (StepsIn.trans q (.one (fenced_calm hb hr rfl) stepR_inLoop)) V⟩
 obtain⟨e,u,w',M,q⟩:=key n s E a W (Env.le.refl E).toM hn;exact⟨e,u,w',M,.of_steps (.one (fenced_calm hb hr rfl) stepR_loop) q⟩
end rules
def xI(P:Program)(s:St):ResultVar→Option AV
 |.tmp t=>some (s.fr.getD t .undef)
 |.cell a t=>ig P t (s.fr.getD a .undef) s.H
def ir(P:Program)(s:St):List ResultVar→Option (List AV)
 | []=>some []
 | r::rs=>match xI P s r,ir P s rs with
  |some v,some vs=>some (v::vs)
  |_,_=>none
def df:List AV→AV
 | [v]=>v
 |vs=>.tuple vs
def B7(tmps:Array Value):ResultVar→Sem Value
 |.tmp t=>pure (tmps.getD t undef)
 |.cell a t=>do loadVar t (← asAddr (tmps.getD a undef))
theorem Uc{P:Program}{s:St}{E:Env}{a:Act}(k:bP s E a){r:ResultVar}{v:AV}(h:xI P s r=some v) :
  ∃ u,(B7 a.tmps r).run P E.w=.ok u E.w∧rel E v u:=by
 cases r with
 | tmp t =>
  simp only[xI,aQ]at h;subst h;exact⟨_,rfl,k.eval (.tmp t)⟩
 | cell x t =>
  simp only[xI]at h;rw[←k.H]at h;have d:=k.eval (.tmp x);simp only[St.eval,Act.eval]at d;obtain⟨u,g1,g2⟩:=HS k.heap h d;refine⟨u,?_,g2⟩;have y:∃ b o,a.tmps.getD x undef=.pointer (some ⟨b,o,none⟩):=by
   unfold ig at h;split at h
   case h_2=>cases h
   split at h
   ·rename_i q
    rw[q]at d;simp only[rel]at d;obtain⟨_,b,o,e,_⟩:=d;exact⟨b,o,e⟩
   ·rename_i q
    rw[q]at d;simp only[rel]at d;obtain⟨⟨b,o,e⟩,_⟩:=d;exact⟨b,o,e⟩
   ·cases h
  obtain⟨b,o,e⟩:=y;show (do loadVar t (← asAddr (a.tmps.getD x undef)):Sem Value).run P E.w=.ok u E.w
  rw[e]at g1⊢;simpa[Instr.loadAt,Instr.sureAddr,asAddr]using g1
theorem xJ{P:Program}{s:St}{E:Env}{a:Act}(d:bP s E a):∀(rs:List ResultVar) (vs:List AV),ir P s rs=some vs →
  ∃ us:List Value,(rs.mapM (B7 a.tmps)).run P E.w=.ok us E.w∧af E vs us
 | [],vs,h=>by simp[ir]at h; subst h; exact⟨[],rfl,by simp[af]⟩
 | r::rs,vs,h=>by
  simp only[ir]at h;split at h
  case h_2=>cases h
  rename_i v k h1 q;cases h;obtain⟨u,g1,g2⟩:=Uc d h1;obtain⟨us,g3,g4⟩:=xJ d rs k q;refine⟨u::us,?_,by simp only[af]; exact⟨g2,g4⟩⟩;simp only[List.mapM_cons,bW];rw[g1];simp only[bX];rw[g3];rfl
theorem xK(fn:Func)(tmps:Array Value):results fn tmps=(do let vs ← fn.results.mapM (B7 tmps); pure (if h:vs.size=1 then vs[0] else .tuple vs)):=by
 unfold results;congr 1
theorem Ud{P:Program}{fn:Func}{s:St}{E:Env}{a:Act}(k:bP s E a){vs:List AV}(h:ir P s fn.results.toList=some vs) :
  ∃ u,(results fn a.tmps).run P E.w=.ok u E.w∧rel E (df vs) u:=by
 obtain⟨us,g1,g2⟩:=xJ k fn.results.toList vs h;refine⟨if h:us.toArray.size=1 then us.toArray[0] else .tuple us.toArray,?_,?_⟩
 ·rw [xK]
  simp only[bW];rw[Array.mapM_eq_mapM_toList,Sem.run_map,g1];rfl
 ·have d := gb g2
  cases us with
  | nil =>
   cases vs with
   |nil=>simp[df,rel,af]
   |cons _ _=>simp at d
  | cons u us =>
   cases us with
   | nil =>
    cases vs with
    |nil=>simp at d
    | cons v vs =>
     cases vs with
     |nil=>simp only[af]at g2; simpa[df]using g2.1
     |cons _ _=>simp at d
   | cons q us =>
    cases vs with
    |nil=>simp at d
    | cons v vs =>
     cases vs with
     |nil=>simp at d
     | cons v2 vs =>
      simp only[df,rel];exact⟨(u::q::us).toArray,by simp,g2⟩
def jh(args:List AV)(n:Nat):List AV:=args++bO (n-args.length) .undef
theorem ua{E:Env}:∀(vs:List Value),af E (bO vs.length .undef) vs
 | []=>by simp[af]
 |_::vs=>by simp only[cr,List.replicate_succ,af,rel]; exact⟨trivial,ua vs⟩
structure gC (E E':Env):Prop where
 H:E'.H=E.H
 loc:E'.loc=E.loc
 size:E.w.heap.size≤E'.w.heap.size
 same:∀ b,b<E.w.heap.size→¬ E.X b→¬ E'.X b∧E'.w.heap[b]? = E.w.heap[b]?
 X:∀ b,E'.X b→b<E'.w.heap.size
 r:E'.X.r=E.X.r
theorem gC.own{E E':Env}(h:gC E E')(b:Nat):E'.own b↔E.own b:=by unfold Env.own Env.sat; rw[h.loc,h.r]
theorem gC.toC{E E':Env}(h:gC E E'):E.bF E' :=
 ⟨fun b hb=>⟨⟨dz hb.1 h.size,fun ho=>hb.2.1 ((h.own b).1 ho),(h.same b hb.1 hb.2.2).1⟩,(h.same b hb.1 hb.2.2).2⟩⟩
mutual
theorem ub{E E':Env}(h:gC E E'):∀(a:AV) {c:Value},rel E a c→rel E' a c
 |.undef,_,_=>by simp[rel]
 |.lit v,c,hr=>by simpa only[rel]using hr
 |.nils,c,hr=>by simpa only[rel]using hr
 |.list k rows,c,hr=>dL h.toC _ (by simp[AV.closed]) hr
 |.listF ks rows,c,hr=>dL h.toC _ (by simp[AV.closed]) hr
 | .agg cells,c,hr=>by
  simp only[rel]at hr⊢;obtain⟨cs,e,h1,d⟩:=hr;exact⟨cs,e,h1,mG h cells d⟩
 | .tuple cells,c,hr=>by
  simp only[rel]at hr⊢;obtain⟨cs,e,d⟩:=hr;exact⟨cs,e,mG h cells d⟩
 |.cptr cells,c,hr=>dL h.toC _ (by simp[AV.closed]) hr
 | .ptr id ad k row col,c,hr=>by
  simp only[rel,Env.past,Env.live,h.H,h.loc]at hr⊢;exact hr
 | .vec k id ad off n,c,hr=>by
  simp only[rel,Env.past,Env.live,h.H,h.loc]at hr⊢;exact hr
 | .map id,c,hr=>by
  simp only[rel,Env.past,Env.live,h.H,h.loc]at hr⊢;exact hr
 | .clo f caps,c,hr=>by
  simp only[rel]at hr⊢;obtain⟨cs,e,d⟩:=hr;exact⟨cs,e,mG h caps d⟩
 |.ifc,c,hr=>by simpa only[rel]using hr
 |.emptyS n,c,hr=>by simpa only[rel]using hr
 | .sub id l j,c,hr=>by
  simp only[rel,Env.past,Env.live,Env.HJ,h.H,h.r]at hr⊢;exact hr
theorem mG{E E':Env}(h:gC E E'):∀(as:List AV) {vs:List Value},af E as vs→af E' as vs
 | [],[],_=>by simp[af]
 | [],_::_,hr=>by simp[af]at hr
 |_::_,[],hr=>by simp[af]at hr
 | a::as,v::vs,hr=>by
  simp only[af]at hr⊢;exact⟨ub h a hr.1,mG h as hr.2⟩
end
theorem ar.cH{E E':Env}(H:ar E)(h:gC E E'):ar E' where
 fb:=H.fb.bF h.toC
 len:=by rw[h.loc,h.H]; exact H.len
 inj:=by rw[h.loc]; exact H.inj
 lt:=fun i b m hi=>by
  rw[h.loc]at hi;have:=H.lt i b m hi;exact⟨dz this.1 h.size,(h.same b this.1 this.2).1⟩
 X:=h.X
 obj:=fun i o hi=>by
  rw[h.H]at hi;exact jZ (fun a _ hr=>ub h a hr) (by rw[h.loc]) (fun b n hb=>(h.same b (H.lt i b n hb).1 (H.lt i b n hb).2).2) (fun l _=>⟨by rw[h.r],fun k g m hk=>(h.same g (H.ch l k g m hk).1 (H.ch l k g m hk).2).2⟩) (H.obj i o hi)
 eC:=by rw[h.r]; exact H.eC
 cP:=by rw[h.r,h.loc]; exact H.cP
 ch:=fun l k b m hk=>by
  rw[h.r]at hk;have:=H.ch l k b m hk;exact⟨dz this.1 h.size,(h.same b this.1 this.2).1⟩
 uniq:=by rw[h.H]; exact H.uniq
 gd:=by rw[h.H,h.r]; exact H.gd
theorem bP.cH{s:St}{E E':Env}{a:Act}(d:bP s E a)(h:gC E E'){l:List Deferred}(hm:je E'.w E'.X l):bP s E' { a with defers:=l } :=
 ⟨by rw[h.H]; exact d.H,mG h _ d.fr,hm,d.heap.cH h⟩
theorem Jd{P:Program}{fn:Func}{tmps:Array Value}{R:Ending→World→Prop}:∀(l:List Deferred) (w:World) (X:XS),je w X l →
  (∀ w',w'.heap.size=w.heap.size→(∀ b,w'.heap[b]? ≠ w.heap[b]? → X b∧X.z b)→dR w w'→∃ v,(results fn tmps).run P w'=.ok v w'∧R (.returned v) w')→LeavesInM (fz none) 0 P fn tmps R l .returning w
 | [],w,X,_,h=>h w rfl (fun b hb=>(hb rfl).elim) (dR.refl w)
 | d::l,w,X,hm,h=>by
  obtain⟨D,e,h1,B,I⟩:=hm.2 d cO;subst e;have O:D<w.heap.size:=(gr.1 h1).1;have k:∀ b,b≠D→(w.putObj D (.deferred none)).heap[b]? = w.heap[b]? := fun b hb=>World.putObj_heap_other hb;have y:(w.putObj D (.deferred none)).heap.size=w.heap.size:=by simp[World.putObj]
  refine⟨by simp,.inl ⟨D,_,rfl,run_takeDeferred h1,Jd l _ X ⟨(kK.1 hm.1).2,fun d' q=>?_⟩ fun w' g1 g2 g3=>h w' (by rw[g1,y]) (fun b hb=>?_) (dR.trans ⟨rfl,rfl,rfl,by first|exact fun _=>aD _|exact fun _=>Nat.le_add_right _ _⟩ g3)⟩⟩
  ·obtain ⟨u, e', J, M, N⟩ := hm.2 d' (List.mem_cons_of_mem _ q)
   refine⟨u,e',?_,M,N⟩;rw[k u (fun e=>(kK.1 hm.1).1 (by rw[←e,←e']; exact q))];exact J
  ·by_cases e : b = D
   ·subst e
    exact⟨B,I⟩
   ·refine g2 b ?_
    rw[k b e];exact hb
theorem B8{P:Program}{f:FuncId}{fn:Func}{c:Code}{args:Array Value}{w:World}{R:Ending→World→Prop}(q:P.funcs[f]? = some fn)(hb:fn.body=some c)
  (h : c.wpIn (fz none) 0 P (fun e k d => (e = .normal ∨ e = .ret) ∧ ∃ X, je d X k.defers ∧ ∀ w', w'.heap.size = d.heap.size → (∀ b, w'.heap[b]? ≠ d.heap[b]? → X b ∧ X.z b) → dR d w' → ∃ v, (results fn k.tmps).run P w' = .ok v w' ∧ R (.returned v) w')
   { tmps:=args++nr (fn.ntmps-args.size) undef,defers:=[] } w):Calls P f args w R:=by
 refine(callsIn_wide (n:=0)).1 (callsIn_of_wp_marks (F:=fz none) q hb trivial (wpIn_mono h fun e k d u=>?_));obtain⟨he,X,h1,y⟩:=u;have:=Jd (P:=P) (fn:=fn) (tmps:=k.tmps) (R:=R) k.defers d X h1 y;rcases he with rfl|rfl
 ·exact this
 ·exact this
theorem B9{m:Nat}{E:Env}{s':St}{h:List (Option (Nat × Nat))}{X':XS}{k:Act}{d w':World}(HE:ar E)(y:bP s' { w:=d,H:=s'.H,loc:=h,X:=X' } k)
  (hle:({ E with X:=⟨E.X.x,fun _=>False,E.X.r⟩ }:Env).dx m { w:=d,H:=s'.H,loc:=h,X:=X' }) (h1:w'.heap.size=d.heap.size) (q:∀ b,w'.heap[b]? ≠ d.heap[b]? → X' b∧X'.z b) (B:dR d w') :
  bP s' { w:=w',H:=s'.H,loc:=h,X:=E.X.re X'.r } { k with defers:=[] }∧E.dx m { w:=w',H:=s'.H,loc:=h,X:=E.X.re X'.r }:=by
 have v:∀ b,b<E.w.heap.size→w'.heap[b]? = d.heap[b]? := fun b hb=>agY fun aw=>((hle.X b hb).2.1 (q b aw).2).elim;have I:E.w.heap.size≤d.heap.size:=hle.size;have cH:gC { w:=d,H:=s'.H,loc:=h,X:=X' } { w:=w',H:=s'.H,loc:=h,X:=E.X.re X'.r } :=
  ⟨rfl, rfl, by show d.heap.size ≤ w'.heap.size; omega, fun b hb u => ⟨fun he => u ((hle.X b (HE.X b he)).1.2 he), agY fun aw => u (q b aw).1⟩, fun b hb => by
   have:=HE.X b hb;show b<w'.heap.size
   omega,rfl⟩
 refine⟨y.cH cH (pd _ _),⟨hle.past,by show E.w.heap.size≤w'.heap.size; omega,fun b hb ho=>?_,hle.own,hle.live,fun b _=>⟨Iff.rfl,Iff.rfl⟩,hle.rl,hle.env.trans B,hle.grow⟩⟩;show w'.heap[b]? = E.w.heap[b]?
 rw[v b hb];exact hle.same b hb ho
theorem rq{E:Env}(HE:ar E):gC E { E with X:=⟨E.X.x,fun _=>False,E.X.r⟩ }:=⟨rfl,rfl,aD _,fun b _ d=>⟨d,rfl⟩,HE.X,rfl⟩
theorem Ue{P:Program}{f:FuncId}{fn:Func}{c:Code}{args:List AV}{H:List ab}{x:bL}{s':St}{vs:List AV}
  (I:P.funcs[f]? = some fn) (hb:fn.body=some c) (J:cM P H.length c ⟨jh args fn.ntmps,H⟩ x s') (M:x=.normal∨x=.ret) (hr:ir P s' fn.results.toList=some vs) (B:xG H) :
  dB P f args H (df vs) s'.H:=by
 intro E cargs hH HE k;refine B8 I hb ?_;have q:=rq HE;have k:=mG q _ k;have v:bP ⟨jh args fn.ntmps,H⟩ { E with X:=⟨E.X.x,fun _=>False,E.X.r⟩ } { tmps:=cargs++nr (fn.ntmps-cargs.size) undef,defers:=[] }:=by
  refine⟨hH,?_,pd _ _,HE.cH q⟩;simp only[jh,wN,Array.toList_replicate];refine j7 k ?_;have:=gb k;have e:args.length=cargs.size:=by simpa using this
  rw[e];have:=ua (E:={ E with X:=⟨E.X.x,fun _=>False,E.X.r⟩ }) (bO (fn.ntmps-cargs.size) undef);simpa using this
 refine wpIn_mono (J none (B6 _) { E with X:=⟨E.X.x,fun _=>False,E.X.r⟩ } _ v) fun e W w1 ⟨N,y,X',d,h⟩=>?_;refine⟨by subst N; rcases M with rfl|rfl; exact .inl rfl; exact .inr rfl,X',d.defers,fun w' O U V=>?_⟩;obtain⟨d,h⟩:=B9 HE d h O U V;obtain⟨u,g1,g2⟩:=Ud d hr;have h:=h.full ⟨rfl,rfl⟩ (by rw[hH]; exact aD _) (by rw[hH]; exact B);exact⟨u,g1,u,df vs,s'.H,rfl,⟨rfl,rfl⟩,y,X'.r,g2,d.heap,h⟩
theorem Uf{P:Program}{f:FuncId}{args:List AV}{v:AV}{H1:List ab}(h:dB P f args [] v H1)(ha:AV.bl args=true)(N:v.closed=true):cR P f args v:=by
 intro H E cargs hH HE I
 let E0:Env:={ w:=E.w,H:=[],loc:=[],X:=(E.X.or E.own).re dK }
 have u:∀ b,¬ E0.own b:=by rintro b (⟨id,c,hid⟩|⟨l,k,c,hk⟩); simp[E0]at hid; simp[E0,dK]at hk
 have hC:E.bF E0:=⟨fun b hb=>⟨⟨hb.1,u b,fun d=>d.elim hb.2.2 hb.2.1⟩,rfl⟩⟩
 have M:ar E0:=by
  refine⟨rfl,?_,?_,?_,?_,HE.fb.bF hC,fun l k l' k' b m n hk=>by simp[E0,dK]at hk,fun i b m l k n hi=>by simp[E0]at hi,fun l k b m hk=>by simp[E0,dK]at hk,fun i j o o' l hi=>by simp[E0]at hi,fun l _ k q hk=>by simp[E0,dK]at hk⟩
  ·intro i j b m n hi; simp[E0]at hi
  ·intro i b m hi; simp[E0]at hi
  ·rintro b (d | ho)
   ·exact HE.X b d
   ·exact(HE.w5 ho).1
  ·intro i o hi; simp[E0]at hi
 refine(h E0 cargs rfl M (ny hC args ha I)).mono ?_;rintro _ w' ⟨c,B,H',rfl,⟨rfl,rfl⟩,J,r',g1,g2,g3⟩;have y:Ext E.w w':=⟨g3.size,fun b hb=>g3.same b hb (u b),g3.env⟩
 refine⟨c,B,H,rfl,⟨rfl,rfl⟩,E.loc,E.X.r,?_,?_,?_⟩
 ·rw [← hH]
  exact dL (E:={ w:=w',H:=H',loc:=J,X:=E0.X.re r' }) (E':={ w:=w',H:=E.H,loc:=E.loc,X:=E.X })
   ⟨fun b hb=>⟨⟨hb.1,fun ho=>hb.2.2 (Or.inr ho),fun d=>hb.2.2 (Or.inl d)⟩,rfl⟩⟩ B N g1
 ·rw[←hH]; exact HE.ext y
 ·rw[←hH]; exact Env.jd y
end Go.AL

namespace Go.AL
open Go
variable [Dr]
variable {P:Program} {pf:FuncId→Bool} {ops:Array Oper}
def kV(r:Operand→AV):Op→Option Nat
 | .load _ a=>match r a with
  |.ptr id _ _ _ _=>some id
  |_=>none
 | .lookup _ m _ _=>match r m with
  |.map id=>some id
  |.sub id _ _=>some id
  |_=>none
 | .call c=>match c.args.toList with
  | [a]=>match r a with
   |.map id=>some id
   |_=>none
  |_=>none
 |_=>none
theorem Je{r:Operand→AV}{H H2:List ab}:∀{op:Op},(∀ id,kV r op=some id→H2[id]? = H[id]?)→eL P r H2 op=eL P r H op:=by
 intro op h;cases op<;>simp only[eL]
 case load t a =>
  simp only[kV]at h;unfold ig;cases ha:r a with
  | ptr id ad w row col =>
   rw[ha]at h;have:=h id rfl;simp only[this]
  |_=>rfl
 case lookup t m k ok =>
  simp only[kV]at h;have d:jF P t (r m) (r k) ok H2=jF P t (r m) (r k) ok H:=TH (fun id e=>by rw[e]at h; exact h id rfl) (fun id l j e=>by rw[e]at h; exact h id rfl);rw[d];have h1:fT P t (r m) (r k) ok H2=fT P t (r m) (r k) ok H:=by
   unfold fT;cases dc P t with
   |none=>rfl
   | some p =>
    obtain⟨q,u⟩:=p;cases hm:r m with
    | map id =>
     rw[hm]at h;have:=h id rfl;simp only[this]
    |_=>rfl
  rw[h1]
 case call c =>
  simp only[kV]at h;unfold nH;split
  ·rename_i a t v ha y
   rw[ha]at h;simp only[]at h;cases dc P t with
   |none=>rfl
   | some p =>
    cases hm:r a with
    | map id =>
     rw[hm]at h;have:=h id rfl;simp only[this]
    |_=>rfl
  ·rfl
theorem Jf{r r':Operand→AV}(o:Op)(h:∀ x∈o.operands,r x=r' x):kV r o=kV r' o:=by
 cases o<;>simp only[kV]
 case load t a =>
  simp only[fa]at h;rw[h a (by simp)]
 case lookup t m k ok =>
  simp only[fa]at h;rw[h m (by simp)]
 case call c =>
  split
  ·rename_i a ha
   have:a∈(Op.call c).operands:=by
    show a∈c.operands
    have h1:a∈c.args:=by
     have:a∈c.args.toList:=by rw[ha]; simp
     simpa using this
    simp[tq,h1]
   rw[h a this]
  ·rfl
abbrev iu:=List (Nat × List Nat × Nat)
abbrev ji:=List (Nat × Nat)
def kept(W:iu)(j A:Nat):Prop:=∀ e∈W,e.1=j→A∉e.2.1∧A<e.2.2
def B_(ops:Array Oper):Bool :=
 (dP ops.size).any fun j => (dP j).any fun i => match ops[i]?, ops[j]? with
  |some x,some y=>eb x.op&&eb y.op && !waits ops ops.size j i
  |_,_=>false
def ka:Op→Bool
 | .call c=>match c.callee with
  |.value (.func _)=>true
  |_=>false
 |_=>false
def isVar:Op→Bool
 |.alloc _=>true
 |_=>false
theorem rr{op:Op}(h:isVar op=true):eb op=true:=by
 unfold isVar at h;split at h
 ·rfl
 ·cases h
def nI(ops:Array Oper):Bool :=
 (dP ops.size).any fun j => (dP j).any fun i => match ops[i]?, ops[j]? with
  |some x,some y=>ka x.op&&isVar y.op && !waits ops ops.size j i
  |_,_=>false
def iP:Op→Bool
 |.mapEntry ..=>true
 |.entryStore ..=>true
 |_=>false
def Ca(ops:Array Oper):Bool :=
 (dP ops.size).any fun j => (dP j).any fun i => match ops[i]?, ops[j]? with
  |some x,some y=>eb x.op&&iP y.op && !waits ops ops.size j i
  |_,_=>false
def mH(ops:Array Oper):Bool:=(B_ ops||nI ops)||Ca ops
theorem Jg{pf:FuncId→Bool}{op:Op}(h:iP op=true):cL pf op=.write:=by
 unfold iP at h;split at h
 ·rfl
 ·rfl
 ·cases h
theorem Ug{op:Op}(h:iP op=true):eb op=false:=by
 unfold iP at h;split at h
 ·rfl
 ·rfl
 ·cases h
theorem Uh{op:Op}(h:iP op=true):ka op=false:=by
 unfold iP at h;split at h
 ·rfl
 ·rfl
 ·cases h
theorem mI{pf:FuncId→Bool}{op:Op}(h:eb op=true):cL pf op=.write:=by
 unfold eb at h;split at h
 ·rfl
 ·rfl
 ·cases h
theorem xL{pf:FuncId→Bool}{op:Op}{X:Prop}(h:cL pf op≠.write):eb op=true→X:=fun ha=>(h (mI ha)).elim
theorem lJ{op:Op}(h:eb op=true):ka op=false:=by
 unfold eb at h;split at h
 ·rfl
 ·rfl
 ·cases h
def mJ(σ:List (Nat × ab))(H:List ab):List ab:=σ.foldl (fun H p=>H.set p.1 p.2) H
def xM(W:iu)(j:Nat)(H:List ab)(σ:List (Nat × ab)):Prop:=∀ p∈σ,kept W j p.1∧∃ k r,H[p.1]? = some (.vec k 0 [])∧p.2=.vec k 1 r
def Step(P:Program)(pf:FuncId→Bool)(ops:Array Oper)(R:ji)(W:iu)(j:Nat)(o:Oper)(s:St)(v:AV)(H':List ab):Prop :=
 (cL pf o.op = .write → ∀ A, kept W j A → H'[A]? = s.H[A]?) ∧ (cL pf o.op = .read → bQ ops s.fr o = some true → ∀ id, kV s.eval o.op = some id → (j, id) ∈ R) ∧
  (eb o.op=true→mH ops=true→bQ ops s.fr o=some true→H'.length=s.H.length∧∀ id,H'[id]? ≠ s.H[id]? → ∃ e∈W,e.1=j∧id∈e.2.1) ∧
  (ka o.op=true→nI ops=true→cL pf o.op=.write→bQ ops s.fr o=some true→∀ σ,xM W j s.H σ→Yields P pf ops o ⟨s.fr,mJ σ s.H⟩ v (mJ σ H'))
def Jh(R:ji)(W:iu)(i j:Nat):Prop:=∀ id,(i,id)∈R→kept W j id
def Cb(pf:FuncId→Bool)(ops:Array Oper)(R:ji)(W:iu)(i:Nat)(x:Oper)(j:Nat)(y:Oper):Prop :=
 mF pf x y=true∨(cL pf x.op=.read∧cL pf y.op=.write∧Jh R W i j)∨(cL pf x.op=.write∧cL pf y.op=.read∧Jh R W j i)∨(eb x.op=true∧eb y.op=true∧mH ops=true) ∨
  (cL pf x.op=.write∧ka x.op=true∧isVar y.op=true∧nI ops=true∧∀ e∈W,e.1=j→∀ id∈e.2.1,kept W i id) ∨
  (eb x.op=true∧iP y.op=true∧mH ops=true∧∀ e∈W,e.1=i→∀ id∈e.2.1,kept W j id)
theorem Ji{o:Oper}{s:St}{v:AV}{H':List ab}(ho:isVar o.op=true)(h:Yields P pf ops o s v H')(q:bQ ops s.fr o=some true→H'.length=s.H.length) :
  (bQ ops s.fr o = some false ∧ v = .tuple [] ∧ H' = s.H) ∨
   (bQ ops s.fr o=some true∧∃ t id z k m,o.op=.alloc t∧d_ P t=some z∧s.H[id]? = some (.vec k 0 [])∧k=z.length∧v=.ptr id 1 k 0 0∧H'=s.H.set id (.vec k 1 [dS m z])):=by
 unfold Yields at h;cases hw:bQ ops s.fr o with
 |none=>rw[hw]at h; exact h.elim
 | some b =>
  rw[hw]at h;cases b with
  |false=>exact .inl ⟨rfl,h.1,h.2⟩
  | true =>
   right;refine⟨rfl,?_⟩;simp only[mI (rr ho)]at h;have q:=q hw;rcases h with(h|⟨f,args,h1,_⟩)|(⟨t,id,m,d,y⟩|⟨t,id,d,y⟩)|u
   ·unfold isVar at ho
    split at ho
    ·rename_i t d
     rw[d]at h;simp only[c_,pj]at h;split at h
     ·split at h
      ·cases h
       simp at q
      ·cases h
     ·split at h
      ·cases h
       simp at q
      ·cases h
    ·cases ho
   ·unfold isVar at ho
    split at ho
    ·rename_i t d
     rw[d]at h1;cases h1
    ·cases ho
   ·obtain ⟨z, k, h1, B, I, J, M⟩ := I4 y
    exact⟨t,id,z,k,m,d,h1,B,I,J,M⟩
   ·rw [d] at ho
    cases ho
   ·unfold isVar at ho
    split at ho
    ·rename_i t d
     rw[d]at u;exact u.elim
    ·cases ho
def jk(P:Program)(op:Op)(id:Nat)(y:ab)(v:AV)(x:ab):Prop :=
 (∃ t z k m,op=.alloc t∧d_ P t=some z∧k=z.length∧y=.vec k 0 []∧v=.ptr id 1 k 0 0∧x=.vec k 1 [dS m z])∨∃ t,op=.makeMap t none∧y=.dQ∧v=.map id∧x=.map [] 0
theorem jk.ne{op k:Op}{id q:Nat}{y d x u:ab}{v B:AV}(h:jk P op id y v x)(h':jk P k q d B u):x≠d:=by
 rcases h with⟨_,_,_,_,_,_,_,_,_,rfl⟩|⟨_,_,_,_,rfl⟩<;>rcases h' with⟨_,_,_,_,_,_,_,rfl,_,_⟩|⟨_,_,rfl,_,_⟩<;>intro e<;>cases e
theorem Cc{o:Oper}{s:St}{v:AV}{H':List ab}(ho:eb o.op=true)(h:Yields P pf ops o s v H')(u:bQ ops s.fr o=some true→H'.length=s.H.length) :
  (bQ ops s.fr o = some false ∧ v = .tuple [] ∧ H' = s.H) ∨
   (bQ ops s.fr o=some true∧∃ id y x,jk P o.op id y v x∧s.H[id]? = some y∧H'=s.H.set id x):=by
 cases q:isVar o.op with
 | true =>
  rcases Ji q h u with h|⟨h1,t,id,z,k,m,I,J,N,O,U,V⟩
  ·exact .inl h
  ·exact .inr ⟨h1,id,_,_,.inl ⟨t,z,k,m,I,J,O,rfl,U,rfl⟩,N,V⟩
 | false =>
  have hm:∃ t,o.op=.makeMap t none:=by
   unfold eb at ho;split at ho
   ·rename_i t d
    rw[d]at q;cases q
   ·rename_i t d
    exact⟨t,d⟩
   ·cases ho
  obtain⟨t,d⟩:=hm;unfold Yields at h;cases hw:bQ ops s.fr o with
  |none=>rw[hw]at h; exact h.elim
  | some b =>
   rw[hw]at h;cases b with
   |false=>exact .inl ⟨rfl,h.1,h.2⟩
   | true =>
    right;refine⟨rfl,?_⟩;simp only[mI ho]at h;have u:=u hw;rcases h with(h|⟨f,args,h1,_⟩)|(⟨t',id,m,B,q⟩|⟨t',id,B,q⟩)|M
    ·rw [d] at h
     simp only[c_]at h;cases h;simp at u
    ·rw [d] at h1
     cases h1
    ·rw [d] at B
     cases B
    ·obtain ⟨h1, I, J⟩ := BJ q
     exact⟨id,_,_,.inr ⟨t,d,rfl,I,rfl⟩,h1,J⟩
    ·rw [d] at M
     exact M.elim
theorem Jj{o:Oper}{s:St}{t:TypeId}{id k:Nat}{z:List Value}(hw:bQ ops s.fr o=some true)(ho:o.op=.alloc t)(d:d_ P t=some z)(hid:s.H[id]? = some (.vec k 0 []))(hk:k=z.length) (m:List (Option (List Kd))) :
  Yields P pf ops o s (.ptr id 1 k 0 0) (s.H.set id (.vec k 1 [dS m z])):=by
 unfold Yields;rw[hw,ho];exact .inr (.inl (.inl ⟨t,id,m,rfl,I5 m d hid hk⟩))
theorem Cd{o:Oper}{s:St}{id:Nat}{v:AV}{x y:ab}(hw:bQ ops s.fr o=some true)(d:jk P o.op id y v x)(hid:s.H[id]? = some y):Yields P pf ops o s v (s.H.set id x):=by
 rcases d with⟨t,z,k,m,h1,h,q,rfl,rfl,rfl⟩|⟨t,h1,rfl,rfl,rfl⟩
 ·exact Jj hw h1 h hid q m
 ·unfold Yields
  rw[hw,h1];exact .inr (.inl (.inr ⟨t,id,rfl,Iz hid⟩))
def kW:ab→Bool
 |.aO ..=>false
 |.mm ..=>false
 |_=>true
theorem jk.no{op:Op}{id:Nat}{y x:ab}{v:AV}(h:jk P op id y v x):kW x=true∧kW y=true∧x≠.dead:=by
 rcases h with⟨_,_,_,_,_,_,_,rfl,_,rfl⟩|⟨_,_,rfl,_,rfl⟩
 ·exact⟨rfl,rfl,fun e=>by cases e⟩
 ·exact⟨rfl,rfl,fun e=>by cases e⟩
theorem Ui{t:TypeId}{id:Nat}{k:AV}{H:List ab}{x:ab}(h:H[id]? = some x)(d:kW x=true):im P t (.map id) k H=none∧jf P t (.map id) k H=none:=by
 unfold im jf;cases dc P t with
 |none=>exact⟨rfl,rfl⟩
 | some p =>
  simp only[h];cases x<;>first|exact⟨rfl,rfl⟩|cases d
theorem Uj{t:TypeId}{id a:Nat}{k:AV}{H:List ab}{x:ab}(aw:id≠a)(ha:a<H.length):im P t (.map id) k (H.set a x)=(im P t (.map id) k H).map fun p=>(p.1,p.2.set a x):=by
 unfold im;cases dc P t with
 |none=>rfl
 | some p =>
  simp only[aR (Ne.symm aw),List.length_set];split
  ·split
   ·split
    ·split
     ·split
      ·simp only [dO]
       rw[Hy _ _ (by simpa using ha),mo _ _ aw]
      ·rfl
     ·simp only [dO]
      rw[Hy _ _ (by simpa using ha),mo _ _ aw]
     ·rfl
    ·rfl
   ·rfl
  ·rfl
theorem Uk{t:TypeId}{id a:Nat}{k:AV}{H:List ab}{x:ab}(aw:id≠a):jf P t (.map id) k (H.set a x)=(jf P t (.map id) k H).map fun p=>(p.1,p.2.set a x):=by
 unfold jf;cases dc P t with
 |none=>rfl
 | some p =>
  simp only[aR (Ne.symm aw)];split
  ·split
   ·split
    ·simp only [dO]
     rw[mo _ _ aw]
    ·rfl
   ·rfl
  ·rfl
theorem Ul{t:TypeId}{id a:Nat}{k v:AV}{H H':List ab}(aw:id≠a)(ha:a<H.length)(h:im P t (.map id) k H=some (v,H')):H'[a]? = H[a]? := by
 unfold im at h;split at h
 case h_2=>cases h
 rename_i he;cases he;split at h
 case h_2=>cases h
 split at h
 case h_2=>cases h
 split at h
 case h_2=>cases h
 split at h
 ·split at h
  ·cases h
   rw[cK (by simpa using ha),aR aw]
  ·cases h
 ·cases h
  rw[cK (by simpa using ha),aR aw]
 ·cases h
theorem Um{t:TypeId}{id a:Nat}{k v:AV}{H H':List ab}(aw:id≠a)(h:jf P t (.map id) k H=some (v,H')):H'[a]? = H[a]? := by
 unfold jf at h;split at h
 case h_2=>cases h
 rename_i he;cases he;split at h
 case h_2=>cases h
 split at h
 case h_2=>cases h
 split at h
 ·cases h
  rw[aR aw]
 ·cases h
theorem Un{m s v:AV}{a:Nat}{x y:ab}{H k:List ab}(B:H[a]? = some y)(I:kW x=true∧kW y=true∧x≠.dead)(h:j8 m s v (H.set a x)=some k)(hk:k[a]? = some x) :
  ∃ H1,j8 m s v H=some H1∧k=H1.set a x∧H1[a]? = some y:=by
 have u:=aI B;unfold j8 at h⊢;split at h
 case h_2=>cases h
 rename_i id st w j ad off n;have aw:id≠a:=fun e=>by
  subst e;rw[bx u]at h;obtain⟨h1,_⟩:=I;cases x<;>first|cases h|cases h1
 rw[aR (Ne.symm aw)]at h;split at h
 case h_2=>cases h
 rename_i l w' es cl O N rows g1 g2;split at h
 case isFalse=>cases h
 rename_i M;split at h
 case h_2=>cases h
 rename_i i hi;split at h
 case h_2=>cases h
 rename_i key q bn hb;split at h
 case h_2=>cases h
 rename_i J;cases h;have d:j≠a:=fun e=>by
  subst e;rw[bx (by simpa using u)]at hk;exact I.2.2 (gx hk).symm
 rw[aR (Ne.symm d)]at g2;rw[g1,g2];simp only[if_pos M,hi,hb,J];refine⟨_,rfl,?_,?_⟩
 ·rw[mo _ _ (Ne.symm aw),mo _ _ (Ne.symm d)]
 ·rw[aR d,aR aw,B]
theorem Uo{m s v:AV}{a:Nat}{x y:ab}{H k:List ab}(u:H[a]? = some y)(B:kW x=true∧kW y=true∧x≠.dead)(h:kU m s v (H.set a x)=some k)(hk:k[a]? = some x) :
  ∃ H1,kU m s v H=some H1∧k=H1.set a x∧H1[a]? = some y:=by
 have q:=aI u;unfold kU at h⊢;split at h
 case h_2=>cases h
 rename_i id st j;have aw:id≠a:=fun e=>by
  subst e;rw[bx q]at h;obtain⟨h1,_⟩:=B;cases x<;>first|cases h|cases h1
 rw[aR (Ne.symm aw)]at h;split at h
 case h_2=>cases h
 rename_i l es ms cl I J g1 g2;split at h
 case h_2=>cases h
 rename_i i hi;split at h
 case h_2=>cases h
 rename_i key bn hb;cases h;have d:j≠a:=fun e=>by
  subst e;rw[bx (by simpa using q)]at hk;exact B.2.2 (gx hk).symm
 rw[aR (Ne.symm d)]at g2;rw[g1,g2];simp only[hi,hb];refine⟨_,rfl,?_,?_⟩
 ·rw[mo _ _ (Ne.symm aw),mo _ _ (Ne.symm d)]
 ·rw[aR d,aR aw,u]
theorem Up{m s v:AV}{a:Nat}{x y:ab}{H:List ab}(d:H[a]? = some y)(h:kW x=true∧kW y=true∧x≠.dead){H2:List ab}(hm:kU m s v H=some H2):j8 m s v H=none:=by
 unfold kU at hm;split at hm
 case h_2=>cases hm
 rfl
theorem Uq{op:Op}(J:iP op=true){r:Operand→AV}{H M:List ab}{a:Nat}{x y:ab}{u:AV}(d:H[a]? = some y)(q:kW x=true∧kW y=true∧x≠.dead)(h:c_ P r (H.set a x) op=some (u,M))(hk:M[a]? = some x) :
  ∃ H1,c_ P r H op=some (u,H1)∧M=H1.set a x∧H1[a]? = some y:=by
 have B:=aI d;unfold iP at J;split at J
 ·rename_i t m k
  simp only[c_]at h⊢;cases hm:r m with
  | map id =>
   rw[hm]at h;by_cases aw:id=a
   ·subst aw
    obtain⟨U,V⟩:=Ui (P:=P) (t:=t) (k:=r k) (bx (a:=x) B) q.1;rw[U,V]at h;cases h
   ·rw [Uj aw B, Uk aw] at h
    cases he:im P t (.map id) (r k) H with
    | some p =>
     rw[he]at h;simp only[dO]at h;obtain⟨p1,N⟩:=p;cases h;exact⟨N,rfl,rfl,by rw[Ul aw B he,d]⟩
    | none =>
     rw[he]at h;simp only[Option.map_none]at h;cases I:jf P t (.map id) (r k) H with
     | some p =>
      rw[I]at h;simp only[dO]at h;obtain⟨p1,N⟩:=p;cases h;exact⟨N,rfl,rfl,by rw[Um aw I,d]⟩
     | none =>
      rw[I]at h;cases h
  | _ =>
   rw[hm]at h;unfold im jf at h;cases O:dc P t with
   |none=>rw[O]at h; cases h
   |some p=>rw[O]at h; cases h
 ·rename_i t m s v
  simp only[c_]at h⊢;cases he:j8 (r m) (r s) (r v) (H.set a x)with
  | some H2 =>
   rw[he]at h;cases h;obtain⟨H1,g1,g2,g3⟩:=Un d q he hk;rw[g1];exact⟨H1,rfl,g2,g3⟩
  | none =>
   rw[he]at h;cases hm:kU (r m) (r s) (r v) (H.set a x)with
   |none=>rw[hm]at h; cases h
   | some H2 =>
    rw[hm]at h;cases h;obtain⟨H1,g1,g2,g3⟩:=Uo d q hm hk;rw[Up d q g1,g1];exact⟨H1,rfl,g2,g3⟩
 ·cases J
theorem Ur{o:Oper}{s:St}{u:AV}{v:List ab}(k:iP o.op=true)(h:Yields P pf ops o s u v)(hw:bQ ops s.fr o=some true):c_ P s.eval s.H o.op=some (u,v):=by
 unfold Yields at h;simp only[hw,Jg k]at h;rcases h with(h|⟨f,args,h1,_⟩)|(⟨t,id,m,d,_⟩|⟨t,id,d,_⟩)|q
 ·exact h
 ·unfold iP at k
  split at k
  ·rename_i d
   rw[d]at h1;cases h1
  ·rename_i d
   rw[d]at h1;cases h1
  ·cases k
 ·rw [d] at k
  cases k
 ·rw [d] at k
  cases k
 ·unfold iP at k
  split at k
  ·rename_i d
   rw[d]at q;exact q.elim
  ·rename_i d
   rw[d]at q;exact q.elim
  ·cases k
theorem Us{R:ji}{W:iu}{i j:Nat}{B q:Oper}{s:St}{v u:AV}{N d:List ab}(h1:B.apart ops q=true)(h2:q.apart ops B=true)(hc:Cb pf ops R W i B j q)
  (hi:Yields P pf ops B s v N) (si:Step P pf ops R W i B s v N) (O:Yields P pf ops q (s.put B.dst v N) u d) (sj:Step P pf ops R W j q (s.put B.dst v N) u d) :
  ∃ Hj1,Yields P pf ops q s u Hj1∧Step P pf ops R W j q s u Hj1∧Yields P pf ops B (s.put q.dst u Hj1) v d∧Step P pf ops R W i B (s.put q.dst u Hj1) v d:=by
 obtain⟨a1,a2,a3⟩:=Hv h1;have wj:bQ ops (s.put B.dst v N).fr q=bQ ops s.fr q:=xE a1;have wi:∀ H2,bQ ops (s.put q.dst u H2).fr B=bQ ops s.fr B:=fun H2=>xE a3;have ej:∀ x∈q.op.operands,(s.put B.dst v N).eval x=s.eval x:=fun x hx=>eval_put a1 hx;have ei:∀ H2,∀ x∈B.op.operands,(s.put q.dst u H2).eval x=s.eval x:=fun H2 x hx=>eval_put a3 hx;have cj:=Jf q.op ej;have ci:=fun H2=>Jf B.op (ei H2);have evj:=I1 (P:=P) (H:=N) q.op ej;have readJ:cL pf q.op=.read→Step P pf ops R W j q s u s.H:=fun hr=>⟨fun hw=>(by rw[hr]at hw; cases hw),fun _ hw id hid=>sj.2.1 hr (by rw[wj]; exact hw) id (by rw[cj]; exact hid),xL (by rw[hr]; simp),fun _ _ hw=>(by rw[hr]at hw; cases hw)⟩
 have readI:cL pf B.op=.read→∀ H2 H3,Step P pf ops R W i B (s.put q.dst u H2) v H3:=fun hr H2 H3=>⟨fun hw=>(by rw[hr]at hw; cases hw),fun _ hw id hid=>si.2.1 hr (by rw[wi]at hw; exact hw) id (by rw[ci]at hid; exact hid),xL (by rw[hr]; simp),fun _ _ hw=>(by rw[hr]at hw; cases hw)⟩
 have frj:∀{H2 H3:List ab} {v':AV},Yields P pf ops q ⟨(s.put B.dst v N).fr,H2⟩ v' H3→Yields P pf ops q ⟨s.fr,H2⟩ v' H3:=fun {H2 _ _} h=>(fu (s1:=⟨(s.put B.dst v N).fr,H2⟩) (s:=⟨s.fr,H2⟩) wj (fun x hx=>by
  have:=ej x hx;cases x<;>exact this) rfl).1 h
 have fri:∀{H1 H2 H3:List ab} {v':AV},Yields P pf ops B ⟨s.fr,H2⟩ v' H3→Yields P pf ops B ⟨(s.put q.dst u H1).fr,H2⟩ v' H3:=fun {H1 H2 _ _} h=>(fu (s1:=⟨(s.put q.dst u H1).fr,H2⟩) (s:=⟨s.fr,H2⟩) (wi H1) (fun x hx=>by
  have:=ei H1 x hx;cases x<;>exact this) rfl).2 h
 have toJ:N=s.H→Step P pf ops R W j q s u d:=by
  intro e;subst e;exact⟨fun hw A U=>sj.1 hw A U,fun hr hw id hid=>sj.2.1 hr (by rw[wj]; exact hw) id (by rw[cj]; exact hid),fun ha ht hw=>sj.2.2.1 ha ht (by rw[wj]; exact hw),
   fun M hca hw hwa σ hσ=>frj (sj.2.2.2 M hca hw (by rw[wj]; exact hwa) σ hσ)⟩
 have toI:d=N→Step P pf ops R W i B (s.put q.dst u s.H) v d:=by
  intro e;subst e;exact⟨fun hw A U=>si.1 hw A U,fun hr hw id hid=>si.2.1 hr (by rw[wi]at hw; exact hw) id (by rw[ci]at hid; exact hid),fun ha ht hw=>si.2.2.1 ha ht (by rw[wi]at hw; exact hw),
   fun M hca hw hwa σ hσ=>fri (si.2.2.2 M hca hw (by rw[wi]at hwa; exact hwa) σ hσ)⟩
 have old:mF pf B q=true→∃ Hj1,Yields P pf ops q s u Hj1∧Yields P pf ops B (s.put q.dst u Hj1) v d:=fun hc=>I6 h1 h2 hc hi O;cases I:cL pf B.op with
 | pure =>
  obtain⟨V,g1⟩:=t_ I hi;subst V;refine⟨d,(fu wj ej rfl).1 O,toJ rfl,
   (fu (s1:=s.put q.dst u d) (s:=⟨s.fr,d⟩) (wi d) (fun x hx=>by rw[ei d x hx]; cases x<;>rfl) rfl).2 (g1 d),⟨fun hw=>(by rw[I]at hw; cases hw),fun hr=>(by rw[I]at hr; cases hr),xL (by rw[I]; simp),fun _ _ hw=>(by rw[I]at hw; cases hw)⟩⟩
 | read =>
  have V:=pA I hi;subst V;have hj':=(fu wj ej rfl).1 O;refine⟨d,hj',toJ rfl,?_,readI I _ _⟩;have key:∀ H2:List ab,St.eval ⟨s.fr,H2⟩=s.eval:=fun H2=>by funext x; cases x<;>rfl
  have same:bQ ops s.fr B=some true→eL P s.eval d B.op=eL P s.eval s.H B.op:=by
   intro hw;cases J:cL pf q.op with
   | pure =>
    have:=(t_ J hj').1;rw[this]
   | read =>
    have:=pA J hj';rw[this]
   | write =>
    rcases hc with hc|⟨_,_,hap⟩|⟨hw',_,_⟩|⟨hw',_,_⟩|⟨hw',_⟩|⟨hw',_⟩
    ·obtain ⟨Hj1, q1, q2⟩ := old hc
     have q3:=(fu (s1:=s.put q.dst u Hj1) (s:=⟨s.fr,Hj1⟩) (wi Hj1) (fun x hx=>by rw[ei Hj1 x hx]; cases x<;>rfl) rfl).1 q2;have e2:d=Hj1:=pA I q3;subst e2;unfold Yields at q3 hi;simp only[I,hw]at q3 hi;rw[key]at q3;rw[q3.2,hi.2]
    ·exact Je fun id hid=>sj.1 J id (hap id (si.2.1 I hw id hid))
    ·rw [I] at hw'
     cases hw'
    ·rw [mI hw'] at I
     cases I
    ·rw [I] at hw'
     cases hw'
    ·rw [mI hw'] at I
     cases I
  refine(fu (s1:=s.put q.dst u d) (s:=⟨s.fr,d⟩) (wi d) (fun x hx=>by rw[ei d x hx]; cases x<;>rfl) rfl).2 ?_;unfold Yields at hi⊢;simp only[I]at hi⊢;cases hw:bQ ops s.fr B with
  |none=>rw[hw]at hi; exact hi.elim
  | some b =>
   rw[hw]at hi;cases b with
   |false=>exact⟨hi.1,by simp⟩
   | true =>
    refine⟨by simp,?_⟩;rw[key,same hw];exact hi.2
 | write =>
  cases J:cL pf q.op with
  | pure =>
   obtain⟨V,g1⟩:=t_ J O;have e1':d=N:=V;subst e1';refine⟨s.H,?_,⟨fun hw=>(by rw[J]at hw; cases hw),fun hr=>(by rw[J]at hr; cases hr),xL (by rw[J]; simp),fun _ _ hw=>(by rw[J]at hw; cases hw)⟩,(fu (s1:=s.put q.dst u s.H) (s:=s) (wi s.H) (ei s.H) rfl).2 hi,toI rfl⟩;exact(fu (s1:=⟨(s.put B.dst v d).fr,s.H⟩) (s:=s) wj (fun x hx=>by
    have:=ej x hx;cases x<;>exact this) rfl).1 (g1 s.H)
  | read =>
   have e2:=pA J O;have e2':d=N:=e2;subst e2';refine⟨s.H,?_,readJ J,(fu (s1:=s.put q.dst u s.H) (s:=s) (wi s.H) (ei s.H) rfl).2 hi,toI rfl⟩;have same:bQ ops s.fr q=some true→eL P s.eval d q.op=eL P s.eval s.H q.op:=by
    intro hw;rcases hc with hc|⟨hr',_,_⟩|⟨_,_,hap⟩|⟨_,hr',_⟩|⟨_,_,hr',_⟩|⟨_,hr',_⟩
    ·unfold mF at hc
     rw[I,J]at hc;cases hc
    ·rw [I] at hr'
     cases hr'
    ·exact Je fun id hid=>si.1 I id (hap id (sj.2.1 J (by rw[wj]; exact hw) id (by rw[cj]; exact hid)))
    ·rw [mI hr'] at J
     cases J
    ·rw [mI (rr hr')] at J
     cases J
    ·rw [Jg hr'] at J
     cases J
   unfold Yields at O⊢;simp only[J]at O⊢;rw[wj]at O;cases hw:bQ ops s.fr q with
   |none=>rw[hw]at O; exact O.elim
   | some b =>
    rw[hw]at O;cases b with
    |false=>exact⟨O.1,by simp⟩
    | true =>
     refine⟨by simp,?_⟩;rw[←same hw,←evj];exact O.2
  | write =>
   rcases hc with hc|⟨hr',_,_⟩|⟨_,hr',_⟩|⟨hai,haj,htw⟩|⟨_,hvi,haj,hca,hap⟩|⟨hai,hqj,htw,hap⟩
   ·unfold mF at hc
    rw[I,J]at hc;cases hc
   ·rw [I] at hr'
    cases hr'
   ·rw [J] at hr'
    cases hr'
   ·-- two allocations, each in its own place
    have ck:∀{f:Option Bool},f=some true→f=some false→False:=fun h1 h2=>by rw[h1]at h2; cases h2
    rcases Cc hai hi (fun hw=>(si.2.2.1 hai htw hw).1)with⟨wi',rfl,V⟩|⟨wi',idi,yi,xi,ni,z2,V⟩
    ·subst V
     refine⟨d,(fu wj ej rfl).1 O,toJ rfl,?_,⟨fun _ A _=>rfl,fun hr=>(by rw[I]at hr; cases hr),fun _ _ _=>⟨rfl,fun _ h=>(h rfl).elim⟩,fun M=>(by rw[lJ hai]at M; cases M)⟩⟩;unfold Yields;rw[wi,wi'];exact⟨rfl,rfl⟩
    ·rcases Cc haj O (fun hw => (sj.2.2.1 haj htw hw).1) with ⟨wj', rfl, e2⟩ | ⟨wj', y, yj, xj, nj, y2, e2⟩
     ·have e2' : d = N := e2
      subst e2';refine⟨s.H,?_,⟨fun _ A _=>rfl,fun hr=>(by rw[J]at hr; cases hr),fun _ _ _=>⟨rfl,fun _ h=>(h rfl).elim⟩,fun M=>(by rw[lJ haj]at M; cases M)⟩,(fu (s1:=s.put q.dst (.tuple []) s.H) (s:=s) (wi s.H) (ei s.H) rfl).2 hi,toI rfl⟩;unfold Yields;rw[wj]at wj';rw[wj'];exact⟨rfl,rfl⟩
     ·have e2' : d = N.set y xj := e2
      have y2':N[y]? = some yj:=y2;have aw:y≠idi:=by
       intro e;subst e;rw[V,bx (aI z2)]at y2';exact jk.ne ni nj (gx y2')
      have y2s:s.H[y]? = some yj:=by rw[V,aR (Ne.symm aw)]at y2'; exact y2'
      have wjs:bQ ops s.fr q=some true:=by rw[←wj]; exact wj'
      have hjj:∀ A,kept W j A→A≠y:=by
       intro A U e;subst e;have h:=sj.1 J A U;have h':d[A]? = N[A]? := h;rw[e2',bx (aI y2'),y2']at h';exact jk.ne nj nj (gx h')
      have hii:∀ A,kept W i A→A≠idi:=by
       intro A U e;subst e;have h:=si.1 I A U;rw[V,bx (aI z2),z2]at h;exact jk.ne ni ni (gx h)
      have hcomm:d=(s.H.set y xj).set idi xi:=by rw[e2',V,mo _ _ (Ne.symm aw)]
      refine⟨s.H.set y xj,Cd wjs nj y2s,⟨fun _ A U=>aR (Ne.symm (hjj A U)),fun hr=>(by rw[J]at hr; cases hr),fun _ _ _=>⟨by simp,fun id aw=>?_⟩,fun M=>(by rw[lJ haj]at M; cases M)⟩,?_,
       ⟨fun _ A U=>?_,fun hr=>(by rw[I]at hr; cases hr),fun _ _ _=>⟨?_,fun id aw=>?_⟩,fun M=>(by rw[lJ hai]at M; cases M)⟩⟩
      ·have e : id = y := AU fun e => aw (aR (Ne.symm e))
       subst e;refine(sj.2.2.1 haj htw wj').2 id ?_;show d[id]? ≠ N[id]?
       rw[e2',bx (aI y2'),y2'];exact fun e=>jk.ne nj nj (gx e)
      ·rw [hcomm]
       refine Cd (s:=s.put q.dst u (s.H.set y xj)) (by rw[wi]; exact wi') ni ?_;show (s.H.set y _)[idi]? = _
       rw[aR aw];exact z2
      ·show d[A]? = (s.H.set y _)[A]?
       rw[hcomm,aR (Ne.symm (hii A U))]
      ·show d.length = (s.H.set y _).length
       rw[hcomm];simp
      ·have e:id=idi:=AU fun e=>aw (by
        show d[id]? = (s.H.set y _)[id]?
        rw[hcomm,aR (Ne.symm e)])
       subst e;refine(si.2.2.1 hai htw wi').2 id ?_;rw[V,bx (aI z2),z2];exact fun e=>jk.ne ni ni (gx e)
   ·-- a call, and an allocation in a place that it does not touch
    have hih:mH ops=true:=by
     unfold mH;rw[hca];simp
    rcases Ji haj O (fun hw=>(sj.2.2.1 (rr haj) hih hw).1)with⟨wj',rfl,e2⟩|⟨wj',tj,y,zj,kj,mj,oj',y1,y2,y3,rfl,e2⟩
    ·have e2' : d = N := e2
     subst e2';refine⟨s.H,?_,⟨fun _ A _=>rfl,fun hr=>(by rw[J]at hr; cases hr),fun _ _ _=>⟨rfl,fun _ h=>(h rfl).elim⟩,fun M=>(by rw[lJ (rr haj)]at M; cases M)⟩,(fu (s1:=s.put q.dst (.tuple []) s.H) (s:=s) (wi s.H) (ei s.H) rfl).2 hi,toI rfl⟩;unfold Yields;rw[wj]at wj';rw[wj'];exact⟨rfl,rfl⟩
    ·have e2' : d = N.set y (.vec kj 1 [dS mj zj]) := e2
     have y2':N[y]? = some (.vec kj 0 []):=y2;obtain⟨e,he,hej,hid⟩:=(sj.2.2.1 (rr haj) hih wj').2 y (by
      show d[y]? ≠ N[y]?
      rw[e2',bx (aI y2'),y2'];simp)
     have hk:=hap e he hej y hid;have y2s:s.H[y]? = some (.vec kj 0 []):=by rw[←si.1 I y hk]; exact y2'
     have wjs:bQ ops s.fr q=some true:=by rw[←wj]; exact wj'
     have hjj:∀ A,kept W j A→A≠y:=by
      intro A U e;subst e;have h:=sj.1 J A U;have h':d[A]? = N[A]? := h;rw[e2',bx (aI y2'),y2']at h';simp at h'
     have hfill:xM W i s.H [(y,.vec kj 1 [dS mj zj])]:=by
      intro p hp;rw[List.mem_singleton.1 hp];exact⟨hk,kj,_,y2s,rfl⟩
     have hcall:Yields P pf ops B ⟨s.fr,s.H.set y (.vec kj 1 [dS mj zj])⟩ v d∧(bQ ops s.fr B=some true→∀ σ,xM W i (s.H.set y (.vec kj 1 [dS mj zj])) σ→Yields P pf ops B ⟨s.fr,mJ σ (s.H.set y (.vec kj 1 [dS mj zj]))⟩ v (mJ σ d)):=by
      cases hw:bQ ops s.fr B with
      | none =>
       unfold Yields at hi;rw[hw]at hi;exact hi.elim
      | some b =>
       cases b with
       | false =>
        refine⟨?_,fun h=>by cases h⟩;unfold Yields at hi⊢;rw[hw]at hi;rw[show bQ ops (St.mk s.fr (s.H.set y (.vec kj 1 [dS mj zj]))).fr B=some false from hw];refine⟨hi.1,?_⟩;show d=s.H.set y _
        rw[e2',hi.2]
       | true =>
        have h4:=si.2.2.2 hvi hca I hw;refine⟨?_,fun _ σ hσ=>?_⟩
        ·have := h4 _ hfill
         rw[e2'];exact this
        ·have:=h4 ((y,.vec kj 1 [dS mj zj])::σ) (by
          intro p hp;rcases List.mem_cons.1 hp with rfl|hp
          ·exact hfill _ cO
          ·obtain ⟨a2, k, r, a3, a4⟩ := hσ p hp
           refine⟨a2,k,r,?_,a4⟩;have aw:p.1≠y:=fun e=>by
            rw[e,bx (aI y2s)]at a3;simp at a3
           rwa [aR (Ne.symm aw)]at a3)
         rw[e2'];exact this
     refine⟨s.H.set y (.vec kj 1 [dS mj zj]),Jj wjs oj' y1 y2s y3 mj,⟨fun _ A U=>aR (Ne.symm (hjj A U)),fun hr=>(by rw[J]at hr; cases hr),fun _ _ _=>⟨by simp,fun id aw=>?_⟩,fun M=>(by rw[lJ (rr haj)]at M; cases M)⟩,fri (H1:=s.H.set y (.vec kj 1 [dS mj zj])) hcall.1,
      ⟨fun _ A U=>?_,fun hr=>(by rw[I]at hr; cases hr),fun ha=>(by rw[lJ ha]at hvi; cases hvi),fun _ _ _ hwa σ hσ=>fri (H1:=s.H.set y (.vec kj 1 [dS mj zj])) (hcall.2 (by rw[wi]at hwa; exact hwa) σ hσ)⟩⟩
     ·have e : id = y := AU fun e => aw (aR (Ne.symm e))
      subst e;exact⟨_,he,hej,hid⟩
     ·show d[A]? = (s.H.set y _)[A]?
      have h1:N[A]? = s.H[A]? := si.1 I A U;by_cases e:A=y
      ·subst e
       rw[e2',bx (aI y2'),bx (aI y2s)]
      ·rw[e2',aR (Ne.symm e),aR (Ne.symm e),h1]
   ·-- an allocation in its place, and an operation that does not touch it
    rcases Cc hai hi (fun hw=>(si.2.2.1 hai htw hw).1)with⟨wi',rfl,V⟩|⟨wi',idi,yi,xi,ni,z2,V⟩
    ·subst V
     refine⟨d,(fu wj ej rfl).1 O,toJ rfl,?_,⟨fun _ A _=>rfl,fun hr=>(by rw[I]at hr; cases hr),fun _ _ _=>⟨rfl,fun _ h=>(h rfl).elim⟩,fun M=>(by rw[lJ hai]at M; cases M)⟩⟩;unfold Yields;rw[wi,wi'];exact⟨rfl,rfl⟩
    ·have hii:∀ A,kept W i A→A≠idi:=by
      intro A U e;subst e;have h:=si.1 I A U;rw[V,bx (aI z2),z2]at h;exact jk.ne ni ni (gx h)
     obtain⟨e,he,hei,hid⟩:=(si.2.2.1 hai htw wi').2 idi (by
      rw[V,bx (aI z2),z2];exact fun e=>jk.ne ni ni (gx e))
     have hk:kept W j idi:=hap e he hei idi hid;have hHi:N[idi]? = some xi:=by rw[V,bx (aI z2)]
     have hjk:d[idi]? = some xi:=by rw[sj.1 J idi hk]; exact hHi
     have hback:∃ H1,Yields P pf ops q s u H1∧d=H1.set idi xi∧H1[idi]? = some yi:=by
      cases hw:bQ ops s.fr q with
      | none =>
       unfold Yields at O;rw[wj,hw]at O;exact O.elim
      | some b =>
       cases b with
       | false =>
        unfold Yields at O;rw[wj,hw]at O;refine⟨s.H,?_,?_,z2⟩
        ·unfold Yields
         rw[hw];exact⟨O.1,rfl⟩
        ·rw [O.2]
         exact V
       | true =>
        have h1:=Ur hqj O (by rw[wj]; exact hw);have h2:c_ P s.eval (s.H.set idi xi) q.op=some (u,d):=by
         rw[←V];have:=I2 (P:=P) (H:=N) q.op ej;rw[←this];exact h1
        obtain⟨H1,g1,g2,g3⟩:=Uq hqj z2 ni.no h2 hjk;refine⟨H1,?_,g2,g3⟩;unfold Yields;simp only[hw,J];exact .inl (.inl g1)
     obtain⟨H1,q1,q2,q3⟩:=hback;refine⟨H1,q1,⟨fun _ A U=>?_,fun hr=>(by rw[J]at hr; cases hr),fun ha=>(by rw[Ug hqj]at ha; cases ha),fun M=>(by rw[Uh hqj]at M; cases M)⟩,?_,⟨fun _ A U=>?_,fun hr=>(by rw[I]at hr; cases hr),fun _ _ _=>⟨?_,fun id aw=>?_⟩,fun M=>(by rw[lJ hai]at M; cases M)⟩⟩
     ·by_cases hA2 : A = idi
      ·rw[hA2,q3,z2]
      ·have h3 : d[A]? = N[A]? := sj.1 J A U
       rw[q2,aR (Ne.symm hA2),V,aR (Ne.symm hA2)]at h3;exact h3
     ·rw [q2]
      exact Cd (s:=s.put q.dst u H1) (by rw[wi]; exact wi') ni q3
     ·show d[A]? = H1[A]?
      rw[q2,aR (Ne.symm (hii A U))]
     ·show d.length = H1.length
      rw[q2];simp
     ·have e2:id=idi:=AU fun e2=>aw (by
       show d[id]? = H1[id]?
       rw[q2,aR (Ne.symm e2)])
      subst e2;exact⟨e,he,hei,hid⟩
def uc(P:Program)(pf:FuncId→Bool)(ops:Array Oper)(R:ji)(W:iu)(i:Nat)(K:St→Prop)(s:St):Prop :=
 match ops[i]? with
 |none=>K s
 |some o=>∃ v H',Yields P pf ops o s v H'∧Step P pf ops R W i o s v H'∧K (s.put o.dst v H')
def ud(P:Program)(pf:FuncId→Bool)(ops:Array Oper)(R:ji)(W:iu)(s':St):Nat→Array Bool→St→Prop
 |0,listed,s=>kL .any ops listed=[]∧s=s'
 |fuel+1,listed,s=>(kL .any ops listed=[]→s=s')∧∀ i∈kL .any ops listed,uc P pf ops R W i (ud P pf ops R W s' fuel (listed.setIfInBounds i true)) s
theorem Ce{R:ji}{W:iu}{s':St}:∀(fuel:Nat) (listed:Array Bool) (s:St),ud P pf ops R W s' fuel listed s→rh P pf ops s' fuel listed s
 |0,_,_,h=>h
 | fuel+1,listed,s,h=>by
  refine⟨h.1,fun i hi=>?_⟩;have h1:=h.2 i hi;unfold uc at h1;unfold rf;cases ho:ops[i]? with
  |none=>rw[ho]at h1; exact Ce fuel _ _ h1
  | some o =>
   rw[ho]at h1;obtain⟨v,H',g1,_,g2⟩:=h1;exact⟨v,H',g1,Ce fuel _ _ g2⟩
theorem Ut{R:ji}{W:iu}{s':St}{i:Nat}{q:Oper}(hi:ops[i]? = some q):∀(fuel:Nat) (listed:Array Bool) (s:St) (v:AV) (H':List ab),pB ops listed →
  (∀ j y,ops[j]? = some y→j≠i→listed.getD j true=false→waits ops ops.size j i=false→q.apart ops y=true∧y.apart ops q=true∧Cb pf ops R W i q j y) →
  i∈kL .any ops listed→Yields P pf ops q s v H'→Step P pf ops R W i q s v H'→ud P pf ops R W s' fuel (listed.setIfInBounds i true) (s.put q.dst v H')→ud P pf ops R W s' (fuel+1) listed s:=by
 intro fuel
 induction fuel with
 | zero =>
  intro listed s v H' _ _ hr J I H;refine⟨fun h=>(by rw[h]at hr; cases hr),fun j B=>?_⟩;by_cases d:j=i
  ·subst d
   unfold uc;simp only[hi];exact⟨v,H',J,I,H⟩
  ·have := ready_mono B d
   rw[H.1]at this;cases this
 | succ fuel ih =>
  intro listed s v H' U N hr J I H;refine⟨fun h=>(by rw[h]at hr; cases hr),fun j B=>?_⟩;by_cases d:j=i
  ·subst d
   unfold uc;simp only[hi];exact⟨v,H',J,I,H⟩
  ·have h1 := H.2 j (ready_mono B d)
   obtain⟨O,y,V,hall⟩:=mem_ready.1 B;unfold uc at h1⊢;simp only[V]at h1⊢;obtain⟨u,Hj,hyj,hsj,hrest⟩:=h1;have hnw:waits ops ops.size j i=false:=by
    cases hw:waits ops ops.size j i with
    |false=>rfl
    | true =>
     have:=B3 U _ _ _ (B4 B) hw;rw[I8 hr]at this;cases this
   obtain⟨a1,a2,a3⟩:=N j y V d O hnw;obtain⟨M,q1,q2,q3,q4⟩:=Us a1 a2 a3 J I hyj hsj;refine⟨u,M,q1,q2,?_⟩;refine ih (listed.setIfInBounds j true) (s.put y.dst u M) v Hj (xF U B) ?_ (ready_mono hr (Ne.symm d)) q3 q4 ?_
   ·intro k ok hk hki hun hno
    refine N k ok hk hki ?_ hno;by_cases hjk:j=k
    ·subst hjk; exact O
    ·rw[getD_set_ne true hjk]at hun; exact hun
   ·rw [agW _ _ d]
    have:=I7 s q.dst y.dst v u H' Hj M (Hv a1).2.1;rw[←this];exact hrest
def ru(P:Program)(pf:FuncId→Bool)(ops:Array Oper)(R:ji)(W:iu):List Oper→Nat→St→St→Prop
 | [],_,s,s'=>s=s'
 |o::l,j,s,s'=>∃ v H',Yields P pf ops o s v H'∧Step P pf ops R W j o s v H'∧ru P pf ops R W l (j+1) (s.put o.dst v H') s'
def Cf(pf:FuncId→Bool)(x y:Oper):Bool :=
 mF pf x y||((match cL pf x.op,cL pf y.op with
  |.read,.write=>true
  |.write,.read=>true
  |_,_=>false)||((eb x.op&&eb y.op)||((match cL pf x.op with
  |.write=>ka x.op&&isVar y.op
  |_=>false)||(eb x.op&&iP y.op))))
theorem Uu{i j:Nat}{x y:Oper}(hi:ops[i]? = some x)(d:ops[j]? = some y)(h:i<j)(hw:waits ops ops.size j i=false)(k:eb x.op=true)(q:eb y.op=true):B_ ops=true:=by
 unfold B_;refine ia.2 ⟨j,fF.2 (gr.1 d).1,ia.2 ⟨i,fF.2 h,?_⟩⟩;rw[hi,d];simp[k,q,hw]
theorem Uv{i j:Nat}{x y:Oper}(hi:ops[i]? = some x)(d:ops[j]? = some y)(h:i<j)(hw:waits ops ops.size j i=false)(k:eb x.op=true)(q:iP y.op=true):Ca ops=true:=by
 unfold Ca;refine ia.2 ⟨j,fF.2 (gr.1 d).1,ia.2 ⟨i,fF.2 h,?_⟩⟩;rw[hi,d];simp[k,q,hw]
theorem Uw{i j:Nat}{x y:Oper}(hi:ops[i]? = some x)(d:ops[j]? = some y)(h:i<j)(hw:waits ops ops.size j i=false)(k:ka x.op=true)(q:isVar y.op=true):nI ops=true:=by
 unfold nI;refine ia.2 ⟨j,fF.2 (gr.1 d).1,ia.2 ⟨i,fF.2 h,?_⟩⟩;rw[hi,d];simp[k,q,hw]
def ry(pf:FuncId→Bool)(ops:Array Oper):Bool :=
  agV ops &&
  (dP ops.size).all fun j=>(match ops[j]? with
    | some d=>(d.after.toList.all fun e => !Hu .any e||e.on<j) &&
      ((dP j).all fun i => match ops[i]? with
        |some h=>waits ops ops.size j i||(h.apart ops d&&d.apart ops h&&Cf pf h d)
        |none=>true)
    |none=>true)
def rz(ops:Array Oper)(R:ji)(W:iu):Prop:=(∀ i id,(i,id)∈R→∀ e∈W,(i<e.1→waits ops ops.size e.1 i=false→id∉e.2.1∧id<e.2.2)∧(e.1<i→waits ops ops.size i e.1=false→id∉e.2.1∧id<e.2.2)) ∧
 (∀ e∈W,∀ e'∈W,e.1<e'.1→waits ops ops.size e'.1 e.1=false→∀ id∈e'.2.1,id∉e.2.1∧id<e.2.2) ∧
 ∀ e∈W,∀ e'∈W,e.1<e'.1→waits ops ops.size e'.1 e.1=false→∀ id∈e.2.1,id<e'.2.2
theorem Ux{R:ji}{W:iu}(hF:rz ops R W){i j:Nat}{x y:Oper}(hi:ops[i]? = some x)(k:ops[j]? = some y)(h:i<j)(hw:waits ops ops.size j i=false)(d:Cf pf x y=true):Cb pf ops R W i x j y:=by
 unfold Cf at d;simp only[tu]at d;rcases d with d|d|d|d|d
 ·exact .inl d
 ·split at d
  ·rename_i h1 B
   refine .inr (.inl ⟨h1,B,fun id hid e he k=>?_⟩);subst k;exact(hF.1 i id hid e he).1 h hw
  ·rename_i h1 B
   refine .inr (.inr (.inl ⟨h1,B,fun id hid e he k=>?_⟩));subst k;exact(hF.1 j id hid e he).2 h hw
  ·cases d
 ·simp only [ax] at d
  refine .inr (.inr (.inr (.inl ⟨d.1,d.2,?_⟩)));unfold mH;rw[Uu hi k h hw d.1 d.2];rfl
 ·split at d
  ·rename_i h1
   simp only[ax]at d;refine .inr (.inr (.inr (.inr (.inl ⟨h1,d.1,d.2,Uw hi k h hw d.1 d.2,fun e he u id hid e' q v=>?_⟩))));subst u v;exact hF.2.1 e' q e he h hw id hid
  ·cases d
 ·simp only [ax] at d
  refine .inr (.inr (.inr (.inr (.inr ⟨d.1,d.2,?_,fun e he v id hid e' q u=>?_⟩))))
  ·unfold mH
   rw[Uv hi k h hw d.1 d.2];simp
  ·subst v u
   exact⟨fun hm=>(hF.2.1 e he e' q h hw id hm).1 hid,hF.2.2 e he e' q h hw id hid⟩
theorem Jk{R:ji}{W:iu}{s':St}(O:ry pf ops=true)(hF:rz ops R W):∀(l:List Oper) (k:Nat) (listed:Array Bool) (s:St),l=ops.toList.drop k→pB ops listed→listed.size=ops.size →
  (∀ j,j<ops.size→(listed.getD j true=false↔k≤j))→ru P pf ops R W l k s s'→ud P pf ops R W s' l.length listed s
 | [],k,listed,s,y,_,J,hk,h=>by
  simp only[ru]at h;refine⟨?_,h⟩;apply agX.2;intro j d;obtain⟨h0,o,ho,_⟩:=mem_ready.1 d;have u:j<ops.size:=(gr.1 ho).1;have:=(hk j u).1 h0;have hlen:(ops.toList.drop k).length=0:=by rw[←y]; rfl
  simp at hlen;omega
 | o::l,k,listed,s,y,M,J,hk,h=>by
  obtain⟨v,H',hy,hst,hrest⟩:=h;have h0:ops[k]? = some o:=by
   have:(ops.toList.drop k)[0]? = some o:=by rw[←y]; rfl
   simpa using this
  have u:k<ops.size:=(gr.1 h0).1;simp only[ry,ax,dq,fF]at O;obtain⟨_,B⟩:=O;have V:∀ j,j<k→listed.getD j false=true:=by
   intro j d;have U:¬ (listed.getD j true=false):=fun e=>by have:=(hk j (by omega)).1 e; omega
   have:j<listed.size:=by omega
   simp[this]at U⊢;exact U
  have I:k∈kL .any ops listed:=by
   refine mem_ready.2 ⟨(hk k u).2 (aD _),o,h0,fun e he hb=>?_⟩;have:=B k u;rw[h0]at this;simp only[ax,dq]at this;have h1:=this.1 e (by simpa using he);simp only[hb,wQ,qw,decide_eq_true_eq]at h1;exact V e.on h1
  refine Ut h0 l.length listed s v H' M ?_ I hy hst ?_
  ·intro j oj d hjk hun N
   have q:j<ops.size:=(gr.1 d).1;have hkj:k≤j:=(hk j q).1 hun;have:=B j q;rw[d]at this;simp only[ax,dq,fF]at this;have h1:=this.2 k (by omega);rw[h0]at h1;simp only[N,qw,ax]at h1;exact⟨h1.1.1,h1.1.2,Ux hF h0 d (by omega) N h1.2⟩
  ·refine Jk (by simp only [ry, ax, dq, fF]; exact ⟨‹_›, B⟩) hF l (k + 1) _ _ ?_ (xF M I) (by simpa using J) ?_ hrest
   ·rw[←oS,←y]; rfl
   ·intro j q
    by_cases e:k=j
    ·subst e
     have:k<listed.size:=by omega
     simp[this]
    ·rw [getD_set_ne true e, hk j q]
     omega
theorem Uy{R:ji}{W:iu}{id:Nat}{s s':St}{E:Env}{a:Act}{Q:Exit→Act→World→Prop}(hm:P.follows .mixedOrders=true)(v:ry pf ops=true)(hF:rz ops R W)(d:bP s E a)
  (h:ru P pf ops R W ops.toList 0 s s') (y:∀ k w',eV E s' k w'→Q .normal k w'):∀ ro:Option Nat,(Code.region id ops true).wpIn (fz ro) 0 P Q a E.w:=by
 intro ro;have u:bP s { E with w:={ E.w with drawn:=E.w.drawn+1 } } a:=⟨d.H,dw (Env.jd (Ext.drawn E.w _)) _ d.fr,w7 d.heap (Env.jd (Ext.drawn E.w _)) d.defers,d.heap.ext (Ext.drawn E.w _)⟩
 refine wpIn_region_any hm (xD (pf:=pf) _ _ s { E with w:={ E.w with drawn:=E.w.drawn+1 } } a u ?_ (fun k w' B=>y k w' (eV.after (Env.jd (Ext.drawn E.w _)) B)) ro);have:=Ce _ _ _ (Jk (P:=P) (s':=s') v hF ops.toList 0 (nr ops.size false) s (by simp) (by
  intro j q;exfalso;rcases jy j ops.size with h'|h'
  ·simp[h']at q
  ·simp[Hw (xs:=nr ops.size false) (by simpa using h')]at q) (by simp) (by intro j q; simp[q]) h)
 simpa using this
end Go.AL
