/-
 What is proved here: every operation that the logic knows,put together,with calls; what an operation leaves. No program in sight; no condition.
-/
import Derived.Test.YtljobbkidfdbhaaGreatDoorMA
set_option linter.all false
open Array renaming ext'→fc,getElem?_eq_some_iff→gb,toList_append→wH,getElem?_eq_none→Hf,setIfInBounds_comm→aeR,replicate→nk
open Bool renaming and_eq_true→ax,or_eq_true→wK,not_true→Hg,false_or→AP
open Classical renaming byContradiction→aeT
open Decidable renaming byContradiction→AR
open Function renaming comp_def→QX
open Go.Builtin renaming len_→QW
open Go.Call renaming operands→td
open Go.Op renaming operands→eU
open Go.Oper renaming wpIn→oM,semAt_eq→nh,apart_spec→He
open Go.Region renaming wanted→Hb,binds→Hd,noSelect→aeQ,ready→kB
open Go.Result renaming andThen_ok→bX
open Go.Sem renaming run_bind→bV,run_pure→fa
open Go.Value.slice renaming injEq→jQ
open List renaming length_cons→cw,getElem?_append_left→cI,getElem?_set_self→bB,getElem?_set_ne→aQ,all_eq_true→cM,drop_drop→oH,map_map→qh,replicate→bM,mem_cons_self→cW,nodup_cons→l8,set_comm→l9,range→dv,map_congr_left→qm,any_eq_true→iQ,eq_nil_iff_forall_not_mem→aeS,mem_range→eC,set_append_left→Hl
open Nat renaming le_refl→aB,lt_of_lt_of_le→dn,lt_or_ge→jq
open Option renaming map_some→eJ
open Option.some renaming injEq→aV,inj→gg
namespace Go.AL
open Go
variable [Dr]
def lq(x:Operand):Bool:=x matches .const _
def BJ:AV→AV→Option AV
 |.lit (.int k a),.lit (.int _ b)=>some (.lit (.int k (if b>a then b else a)))
 |_,_=>none
def BK:AV→AV→Option AV
 |.lit (.int k a),.lit (.int _ b)=>some (.lit (.int k (if b<a then b else a)))
 |_,_=>none
def qM(f:AV→AV→Option AV):AV→List AV→Option AV
 |x,[]=>some x
 | x,y::l=>match f x y with
  |some z=>qM f z l
  |none=>none
def Sw:List AV→Option AV
 | []=>none
 |x::rest=>qM BJ x rest
def Sx:List AV→Option AV
 | []=>none
 |x::rest=>qM BK x rest
def xy(k:SK)(x:AV):Option AV :=
 match k,x with
 |.str,.lit (.string s)=>some (.int s.size)
 |.slice _ _ _,.lit (.string _)=>none
 | .slice _ _ _,x=>match w7 x with
  |some n=>some (.int n)
  |none=>none
 |_,_=>none
def BL(P:Program)(b:Builtin)(tys:List TypeId)(args:List AV):Option AV :=
 match b with
 | .len=>match tys[0]?,args[0]? with
  |some t,some x=>xy (b9 P t) x
  |_,_=>none
 |.max=>Sw args
 |.min=>Sx args
 | .cap=>match tys,args with
  | t::_,.lit (.slice none 0 0)::_=>match b9 P t with
   |.slice _ _ _=>some (.int 0)
   |_=>none
  |_,_=>none
 |_=>none
def BM(r:Operand→AV)(fn:Fn)(first caps:Array Operand):Option AV :=
 match fn with
 |.func f=>if first.toList.isEmpty then some (.clo f (caps.toList.map r)) else none
 |_=>none
def BN(P:Program)(r:Operand→AV)(c:Call):Option AV :=
 match c.callee with
 |.builtin b=>BL P b c.argTypes.toList (c.args.toList.map r)
 |_=>none
def gL(P:Program)(r:Operand→AV):Op→Option AV
 |.move x | .assign x=>some (r x)
 | .pick c a b=>match r c with
  |.lit (.bool t)=>some (bif t then r a else r b)
  |_=>none
 | .extract t i=>match r t with
  |.tuple vs=>vs[i]?
  |_=>none
 | .field t x f=>match qw P t f with
  |some k=>Bk k (r x)
  |none=>none
 | .fieldAddr t x f=>match qw P t f with
  |some k=>A' k (r x)
  |none=>none
 |.indexAddr t x i=>kI (b9 P t) (r x) (r i)
 |.index t x i=>nz (b9 P t) (r x) (r i)
 |.binOp op t x y _=>gj P op t (lq x||lq y) (r x) (r y)
 |.unOp op _ x=>qE op (r x)
 |.convert s d x=>qF P s d (r x)
 |.build t parts=>Bm P t (parts.toList.map fun p=>(p.1,r p.2))
 |.buildSlice t n parts=>qJ P t n (parts.toList.map fun p=>(p.1,r p.2))
 |.slice t x lo hi mx=>kJ P t (r x) (lo.map r) (hi.map r) (mx.map r)
 |.makeFunc fn first caps=>BM r fn first caps
 | .nilCheck x=>match r x with
  |.ptr id ae k row col=>some (.ptr id ae k row col)
  |.cptr cells=>some (.cptr cells)
  |.clo f caps=>some (.clo f caps)
  |_=>none
 | .makeInterface t _=>match P.underlying t with
  |some (.interface _)=>none
  |some _=>some .ifc
  |none=>none
 |.call c=>BN P r c
 |_=>none
theorem pc{E:Env}{r:Operand→AV}{ρ:Operand→Value}(h:∀ x,rel E (r x) (ρ x)):∀(l:List Operand),af E (l.map r) (l.map ρ)
 | []=>by simp[af]
 |x::l=>by simp only[List.map_cons,af]; exact⟨h x,pc h l⟩
theorem BO{E:Env}{r:Operand→AV}{ρ:Operand→Value}(h:∀ x,rel E (r x) (ρ x))(o:Option Operand):nw E (o.map r) (o.map ρ):=by
 cases o with
 |none=>simp[nw]
 |some x=>simpa[nw]using h x
def fT(E:Env)(v:AV)(u:Value)(w':World):Prop:=Ext E.w w'∧rel { E with w:=w' } v u
theorem fT.same{E:Env}{v:AV}{u:Value}(h:rel E v u):fT E v u E.w:=⟨Ext.refl _,h⟩
theorem jX{P:Program}{s:Sem Value}{w w':World}{u:Value}(h:s.run P w=.ok u w'):(do pure (Next.value (← s)):Sem Next).run P w=.ok (.value u) w':=by
 simp[h]
theorem BP{P:Program}{E:Env}{f:AV→AV→Option AV}{g:Value→Value→Sem Value}
  (B:∀ x y c d z,f x y=some z→rel E x c→rel E y d→∃ u,(g c d).run P E.w=.ok u E.w∧rel E z u) :
  ∀(rest:List AV) (x:AV) (c:Value) (cs:List Value) (v:AV),rel E x c→af E rest cs→qM f x rest=some v →
   ∃ u,(cs.foldlM g c).run P E.w=.ok u E.w∧rel E v u
 | [],x,c,cs,v,q,k,h=>by
  cases cs with
  |nil=>simp[qM]at h; subst h; exact⟨c,rfl,q⟩
  |cons _ _=>simp[af]at k
 | y::rest,x,c,cs,v,q,k,h=>by
  cases cs with
  |nil=>simp[af]at k
  | cons d cs =>
   simp only[af]at k;simp only[qM]at h;split at h
   ·rename_i z I
    obtain⟨u,g1,g2⟩:=B x y c d z I q k.1;obtain⟨J,g3,g4⟩:=BP B rest z u cs v g2 k.2 h;exact⟨J,by simp only[List.foldlM_cons,bV,g1,bX]; exact g3,g4⟩
   ·cases h
theorem Sy{P:Program}{E:Env}(x y:AV)(c d:Value)(z:AV)(h:BJ x y=some z)(g:rel E x c)(k:rel E y d) :
  ∃ u,(Builtin.max2 c d).run P E.w=.ok u E.w∧rel E z u:=by
 unfold BJ at h;split at h
 ·cases h
  simp only[rel]at g k;subst g; subst k;exact⟨_,rfl,by simp[rel]⟩
 ·cases h
theorem Sz{P:Program}{E:Env}(x y:AV)(c d:Value)(z:AV)(h:BK x y=some z)(g:rel E x c)(k:rel E y d) :
  ∃ u,(Builtin.min2 c d).run P E.w=.ok u E.w∧rel E z u:=by
 unfold BK at h;split at h
 ·cases h
  simp only[rel]at g k;subst g; subst k;exact⟨_,rfl,by simp[rel]⟩
 ·cases h
theorem SA{P:Program}{E:Env}{b:Builtin}{tys:Array TypeId}{ty:TypeId}{consts:Array Bool}{args:List AV}{cargs:Array Value}{v:AV}
  (h:BL P b tys.toList args=some v) (d:af E args cargs.toList):∃ u,(builtin b tys ty consts cargs).run P E.w=.ok (.value u) E.w∧rel E v u:=by
 cases b<;>simp only[BL]at h<;>try cases h
 case len =>
  split at h
  case h_2=>cases h
  rename_i t x I O;obtain⟨c,J,g⟩:=mn d O;have q:tys[0]? = some t:=by simpa using I
  have y:cargs[0]? = some c:=by simpa using J
  unfold xy at h;split at h
  ·rename_i s hk
   cases h;simp only[rel]at g;subst g;refine⟨goInt s.size,?_,by simp[rel,goInt]⟩;simp[builtin,QW,q,y,Sem.bq (oS hk)]
  ·cases h
  ·rename_i e sz M hk N
   split at h
   ·rename_i n B
    cases h;obtain⟨hu,_⟩:=gh hk;rcases Rm B g with⟨s,rfl,_⟩|⟨base,cap,rfl⟩
    ·exfalso
     unfold w7 at B;split at B
     ·rename_i s'
      exact N s' rfl
     all_goals first
      |(simp[rel,dS]at g; done)
      |cases B
    ·refine ⟨goInt n, ?_, by simp [rel, goInt]⟩
     simp[builtin,QW,q,y,Sem.bq hu]
   ·cases h
  ·cases h
 case max =>
  cases args with
  |nil=>cases h
  | cons x rest =>
   cases k:cargs.toList with
   |nil=>rw[k]at d; simp[af]at d
   | cons c cs =>
    rw[k]at d;simp only[af]at d;obtain⟨u,g1,g2⟩:=BP (P:=P) Sy rest x c cs v d.1 d.2 h;refine⟨u,?_,g2⟩;simp[builtin,Builtin.max_,k,g1]
 case min =>
  cases args with
  |nil=>cases h
  | cons x rest =>
   cases k:cargs.toList with
   |nil=>rw[k]at d; simp[af]at d
   | cons c cs =>
    rw[k]at d;simp only[af]at d;obtain⟨u,g1,g2⟩:=BP (P:=P) Sz rest x c cs v d.1 d.2 h;refine⟨u,?_,g2⟩;simp[builtin,Builtin.min_,k,g1]
 case cap =>
  split at h
  case h_2=>cases h
  rename_i t U as I;obtain⟨c,J,g⟩:=mn (i:=0) d rfl;have q:tys[0]? = some t:=by
   have:tys.toList[0]? = some t:=by rw[I]; rfl
   simpa using this
  have y:cargs[0]? = some c:=by simpa using J
  simp only[rel]at g;subst g;split at h
  ·rename_i e sz M hk
   cases h;obtain⟨hu,_⟩:=gh hk;refine⟨goInt 0,?_,by simp[rel,goInt]⟩;simp[builtin,Builtin.cap_,q,y,Sem.bq hu]
  ·cases h
theorem SB{P:Program}{E:Env}(HE:aq E){r:Operand→AV}{ρ:Operand→Value}(g:∀ x,rel E (r x) (ρ x)){o:Oper}{v:AV}(h:gL P r o.op=some v) :
  ∃ u w',(execOp ρ o).run P E.w=.ok (.value u) w'∧fT E v u w':=by
 obtain⟨dst,op,type,pos,after,guard⟩:=o;have same:∀{s:Sem Value},(∃ u,s.run P E.w=.ok u E.w∧rel E v u)→∃ u w',(do pure (Next.value (← s)):Sem Next).run P E.w=.ok (.value u) w'∧fT E v u w':=by
  rintro s ⟨u,g1,g2⟩;exact⟨u,E.w,jX g1,fT.same g2⟩
 cases op<;>simp only[gL]at h<;>try cases h
 case move x=>exact⟨ρ x,E.w,rfl,fT.same (g x)⟩
 case assign x=>exact⟨ρ x,E.w,rfl,fT.same (g x)⟩
 case pick c a b =>
  split at h
  ·rename_i t J
   cases h;have B:=g c;rw[J]at B;simp only[rel]at B;refine⟨if t then ρ a else ρ b,E.w,?_,?_⟩
   ·simp[execOp,B,asBool]
   ·cases t
    ·exact fT.same (g b)
    ·exact fT.same (g a)
  ·cases h
 case build t parts =>
  obtain⟨u,g1,g2⟩:=RB (E:=E) (cparts:=parts.toList.map fun p=>(p.1,ρ p.2)) h (by simp) (by
   simp only[qh];have:=pc g (parts.toList.map (·.2));simpa[qh,QX]using this)
  have e:(parts.toList.map fun p=>(p.1,ρ p.2)).toArray=parts.map fun(i,x)=>(i,ρ x):=by
   apply fc; simp
  rw[e]at g1;exact same ⟨u,g1,g2⟩
 case buildSlice t n parts =>
  obtain⟨u,w',g1,g2,g3⟩:=RT HE (cparts:=parts.toList.map fun p=>(p.1,ρ p.2)) h (by simp) (by
   simp only[qh];have:=pc g (parts.toList.map (·.2));simpa[qh,QX]using this)
  have e:(parts.toList.map fun p=>(p.1,ρ p.2)).toArray=parts.map fun(i,x)=>(i,ρ x):=by
   apply fc; simp
  rw[e]at g1;exact⟨u,w',jX g1,g2,g3⟩
 case nilCheck x =>
  have q:=g x;split at h
  ·rename_i id ae k row col he
   cases h;rw[he]at q;have I:=q;simp only[rel]at I;obtain⟨⟨b,o,B⟩,_⟩:=I;exact⟨ρ x,E.w,by simp[execOp,B],fT.same q⟩
  ·rename_i cells he
   cases h;rw[he]at q;have I:=q;simp only[rel]at I;obtain⟨_,b,o,B,_⟩:=I;exact⟨ρ x,E.w,by simp[execOp,B],fT.same q⟩
  ·rename_i f caps he
   cases h;rw[he]at q;have I:=q;simp only[rel]at I;obtain⟨cs,B,_⟩:=I;exact⟨ρ x,E.w,by simp[execOp,B],fT.same q⟩
  ·cases h
 case binOp op t x y _ =>
  refine same (Rw (x:=x) (y:=y) (fun hk=>?_) h (g x) (g y));cases x<;>cases y<;>first|rfl|exact hk
 case unOp op _ x=>exact same (Rx h (g x))
 case convert s d x=>exact same (Ry h (g x))
 case makeInterface t x =>
  split at h
  ·cases h
  ·rename_i d M hu
   cases h;refine same ⟨.iface t (ρ x),?_,by simp only[rel]; exact⟨_,_,rfl⟩⟩;simp only[Instr.makeInterface,bV,Sem.bq hu,bX];cases d<;>first|rfl|(exact(M _ hu).elim)|(exact(M _ rfl).elim)
  ·cases h
 case makeFunc fn first caps =>
  cases fn<;>simp only[BM]at h<;>try cases h
  rename_i f;split at h
  ·rename_i O
   cases h;refine⟨.func (.func f) (first.map ρ) (caps.map ρ),E.w,rfl,fT.same ?_⟩;simp only[rel];refine⟨caps.map ρ,?_,by simpa using pc g caps.toList⟩;have:first=#[]:=by
    apply fc;simpa using O
   simp[this]
  ·cases h
 case slice t x lo hi mx=>exact same (Rs h (g x) (BO g lo) (BO g hi) (BO g mx))
 case fieldAddr t x f =>
  split at h
  ·rename_i k hk; exact same (Ro hk h (g x))
  ·cases h
 case field t x f =>
  split at h
  ·rename_i k hk; exact same (RA hk h (g x))
  ·cases h
 case indexAddr t x i=>exact same (Rp HE h (g x) (g i))
 case index t x i=>exact same (Rz h (g x) (g i))
 case extract t i =>
  split at h
  ·rename_i vs J
   have q:=g t;rw[J]at q;simp only[rel]at q;obtain⟨cs,B,U⟩:=q;obtain⟨u,g1,g2⟩:=mn U h;refine same ⟨u,?_,g2⟩;have N:cs[i]? = some u:=by simpa using g1
   simp[Instr.extract,B,N]
  ·cases h
 case call c =>
  obtain⟨callee,args,argTypes⟩:=c;cases callee<;>simp only[BN]at h<;>try cases h
  rename_i b;obtain⟨u,g1,g2⟩:=SA (P:=P) (E:=E) (b:=b) (tys:=argTypes) (ty:=type) (consts:=args.map fun | .const _=>true|_=>false) (cargs:=args.map ρ) h
   (by simpa using pc g args.toList)
  exact⟨u,E.w,by simp only[execOp,resolve,bV,fa,bX,invoke]; exact g1,fT.same g2⟩
def xz(P:Program)(r:Operand→AV)(H:List ab)(c:Call):Option (AV × List ab) :=
 match c.callee with
 | .builtin .append=>match c.args.toList,c.argTypes.toList with
  | [s,x],[t,xt]=>match oY P t xt (r s) (r x) H with
   |some y=>some y
   |none=>qG P t xt (r s) (r x) H
  |_,_=>none
 | .builtin .clear=>match c.args.toList,c.argTypes.toList with
  | [x],[t]=>match tO P t (r x) H with
   |some H'=>some (.tuple [],H')
   |none=>none
  |_,_=>none
 | .builtin .delete=>match c.args.toList,c.argTypes.toList with
  | [x,k],t::_=>match tN P t (r x) (r k) H with
   |some H'=>some (.tuple [],H')
   |none=>none
  |_,_=>none
 |_=>none
def cT(P:Program)(r:Operand→AV)(H:List ab):Op→Option (AV × List ab)
 |.alloc t=>oV P t H
 |.box _ x=>xm (r x) H
 | .store t a x=>match qI P t (r a) (r x) H with
  |some H'=>some (.undef,H')
  |none=>none
 |.makeSlice t l c=>tJ P t (r l) (r c) H
 |.buildSlice t n parts=>tP P t n (parts.toList.map fun p=>(p.1,r p.2)) H
 |.range t x=>xo P t (r x) H
 |.next it isString=>xp (r it) isString H
 |.makeMap _ none=>some (.map H.length,H++[.map [] 0])
 | .mapUpdate t m k v=>match lp P t (r m) (r k) (r v) H with
  |some H'=>some (.undef,H')
  | none=>match oZ P t (r m) (r k) (r v) H with
   |some H'=>some (.undef,H')
   | none=>match tS P t (r m) (r k) (r v) H with
    |some H'=>some (.undef,H')
    |none=>none
 | .insert t m k v=>match lp P t (r m) (r k) (r v) H with
  |some H'=>some (.undef,H')
  |none=>none
 | .lookup t m k false=>match fG P t (r m) (r k) false H with
  |some v=>some (v,H)
  |none=>tQ P t (r m) (r k) H
 | .mapEntry t m k=>match gY P t (r m) (r k) H with
  |some y=>some y
  |none=>iU P t (r m) (r k) H
 | .entryStore _ m s x=>match jW (r m) (r s) (r x) H with
  |some H'=>some (.undef,H')
  | none=>match kM (r m) (r s) (r x) H with
   |some H'=>some (.undef,H')
   |none=>none
 |.call c=>xz P r H c
 |_=>none
theorem cJ.of_le{E:Env}{w':World}{H':List ab}(h1:aq { w:=w',H:=H',loc:=E.loc,X:=E.X })(d:E.le { w:=w',H:=H',loc:=E.loc,X:=E.X })(u:Value) :
  cJ E .undef H' u w':=⟨E.loc,E.X.r,by simp[rel],h1,d⟩
theorem fT.toOp{E:Env}(HE:aq E){v:AV}{u:Value}{w':World}(h:fT E v u w'):cJ E v E.H u w' :=
 ⟨E.loc,E.X.r,h.2,HE.ext h.1,Env.iS h.1⟩
theorem SC{P:Program}{E:Env}(HE:aq E){r:Operand→AV}{ρ:Operand→Value}(d:∀ x,rel E (r x) (ρ x)){o:Oper}{v:AV}{H':List ab}
  (h:cT P r E.H o.op=some (v,H')) :
  ∃ n u w',(execOp ρ o).run P E.w=.ok n w'∧(n=.value u∨n=.skip∧u=undef)∧cJ E v H' u w':=by
 obtain⟨dst,op,type,pos,after,guard⟩:=o;have same:∀{s:Sem Value},(∃ u w',s.run P E.w=.ok u w'∧cJ E v H' u w') →
   ∃ n u w',(do pure (Next.value (← s)):Sem Next).run P E.w=.ok n w'∧(n=.value u∨n=.skip∧u=undef)∧cJ E v H' u w':=by
  rintro s ⟨u,w',g1,g2⟩;exact⟨_,u,w',jX g1,.inl rfl,g2⟩
 cases op<;>simp only[cT]at h<;>try cases h
 case alloc t=>exact same (RL HE h)
 case box t x=>exact same (RQ HE h (d x))
 case store t a x =>
  split at h
  ·rename_i H1 g
   cases h;obtain⟨w',g1,g2,g3⟩:=H8 HE g (d a) (d x);exact⟨.skip,undef,w',by simp[execOp,g1],.inr ⟨rfl,rfl⟩,cJ.of_le g2 g3 _⟩
  ·cases h
 case makeSlice t l c=>exact same (RS HE h (d l) (d c))
 case buildSlice t n parts =>
  obtain⟨u,w',g1,g2⟩:=R8 HE (cparts:=parts.toList.map fun p=>(p.1,ρ p.2)) h (by simp) (by
   simp only[qh];have:=pc d (parts.toList.map (·.2));simpa[qh,QX]using this)
  have e:(parts.toList.map fun p=>(p.1,ρ p.2)).toArray=parts.map fun(i,x)=>(i,ρ x):=by
   apply fc; simp
  rw[e]at g1;exact same ⟨u,w',g1,g2⟩
 case range t x=>exact same (RV HE h (d x))
 case next it isString=>exact same (RW HE h (d it))
 case makeMap t res =>
  cases res with
  |some _=>cases h
  | none =>
   cases h;exact same ⟨_,_,by simp[Instr.makeMap,newObj]; rfl,RY HE⟩
 case mapUpdate t m k x =>
  split at h
  ·rename_i H1 g
   cases h;obtain⟨w',g1,g2,g3⟩:=Ir HE g (d m) (d k) (d x);exact⟨.skip,undef,w',by simp[execOp,g1],.inr ⟨rfl,rfl⟩,cJ.of_le g2 g3 _⟩
  ·split at h
   ·rename_i H1 g
    cases h;obtain⟨w',g1,g2⟩:=Sd HE g (d m) (d k) (d x);exact⟨.skip,undef,w',by simp[execOp,g1],.inr ⟨rfl,rfl⟩,g2 _⟩
   ·split at h
    ·rename_i H1 g
     cases h;obtain⟨w',g1,g2,g3⟩:=Sr HE g (d m) (d k) (d x);exact⟨.skip,undef,w',by simp[execOp,g1],.inr ⟨rfl,rfl⟩,cJ.of_le g2 g3 _⟩
    ·cases h
 case lookup t m k ok =>
  cases ok with
  |true=>cases h
  | false =>
   simp only[]at h;split at h
   ·rename_i v1 U
    cases h;obtain⟨u,g1,g2⟩:=Il HE U (d m) (d k);exact same ⟨u,_,g1,fT.toOp HE ⟨Ext.refl _,g2⟩⟩
   ·exact same (Sc HE h (d m) (d k))
 case mapEntry t m k =>
  split at h
  ·rename_i y B
   cases h;exact same (Si HE B (d m) (d k))
  ·exact same (Ss HE h (d m) (d k))
 case entryStore t m s x =>
  split at h
  ·rename_i H1 g
   cases h;obtain⟨w',g1,g2⟩:=Sj (P:=P) (t:=t) HE g (d m) (d s) (d x);exact⟨.skip,undef,w',by simp[execOp,g1],.inr ⟨rfl,rfl⟩,g2 _⟩
  ·split at h
   ·rename_i H1 g
    cases h;obtain⟨w',g1,g2⟩:=Sv (P:=P) (t:=t) HE g (d m) (d s) (d x);exact⟨.skip,undef,w',by simp[execOp,g1],.inr ⟨rfl,rfl⟩,g2 _⟩
   ·cases h
 case insert t m k x =>
  split at h
  ·rename_i H1 g
   cases h;obtain⟨w',g1,g2,g3⟩:=Ir HE g (d m) (d k) (d x);exact⟨.skip,undef,w',by simp[execOp,g1],.inr ⟨rfl,rfl⟩,cJ.of_le g2 g3 _⟩
  ·cases h
 case call c =>
  obtain⟨callee,args,argTypes⟩:=c;unfold xz at h;split at h
  ·rename_i q
   simp only[]at q;subst q;simp only[]at h;split at h
   case h_2=>cases h
   rename_i s x t xt J M;have I:args=#[s,x]:=by apply fc; simpa using J
   have N:argTypes=#[t,xt]:=by apply fc; simpa using M
   subst I;subst N;split at h
   ·rename_i y B
    cases h;obtain⟨u,w',g1,g2⟩:=R7 (P:=P) (ty:=type) HE B (d s) (d x);refine⟨.value u,u,w',?_,.inl rfl,g2⟩;simp[execOp,resolve,invoke,builtin,g1]
   ·obtain ⟨u, w', g1, g2⟩ := RH (P := P) (ty := type) HE h (d s) (d x)
    refine⟨.value u,u,w',?_,.inl rfl,g2⟩;simp[execOp,resolve,invoke,builtin,g1]
  ·rename_i q
   simp only[]at q;subst q;simp only[]at h;split at h
   case h_2=>cases h
   rename_i x t J M;have I:args=#[x]:=by apply fc; simpa using J
   have N:argTypes=#[t]:=by apply fc; simpa using M
   subst I;subst N;split at h
   ·rename_i H1 B
    cases h;obtain⟨w',g1,g2,g3⟩:=R5 (P:=P) (ty:=type) (tys:=#[t]) (cs:=#[ρ x]) HE B rfl rfl (d x);refine⟨.value (.tuple #[]),.tuple #[],w',?_,.inl rfl,E.loc,E.X.r,by simp[rel,af],g2,g3⟩;simp[execOp,resolve,invoke,builtin,g1]
   ·cases h
  ·rename_i q
   simp only[]at q;subst q;simp only[]at h;split at h
   case h_2=>cases h
   rename_i x k t V J M;have I:args=#[x,k]:=by apply fc; simpa using J
   subst I;split at h
   ·rename_i H1 B
    cases h;have O:argTypes[0]? = some t:=by
     have:argTypes.toList[0]? = some t:=by rw[M]; rfl
     simpa using this
    obtain⟨w',g1,g2,g3⟩:=R3 (P:=P) (ty:=type) (tys:=argTypes) (cs:=#[ρ x,ρ k]) HE B O rfl rfl (d x) (d k);refine⟨.value (.tuple #[]),.tuple #[],w',?_,.inl rfl,E.loc,E.X.r,by simp[rel,af],g2,g3⟩;simp[execOp,resolve,invoke,builtin,g1]
   ·cases h
  ·cases h
def tT(P:Program)(f:FuncId)(args:List AV)(H:List ab)(Q:AV→List ab→Prop):Prop :=
 ∀(E:Env) (cargs:Array Value),E.H=H→aq E→af E args cargs.toList →
  Calls P f cargs E.w fun e w'=>∃ c v H',e=.returned c∧Q v H'∧cJ E v H' c w'
def eg(P:Program)(f:FuncId)(args:List AV)(v:AV):Prop:=∀ H,tT P f args H fun d H'=>d=v∧H'=H
theorem tT.mono{P:Program}{f:FuncId}{args:List AV}{H:List ab}{Q d:AV→List ab→Prop}(h:tT P f args H Q)(g:∀ v H',Q v H'→d v H'):tT P f args H d :=
 fun E cargs h1 k u=>(h E cargs h1 k u).mono fun _ _ ⟨c,v,H',e,q,r⟩=>⟨c,v,H',e,g v H' q,r⟩
def eX(P:Program)(f:FuncId):Bool :=
 match P.funcs[f]? with
 |some fn => !(fn.name == "runtime.NumGoroutine")&&fn.body.isSome
 |none=>false
theorem BQ{P:Program}{f:FuncId}(h:eX P f=true)(args:Array Value)(w:World):(callFunc f args).run P w=.ok (.enter f args) w:=by
 unfold eX at h;split at h
 ·rename_i fn d
  simp only[ax,Bool.not_eq_true']at h;have h1:fn.name ≠ "runtime.NumGoroutine" := by simpa using h.1
  have g:fn.body≠none:=fun e=>by rw[e]at h; simp at h
  simp[callFunc,d,h1,g]
 ·cases h
def BR(r:Operand→AV)(c:Call):Option (FuncId × List AV) :=
 match c.callee with
 | .value g=>match r g with
  |.clo f caps=>some (f,c.args.toList.map r++caps)
  |_=>none
 |_=>none
def g_(r:Operand→AV):Op→Option (FuncId × List AV)
 |.call c=>BR r c
 |_=>none
theorem IH{P:Program}{E:Env}{r:Operand→AV}{ρ:Operand→Value}(k:∀ x,rel E (r x) (ρ x)){o:Oper}{f:FuncId}{args:List AV}
  (h:g_ r o.op=some (f,args)) (hb:eX P f=true):∃ cargs:Array Value,(execOp ρ o).run P E.w=.ok (.enter f cargs) E.w∧af E args cargs.toList:=by
 obtain⟨dst,op,type,pos,after,guard⟩:=o;cases op<;>simp only[g_]at h<;>try cases h
 rename_i c;obtain⟨callee,as,argTypes⟩:=c;cases callee<;>simp only[BR]at h<;>try cases h
 rename_i g;split at h
 case h_2=>cases h
 rename_i y caps q;cases h;have d:=k g;rw[q]at d;simp only[rel]at d;obtain⟨cs,u,v⟩:=d;refine⟨as.map ρ++cs,?_,?_⟩
 ·simp[execOp,resolve,u,Deferred.ofValue,invoke,BQ hb]
 ·simp only [wH, Array.toList_map]
  exact jV (pc k as.toList) v
end Go.AL

namespace Go.AL
open Go
variable [Dr]
inductive SD where
 |pure|read|write
 deriving DecidableEq
def SE(pf:FuncId→Bool)(c:Call):Bool :=
 match c.argTypes.toList with
 | [t]=>pf (t+1000000)
 |_=>false
def cG(pf:FuncId→Bool):Op→SD
 |.load ..=>.read
 |.lookup t _ _ _=>if pf (t+1500000) then .write else .read
 |.buildSlice t n _=>if pf (t+100000*n+2000000) then .write else .pure
 |.alloc .. | .box .. | .store .. | .makeSlice .. | .mapUpdate .. | .insert .. | .makeMap .. | .mapEntry .. | .entryStore .. | .range .. | .next .. | .entry ..=>.write
 |.go .. | .defer .. | .panic .. | .send .. | .recv .. | .select .. | .makeChan .. | .ready .. | .waits ..=>.write
 | .call c=>match c.callee with
  | .builtin .len=>match SE pf c with
   |true=>.read
   |false=>.pure
  |.builtin .max | .builtin .min | .builtin .cap=>.pure
  |.value (.func f)=>if pf f then .pure else .write
  |_=>.write
 |_=>.pure
def nC(P:Program)(r:Operand→AV)(H:List ab)(c:Call):Option AV :=
 match c.callee,c.args.toList,c.argTypes.toList with
 | .builtin .len,[a],[t]=>match cX P t,r a with
  | some _,.map id=>match H[id]? with
   |some (.map es _)=>some (.int es.length)
   |_=>none
  |_,_=>none
 |_,_,_=>none
theorem SF{P:Program}{E:Env}(HE:aq E){r:Operand→AV}{ρ:Operand→Value}(I:∀ x,rel E (r x) (ρ x)){o:Oper}{c:Call}{v:AV}(ho:o.op=.call c)(h:nC P r E.H c=some v) :
  ∃ u,(execOp ρ o).run P E.w=.ok (.value u) E.w∧rel E v u:=by
 obtain⟨dst,op,type,pos,after,guard⟩:=o;subst ho;obtain⟨callee,args,argTypes⟩:=c;unfold nC at h;split at h
 case h_2=>cases h
 rename_i a t g d k;simp only[]at g d k;subst g;have y:args=#[a]:=by apply fc; simpa using d
 have B:argTypes=#[t]:=by apply fc; simpa using k
 subst y;subst B;split at h
 case h_2=>cases h
 rename_i p id J hid;split at h
 case h_2=>cases h
 rename_i es cl hH;cases h;have q:=I a;rw[hid]at q;obtain⟨b,n,ms,M,h1,N,O⟩:=oW HE hH q;obtain⟨W,et⟩:=p;have U:=(dW.1 O).1;have V:(getObj b).run P E.w=.ok (.map ms cl) E.w:=by simp[getObj,Sem.run,N]
 refine⟨goInt ms.size,?_,by simp[rel,goInt,U]⟩;simp only[execOp,resolve,bV,fa,bX,invoke];simp[builtin,QW,Sem.bq (fg J),M,V]
def eF(P:Program)(r:Operand→AV)(H:List ab):Op→Option AV
 |.load t a=>gU P t (r a) H
 | .lookup t m k ok=>match fG P t (r m) (r k) ok H with
  |some v=>some v
  |none=>jy P t (r m) (r k) ok H
 |.call c=>nC P r H c
 |_=>none
theorem SG{P:Program}{E:Env}(HE:aq E){r:Operand→AV}{ρ:Operand→Value}(d:∀ x,rel E (r x) (ρ x)){o:Oper}{v:AV}(h:eF P r E.H o.op=some v) :
  ∃ u,(execOp ρ o).run P E.w=.ok (.value u) E.w∧rel E v u:=by
 obtain⟨dst,op,type,pos,after,guard⟩:=o;cases op<;>simp only[eF]at h<;>try cases h
 case load t a =>
  obtain⟨u,g1,g2⟩:=HH HE h (d a);exact⟨u,jX g1,g2⟩
 case lookup t m k ok =>
  split at h
  ·rename_i v1 h1
   cases h;obtain⟨u,g1,g2⟩:=Il HE h1 (d m) (d k);exact⟨u,jX g1,g2⟩
  ·obtain ⟨u, g1, g2⟩ := Sp HE h (d m) (d k)
   exact⟨u,jX g1,g2⟩
 case call c=>exact SF HE d rfl h
def dG(P:Program)(f:FuncId)(args:List AV)(H:List ab)(v:AV)(H':List ab):Prop:=tT P f args H fun v1 H1=>v1=v∧H1=H'
def bO(ops:Array Oper)(fr:List AV)(o:Oper):Option Bool :=
 match o.guard with
 |none=>some true
 | some (j,want)=>match (ops[j]?).bind (·.dst) with
  | some t=>match fr[t]? with
   |some (.lit (.bool b))=>some (b==want)
   |some (.tuple [])=>some false
   |_=>none
  |none=>none
def SH(H:List ab)(v v1:AV)(H1:List ab):Prop :=
 ∃(id ae:Nat) (ks:List Kd) (rows:List (List G)),v=.vec ks.length id ae 0 rows.length∧H[id]? = some (.vec ks.length ae (rows.map (aK ks)))∧v1=.listF ks rows∧H1=H.set id .dead
theorem II{E:Env}(HE:aq E){id ae:Nat}{ks:List Kd}{rows:List (List G)} (hid:E.H[id]? = some (.vec ks.length ae (rows.map (aK ks)))) {c:Value} (h:rel E (.vec ks.length id ae 0 rows.length) c) :
  rel { w:=E.w,H:=E.H.set id .dead,loc:=E.loc.set id none,X:=E.X } (.listF ks rows) c:=by
 have hle:=Env.qv HE id;have ho:=HE.obj id _ hid;rw[iR];simp only[rel]at h⊢;obtain⟨⟨base,cap,rfl,y,_⟩,_,q⟩:=h;obtain⟨N,I⟩:=q ⟨_,hid,rfl⟩;have u:eV (rows.map (aK ks)):=by
  intro r h;obtain⟨g,_,rfl⟩:=List.mem_map.1 h;exact fE ks g
 refine⟨u,base,cap,by simp,by simpa using y,?_⟩;simp only[aM]at ho;rcases ho with⟨h1,v⟩|⟨b,mm,h1,v,q,_,J⟩
 ·exact .inl v
 ·obtain ⟨g1, o, g2, g3⟩ := I b mm h1
  by_cases hm:rows=[]
  ·subst hm; exact .inl rfl
  ·right
   have:0<rows.length:=by cases rows with|nil=>exact(hm rfl).elim|cons _ _=>simp
   simp at q;have ho:=g2 (by omega);simp at ho;subst ho;simp only[jQ]at g3;refine⟨b,0,g3.1,⟨(HE.lt id b mm h1).1,?_,(HE.lt id b mm h1).2⟩,kF hle.toC _ u rfl J⟩;rintro(⟨j,M,d⟩|⟨l,k,M,d⟩)
   case inr=>exact HE.cN _ _ _ _ _ _ h1 d
   simp only[List.getElem?_set]at d;split at d
   ·split at d<;>cases d
   ·rename_i B
    exact B (HE.inj _ _ _ _ _ h1 d)
def qN(P:Program)(r:Operand→AV)(H:List ab)(v:AV)(H':List ab):Op→Prop
 |.store t a x=>∃ v1 H1,SH H (r x) v1 H1∧qI P t (r a) v1 H1=some H'∧v=.undef
 |_=>False
theorem SI{P:Program}{r r':Operand→AV}{H:List ab}{v:AV}{H':List ab}(o:Op)(h:∀ x∈o.operands,r x=r' x):qN P r H v H' o=qN P r' H v H' o:=by
 cases o<;>try rfl
 rename_i t a x;simp only[qN];rw[h a (by simp[eU]),h x (by simp[eU])]
theorem SJ{P:Program}{E:Env}(HE:aq E){r:Operand→AV}{ρ:Operand→Value}(d:∀ x,rel E (r x) (ρ x)){o:Oper}{v:AV}{H':List ab}(h:qN P r E.H v H' o.op) :
  ∃ w',(execOp ρ o).run P E.w=.ok .skip w'∧cJ E v H' undef w':=by
 obtain⟨dst,op,type,pos,after,guard⟩:=o;cases op<;>try exact h.elim
 rename_i t a x;obtain⟨v1,H1,⟨id,ae,ks,rows,h1,g,rfl,rfl⟩,q,rfl⟩:=h;have k:=d x;rw[h1]at k;have hle:=Env.qv HE id;obtain⟨w',g1,g2,g3⟩:=H8 (E:={ w:=E.w,H:=E.H.set id .dead,loc:=E.loc.set id none,X:=E.X }) (aq.drop HE id fun o ho=>by rw[g]at ho; cases ho; rfl) q (bP hle _ (d a)) (II HE g k);have g1:(Instr.storeAt t (ρ a) (ρ x)).run P E.w=.ok () w':=g1;exact⟨w',by simp[execOp,g1],E.loc.set id none,E.X.r,by simp[rel],g2,hle.trans g3⟩
def Yields(P:Program)(pf:FuncId→Bool)(ops:Array Oper)(o:Oper)(s:St)(v:AV)(H':List ab):Prop :=
 match bO ops s.fr o with
 |none=>False
 |some false=>v=.tuple []∧H'=s.H
 | some true=>match cG pf o.op with
  |.pure=>H'=s.H∧(gL P s.eval o.op=some v∨∃ f args,g_ s.eval o.op=some (f,args)∧eX P f=true∧eg P f args v)
  |.read=>H'=s.H∧eF P s.eval s.H o.op=some v
  |.write=>(cT P s.eval s.H o.op=some (v,H')∨∃ f args,g_ s.eval o.op=some (f,args)∧eX P f=true∧dG P f args s.H v H')∨(((∃ t id m,o.op=.alloc t∧nA P t id m s.H=some (v,H'))∨∃ t id,o.op=.makeMap t none∧oX id s.H=some (v,H'))∨qN P s.eval s.H v H' o.op)
def iV(fr:List AV)(dst:Option Tmp)(v:AV):List AV :=
 match dst with
 |some d=>fr.set d v
 |none=>fr
def St.put(s:St)(dst:Option Tmp)(v:AV)(H':List ab):St:=⟨iV s.fr dst v,H'⟩
theorem xA{E:Env}:∀{as:List AV} {vs:List Value} {a:AV} {v:Value} (d:Nat),af E as vs→rel E a v→af E (as.set d a) (vs.set d v)
 | [],[],_,_,_,_,_=>by simp[af]
 | [],_::_,_,_,_,h,_=>by simp[af]at h
 |_::_,[],_,_,_,h,_=>by simp[af]at h
 |_::as,_::vs,a,v,0,h,g=>by simp only[af]at h; simp only[List.set_cons_zero,af]; exact⟨g,h.2⟩
 |_::as,_::vs,a,v,d+1,h,g=>by simp only[af]at h; simp only[List.set_cons_succ,af]; exact⟨h.1,xA d h.2 g⟩
theorem IJ{E E':Env}{s:St}{a:Act}(h:af E s.fr a.tmps.toList)(hle:E.le E')(dst:Option Tmp){v:AV}{u:Value}(g:rel E' v u) :
  af E' (iV s.fr dst v) (a.put dst u).tmps.toList:=by
 have h':=dw hle _ h;cases dst with
 |none=>exact h'
 | some d =>
  simp only[iV,Act.put,Array.toList_setIfInBounds];exact xA d h' g
def fz(r:Option Nat):Fence:={ Fence.wide with round:=r }
theorem IK{r:Option Nat}{n:Nat}{P:Program}{f:FuncId}{args:Array Value}{w:World}{R:Ending→World→Prop}(h:Calls P f args w R):CallsIn (fz r) n P f args w R:=(callsIn_wide (n:=n)).2 h
theorem put_defers(a:Act)(dst:Option Tmp)(v:Value):(a.put dst v).defers=a.defers:=by cases dst<;>rfl
theorem IL{ops:Array Oper}{s:St}{E:Env}{a:Act}(h:bN s E a){o:Oper}{b:Bool}(hw:bO ops s.fr o=some b) :
  Hb o (yielded ops a.tmps)=b:=by
 unfold bO at hw;unfold Hb;cases g:o.guard with
 |none=>rw[g]at hw; simpa using hw
 | some q =>
  obtain⟨j,want⟩:=q;rw[g]at hw;simp only[]at hw⊢;split at hw
  case h_2=>cases hw
  rename_i t k;split at hw
  ·rename_i v hb
   cases hw;obtain⟨u,g1,g2⟩:=mn h.fr hb;simp only[rel]at g2;subst g2;have d:a.tmps[t]? = some (.bool v):=by simpa using g1
   simp[yielded,k,d]
  ·rename_i hb
   cases hw;obtain⟨u,g1,g2⟩:=mn h.fr hb;simp only[rel]at g2;obtain⟨cs,rfl,_⟩:=g2;have d:a.tmps[t]? = some (.tuple cs):=by simpa using g1
   simp[yielded,k,d]
  ·cases hw
def eO(E:Env)(s':St)(g:Act)(w':World):Prop :=
 ∃ d r',bN s' { w:=w',H:=s'.H,loc:=d,X:=E.X.re r' } g∧E.le { w:=w',H:=s'.H,loc:=d,X:=E.X.re r' }
theorem BS{P:Program}{pf:FuncId→Bool}{ops:Array Oper}{s:St}{E:Env}{a:Act}(g:bN s E a){i:Nat}{o:Oper}(hi:ops[i]? = some o){v:AV}{H':List ab}
  (d:Yields P pf ops o s v H') {K:Act→World→Prop} {Q:Exit→Act→World→Prop} (O:∀ M w',eO E (s.put o.dst v H') M w'→K M w') (ro:Option Nat):wpOpIn (fz ro) 0 P ops Q i K a E.w:=by
 have y:=g.eval;have hH:=g.H;have fin:∀{u:Value} {w':World},cJ E v H' u w'→K (a.put o.dst u) w':=by
  rintro u w' ⟨N,r',h1,B,q⟩;exact O _ _ ⟨N,r',⟨rfl,IJ g.fr q o.dst h1,by rw[put_defers]; exact w6 g.heap q g.defers,B⟩,q⟩
 have pure':H'=s.H→∀{u:Value} {w':World},fT E v u w'→cJ E v H' u w':=by
  intro e u w' I;have:=I.toOp g.heap;rw[hH,←e]at this;exact this
 have J:(fz ro).depth.isSome=true→1≤0:=fun h=>by cases h
 unfold wpOpIn;simp only[hi];unfold Yields at d;split at d
 ·cases d
 ·rename_i hw
  rw[IL g hw];simp only[Bool.false_eq_true,if_false];obtain⟨rfl,e⟩:=d;refine⟨fun _ _=>trivial,fin ?_⟩;rw[e,←hH];exact⟨E.loc,E.X.r,by simp only[rel]; exact⟨#[],rfl,by simp[af]⟩,g.heap,Env.le.refl E⟩
 ·rename_i hw
  rw[IL g hw];simp only[if_true];split at d
  ·obtain ⟨e, d⟩ := d
   rcases d with d|⟨f,args,h1,B,q⟩
   ·have k : ∀ c, o.op ≠ .defer c := fun c e => by rw [e] at d; cases d
    obtain⟨u,w',g1,g2⟩:=SB g.heap y d;unfold oM;rw[nh _ _ _ k,g1];exact⟨fun _ _=>trivial,fin (pure' e g2)⟩
   ·have k : ∀ c, o.op ≠ .defer c := fun c e => by rw [e] at h1; cases h1
    obtain⟨cargs,g1,g2⟩:=IH y h1 B;unfold oM;rw[nh _ _ _ k,g1];refine⟨fun _ _=>trivial,J,IK ((q s.H E cargs hH g.heap g2).mono ?_)⟩;rintro _ w' ⟨c,U,H1,rfl,⟨rfl,rfl⟩,I⟩;exact fin (by rw[e]; exact I)
  ·obtain ⟨e, d⟩ := d
   rw[←hH]at d;have k:∀ c,o.op≠.defer c:=fun c e=>by rw[e]at d; cases d
   obtain⟨u,g1,g2⟩:=SG g.heap y d;unfold oM;rw[nh _ _ _ k,g1];exact⟨fun _ _=>trivial,fin (pure' e (fT.same g2))⟩
  ·rcases d with (d | ⟨f, args, h1, B, q⟩) | (⟨t, id, m, ho, d⟩ | ⟨t, id, ho, d⟩) | d
   ·have k : ∀ c, o.op ≠ .defer c := fun c e => by rw [e] at d; cases d
    rw[←hH]at d;obtain⟨n,u,w',g1,g2,g3⟩:=SC g.heap y d;unfold oM;rw[nh _ _ _ k,g1];rcases g2 with rfl|⟨rfl,rfl⟩
    ·exact⟨fun _ _=>trivial,fin g3⟩
    ·exact⟨fun _ _=>trivial,fin g3⟩
   ·have k : ∀ c, o.op ≠ .defer c := fun c e => by rw [e] at h1; cases h1
    obtain⟨cargs,g1,g2⟩:=IH y h1 B;unfold oM;rw[nh _ _ _ k,g1];refine⟨fun _ _=>trivial,J,IK ((q E cargs hH g.heap g2).mono ?_)⟩;rintro _ w' ⟨c,U,H1,rfl,⟨rfl,rfl⟩,I⟩;exact fin I
   ·rw [← hH] at d
    obtain⟨u,w',g1,g2⟩:=RP g.heap d;unfold oM;obtain⟨dst,op,type,pos,after,guard⟩:=o;simp only[]at ho;subst ho;have g3:(execOp a.eval ⟨dst,.alloc t,type,pos,after,guard⟩).run P E.w=.ok (.value u) w':=jX g1;rw[nh _ _ _ (fun c e=>by cases e),g3];exact⟨fun _ _=>trivial,fin g2⟩
   ·rw [← hH] at d
    obtain⟨u,w',g1,g2⟩:=R0 (P:=P) (t:=t) g.heap d;unfold oM;obtain⟨dst,op,type,pos,after,guard⟩:=o;simp only[]at ho;subst ho;have g3:(execOp a.eval ⟨dst,.makeMap t none,type,pos,after,guard⟩).run P E.w=.ok (.value u) w':=jX g1;rw[nh _ _ _ (fun c e=>by cases e),g3];exact⟨fun _ _=>trivial,fin g2⟩
   ·have k : ∀ c, o.op ≠ .defer c := fun c e => by rw [e] at d; exact d
    rw[←hH]at d;obtain⟨w',g1,g2⟩:=SJ g.heap y d;unfold oM;rw[nh _ _ _ k,g1];exact⟨fun _ _=>trivial,fin g2⟩
def fI(P:Program)(pf:FuncId→Bool)(ops:Array Oper):List Oper→St→St→Prop
 | [],s,s'=>s'=s
 |o::rest,s,s'=>∃ v H',Yields P pf ops o s v H'∧fI P pf ops rest (s.put o.dst v H') s'
theorem eO.after{E E':Env}{s':St}{d:Act}{w':World}(h:E.le E')(h':eO E' s' d w'):eO E s' d w':=by
 obtain⟨g,r',k,q⟩:=h';refine⟨g,r',?_,?_⟩
 ·rw[←XS.Hw h.X]; exact k
 ·rw[←XS.Hw h.X]; exact h.trans q
theorem eO.refl{s:St}{E:Env}{a:Act}(h:bN s E a):eO E s a E.w:=by
 obtain⟨w,H,loc,X⟩:=E;have:=h.H;simp only at this;subst this;exact⟨loc,X.r,h,Env.le.refl _⟩
theorem xB{P:Program}{pf:FuncId→Bool}{ops:Array Oper}{Q:Exit→Act→World→Prop}:∀(l:List Oper) (k:Nat) (s s':St) (E:Env) (a:Act),
  l=ops.toList.drop k→fI P pf ops l s s'→bN s E a→(∀ d w',eO E s' d w'→Q .normal d w')→∀ ro:Option Nat,wpOpsIn (fz ro) 0 P ops Q (List.range' k l.length) a E.w
 | [],k,s,s',E,a,_,h,g,q,ro=>by
  simp only[fI]at h;subst h;exact q _ _ (eO.refl g)
 | o::l,k,s,s',E,a,u,h,g,q,ro=>by
  obtain⟨v,H',J,y⟩:=h;simp only[cw,List.range'_succ];rw[wpOpsIn_cons];have hk:ops[k]? = some o:=by
   have:(ops.toList.drop k)[0]? = some o:=by rw[←u]; rfl
   simpa using this
  refine BS g hk J (fun d w' M=>?_) ro;obtain⟨B,r',h1,N⟩:=M;refine xB l (k+1) _ s' { w:=w',H:=H',loc:=B,X:=E.X.re r' } d ?_ y h1 (fun a2 O I=>q a2 O ?_) ro
  ·rw[←oH,←u]; rfl
  ·exact eO.after N I
/-! ### d in any order -/
def waits(ops:Array Oper):Nat→Nat→Nat→Bool
 |0,_,_=>false
 | n+1,j,i=>match ops[j]? with
  |some o=>o.after.toList.any fun e=>Hd .any e&&(e.on==i||waits ops n e.on i)
  |none=>false
def dX:Op→Bool
 |.alloc _=>true
 |.makeMap _ none=>true
 |_=>false
def mw(pf:FuncId→Bool)(x y:Oper):Bool :=
 match cG pf x.op,cG pf y.op with
 |.pure,_|_,.pure | .read,.read=>true
 |.read,.write=>dX y.op
 |_,_=>false
def qO(pf:FuncId→Bool)(ops:Array Oper):Bool :=
  aeQ ops &&
  (dv ops.size).all fun j=>(match ops[j]? with
    | some d=>(d.after.toList.all fun e => !Hd .any e||e.on<j) &&
      ((dv j).all fun i => match ops[i]? with
        |some g=>waits ops ops.size j i||(g.apart ops d&&d.apart ops g&&mw pf g d)
        |none=>true)
    |none=>true)
def qP(P:Program)(pf:FuncId→Bool)(ops:Array Oper)(i:Nat)(K:St→Prop)(s:St):Prop :=
 match ops[i]? with
 |none=>K s
 |some o=>∃ v H',Yields P pf ops o s v H'∧K (s.put o.dst v H')
def qQ(P:Program)(pf:FuncId→Bool)(ops:Array Oper)(s':St):Nat→Array Bool→St→Prop
 |0,listed,s=>kB .any ops listed=[]∧s=s'
 |fuel+1,listed,s=>(kB .any ops listed=[]→s=s')∧∀ i∈kB .any ops listed,qP P pf ops i (qQ P pf ops s' fuel (listed.setIfInBounds i true)) s
theorem xC{P:Program}{pf:FuncId→Bool}{ops:Array Oper}{s':St}{Q:Exit→Act→World→Prop}:∀(fuel:Nat) (listed:Array Bool) (s:St) (E:Env) (a:Act),
  bN s E a→qQ P pf ops s' fuel listed s→(∀ k w',eO E s' k w'→Q .normal k w')→∀ ro:Option Nat,wpAnyIn (fz ro) 0 P .any ops Q fuel listed a E.w
 |0,_,s,E,a,d,h,g,_=>⟨h.1,g _ _ (h.2▸eO.refl d)⟩
 | fuel+1,listed,s,E,a,d,h,g,ro=>by
  refine⟨fun h0=>g _ _ (h.1 h0▸eO.refl d),fun i hi=>?_⟩;have h1:=h.2 i hi;unfold qP at h1;cases ho:ops[i]? with
  | none =>
   rw[ho]at h1;unfold wpOpIn;simp only[ho];exact xC fuel _ s E a d h1 g ro
  | some o =>
   rw[ho]at h1;obtain⟨v,H',y,B⟩:=h1;refine BS d ho y (fun k w' I=>?_) ro;obtain⟨q,r',g1,g2⟩:=I;exact xC fuel _ _ { w:=w',H:=H',loc:=q,X:=E.X.re r' } k g1 B (fun a2 J u=>g a2 J (eO.after g2 u)) ro
theorem SL{ops:Array Oper}{o:Oper}{t:Tmp}(h:Operand.tmp t∈o.op.operands):t∈o.looksAt ops :=
 List.mem_append_left _ (List.mem_filterMap.2 ⟨.tmp t,by simpa using h,rfl⟩)
theorem SM{fr:List AV}{d t:Nat}{v:AV}(h:d≠t):(fr.set d v).getD t .undef=fr.getD t .undef:=by
 simp[List.getD_eq_getElem?_getD,aQ h]
theorem eval_put{ops:Array Oper}{s:St}{o:Oper}{dst:Option Tmp}{v:AV}{H':List ab}(h:∀ d,dst=some d→d∉o.looksAt ops){x:Operand}(k:x∈o.op.operands) :
  (s.put dst v H').eval x=s.eval x:=by
 cases dst with
 |none=>cases x<;>rfl
 | some d =>
  cases x with
  | tmp t =>
   have g:d≠t:=fun e=>h d rfl (e▸SL k);simp only[St.eval,St.put,iV];exact SM g
  |_=>rfl
theorem xD{ops:Array Oper}{fr:List AV}{o:Oper}{dst:Option Tmp}{v:AV}(h:∀ d,dst=some d→d∉o.looksAt ops) :
  bO ops (iV fr dst v) o=bO ops fr o:=by
 cases dst with
 |none=>rfl
 | some d =>
  unfold bO;cases q:o.guard with
  |none=>rfl
  | some u =>
   obtain⟨g,want⟩:=u;simp only[];cases y:(ops[g]?).bind (·.dst)with
   |none=>rfl
   | some t =>
    have k:d≠t:=fun e=>h d rfl (by subst e; simp[Oper.looksAt,q,y]);simp only[iV,aQ k]
theorem SN(fr:List AV){x y:Option Tmp}(v u:AV)(h:∀ d,x=some d→y≠some d):iV (iV fr x v) y u=iV (iV fr y u) x v:=by
 cases x with
 |none=>rfl
 | some d =>
  cases y with
  |none=>rfl
  | some e =>
   have g:d≠e:=fun he=>h d rfl (he▸rfl);simp only[iV];rw[l9 _ _ g]
theorem IM{P:Program}{r r':Operand→AV}(o:Op)(h:∀ x∈o.operands,r x=r' x):gL P r o=gL P r' o:=by
 cases o<;>simp only[gL]<;>simp only[eU]at h
 case build t ps =>
  have:(ps.toList.map fun p=>(p.1,r p.2))=ps.toList.map fun p=>(p.1,r' p.2):=qm fun p d=>by
   rw[h p.2 (by simp; exact⟨p.1,by simpa using d⟩)]
  rw[this]
 case buildSlice t n ps =>
  have:(ps.toList.map fun p=>(p.1,r p.2))=ps.toList.map fun p=>(p.1,r' p.2):=qm fun p d=>by
   rw[h p.2 (by simp; exact⟨p.1,by simpa using d⟩)]
  rw[this]
 case makeFunc fn first captured =>
  unfold BM;cases fn<;>try rfl
  have:(captured.toList.map r)=captured.toList.map r':=qm fun x g=>h x (by simp; right; simpa using g);simp only[this]
 case call c =>
  obtain⟨callee,args,argTypes⟩:=c;unfold BN;cases callee<;>try rfl
  have:(args.toList.map r)=args.toList.map r':=qm fun x g=>h x (by simp[td]; simpa using g);simp only[this]
 case slice t x lo hi mx=>cases lo<;>cases hi<;>cases mx<;>simp_all
 all_goals (first|rfl|(simp_all; done))
theorem IN{P:Program}{r r':Operand→AV}{H:List ab}(o:Op)(h:∀ x∈o.operands,r x=r' x):eF P r H o=eF P r' H o:=by
 cases o<;>simp only[eF]<;>simp only[eU]at h
 case call c =>
  obtain⟨callee,args,argTypes⟩:=c;unfold nC;cases callee<;>try rfl
  split
  ·rename_i a t d ha g
   have hm:a∈args:=by
    have:a∈args.toList:=by rw[show args.toList=[a] from ha]; simp
    simpa using this
   have:r a=r' a:=h a (by simp[td]; simpa using hm);simp only[this,d,ha,g]
  ·rfl
 all_goals (first|rfl|(simp_all; done))
theorem IP{P:Program}{r r':Operand→AV}{H:List ab}(o:Op)(h:∀ x∈o.operands,r x=r' x):cT P r H o=cT P r' H o:=by
  cases o<;>simp only[cT]<;>simp only[eU]at h
  case buildSlice t n ps =>
    have:(ps.toList.map fun p=>(p.1,r p.2))=ps.toList.map fun p=>(p.1,r' p.2):=qm fun p q=>by
      rw[h p.2 (by simp; exact⟨p.1,by simpa using q⟩)]
    rw[this]
  case call c =>
    obtain⟨callee,args,argTypes⟩:=c;unfold xz;cases callee<;>try rfl
    rename_i b;have d:∀ x,x∈args.toList→r x=r' x:=fun x u=>h x (by simp[td]; simpa using u);cases b<;>try rfl
    all_goals simp only[]
    all_goals split
    all_goals first
      |rfl
      | (rename_i s x t xt ha g
         rw[d s (by rw[ha]; simp),d x (by rw[ha]; simp)])
      | (rename_i x t ha g
         rw[d x (by rw[ha]; simp)])
      | (rename_i x k t v ha g
         rw[d x (by rw[ha]; simp),d k (by rw[ha]; simp)])
  case makeMap t res=>cases res<;>rfl
  case lookup t m k ok =>
    cases ok with
    |true=>rfl
    |false=>simp only[h m (by simp),h k (by simp)]
  case mapEntry t m k=>simp only[h m (by simp),h k (by simp)]
  case entryStore t m s x=>simp only[h m (by simp),h s (by simp),h x (by simp)]
  all_goals (first|rfl|(simp_all; done))
theorem IQ{r r':Operand→AV}(o:Op)(h:∀ x∈o.operands,r x=r' x):g_ r o=g_ r' o:=by
 cases o<;>simp only[g_]<;>simp only[eU]at h
 rename_i c;obtain⟨callee,args,argTypes⟩:=c;unfold BR;cases callee<;>try rfl
 rename_i g;have d:r g=r' g:=h g (by simp[td]);have k:(args.toList.map r)=args.toList.map r':=qm fun x q=>h x (by simp[td]; right; simpa using q);simp only[d,k]
end Go.AL

namespace Go.AL
open Go
variable [Dr]
variable {P:Program} {pf:FuncId→Bool} {ops:Array Oper}
theorem fh{o:Oper}{s s1:St}{v:AV}{H':List ab}(hw:bO ops s1.fr o=bO ops s.fr o)(d:∀ x∈o.op.operands,s1.eval x=s.eval x)(hH:s1.H=s.H) :
  Yields P pf ops o s1 v H'↔Yields P pf ops o s v H':=by
 unfold Yields;rw[hw,hH,IM o.op d,IN o.op d,IP o.op d,IQ o.op d,SI o.op d]
theorem tU{o:Oper}{s:St}{v:AV}{H':List ab}(d:cG pf o.op=.pure)(h:Yields P pf ops o s v H'):H'=s.H∧∀ H2,Yields P pf ops o ⟨s.fr,H2⟩ v H2:=by
 have key:∀ H2:List ab,∀ x∈o.op.operands,St.eval ⟨s.fr,H2⟩ x=s.eval x:=fun H2 x _=>by cases x<;>rfl
 unfold Yields at h;cases hw:bO ops s.fr o with
 |none=>rw[hw]at h; exact h.elim
 | some b =>
  rw[hw]at h;cases b with
  | false =>
   refine⟨h.2,fun H2=>?_⟩;unfold Yields;rw[show bO ops (St.mk s.fr H2).fr o=some false from hw];exact⟨h.1,rfl⟩
  | true =>
   simp only[d]at h;refine⟨h.1,fun H2=>?_⟩;unfold Yields;rw[show bO ops (St.mk s.fr H2).fr o=some true from hw];simp only[d];refine⟨trivial,?_⟩;rw[IM o.op (key H2),IQ o.op (key H2)];exact h.2
theorem pd{o:Oper}{s:St}{v:AV}{H':List ab}(d:cG pf o.op=.read)(h:Yields P pf ops o s v H'):H'=s.H:=by
 unfold Yields at h;simp only[d]at h;split at h
 ·cases h
 ·exact h.2
 ·exact h.1
theorem SO{r:Operand→AV}{H:List ab}{x:ab}{v:AV}:∀{op:Op},eF P r H op=some v→eF P r (H++[x]) op=some v:=by
 have get:∀{i:Nat} {y:ab},H[i]? = some y→(H++[x])[i]? = some y:=by
  intro i y h;rw[cI (List.getElem?_eq_some_iff.1 h).1];exact h
 intro op h;cases op<;>simp only[eF]at h⊢<;>try cases h
 case load t a =>
  unfold gU at h⊢;split at h
  ·rename_i n agg u
   split at h
   ·exact h
   ·rename_i id ae w row col ha
    cases hi:H[id]? with
    |none=>rw[hi]at h; cases h
    |some y=>rw[hi]at h; rw[get hi]; exact h
   ·cases h
  ·cases h
 case lookup t m k ok =>
  split at h
  ·rename_i v1 h1
   cases h;have d:fG P t (r m) (r k) ok (H++[x])=some v:=by
    unfold fG at h1⊢;split at h1
    ·rename_i B I id hm q
     cases hi:H[id]? with
     |none=>rw[hi]at h1; cases h1
     |some y=>rw[hi]at h1; rw[get hi]; exact h1
    ·cases h1
   rw[d]
  ·obtain ⟨d, g⟩ := ID (H2 := H ++ [x]) (fun i l es ms cl hi => get hi) h
   rw[g,d]
 case call c =>
  unfold nC at h⊢;split at h
  ·split at h
   ·rename_i id _ _
    cases hi:H[id]? with
    |none=>rw[hi]at h; cases h
    |some y=>rw[hi]at h; rw[get hi]; exact h
   ·cases h
  ·cases h
theorem SP{r:Operand→AV}{H:List ab}{id:Nat}{x y:ab}{v:AV}(hid:H[id]? = some y)(d:(∃ k,y=.vec k 0 [])∨y=.dK):∀{op:Op},eF P r H op=some v→eF P r (H.set id x) op=some v:=by
 have get:∀{i:Nat},i≠id→(H.set id x)[i]? = H[i]? := fun h=>aQ (Ne.symm h);intro op h;cases op<;>simp only[eF]at h⊢<;>try cases h
 case load t a =>
  unfold gU at h⊢;split at h
  ·rename_i n agg B
   split at h
   ·exact h
   ·rename_i i ae w row col ha
    by_cases e:i=id
    ·subst e
     rw[hid]at h;rcases d with⟨k,rfl⟩|rfl<;>simp at h
    ·rw [get e]
     exact h
   ·cases h
  ·cases h
 case lookup t m k ok =>
  split at h
  ·rename_i v1 h1
   cases h;have g:fG P t (r m) (r k) ok (H.set id x)=some v:=by
    unfold fG at h1⊢;split at h1
    ·rename_i I J i hm u
     by_cases e:i=id
     ·subst e
      rw[hid]at h1;rcases d with⟨k,rfl⟩|rfl<;>simp at h1
     ·rw [get e]
      exact h1
    ·cases h1
   rw[g]
  ·obtain ⟨g,q⟩:=ID (H2:=H.set id x) (fun i l es ms cl hi=>by
    have e:i≠id:=fun e=>by
     rw[e,hid]at hi;rcases d with⟨k,rfl⟩|rfl<;>cases hi
    rw[get e];exact hi) h
   rw[q,g]
 case call c =>
  unfold nC at h⊢;split at h
  ·split at h
   ·rename_i i _ _
    by_cases e:i=id
    ·subst e
     rw[hid]at h;rcases d with⟨k,rfl⟩|rfl<;>simp at h
    ·rw [get e]
     exact h
   ·cases h
  ·cases h
theorem IS{P:Program}{t:TypeId}{id:Nat}{m:List (Option (List Kd))}{H H':List ab}{v:AV}(h:nA P t id m H=some (v,H')) :
  ∃ z k,dV P t=some z∧H[id]? = some (.vec k 0 [])∧k=z.length∧v=.ptr id 1 k 0 0∧H'=H.set id (.vec k 1 [dM m z]):=by
 unfold nA at h;split at h
 ·rename_i z k d hid
  split at h
  ·rename_i hk
   cases h;exact⟨z,k,d,hid,hk,rfl,rfl⟩
  ·cases h
 ·cases h
theorem IT{P:Program}{t:TypeId}{id:Nat}{H:List ab}{z:List Value}{k:Nat} (m:List (Option (List Kd))) (d:dV P t=some z) (hid:H[id]? = some (.vec k 0 [])) (hk:k=z.length) :
  nA P t id m H=some (.ptr id 1 k 0 0,H.set id (.vec k 1 [dM m z])):=by
 unfold nA;rw[d,hid];simp only[];rw[if_pos hk]
theorem IU{q h:Oper}{s:St}{v u:AV}{O g:List ab}(h1:q.apart ops h=true)(_h2:h.apart ops q=true)(B:mw pf q h=true)
  (hi:Yields P pf ops q s v O) (U:Yields P pf ops h (s.put q.dst v O) u g) :
  ∃ Hj1,Yields P pf ops h s u Hj1∧Yields P pf ops q (s.put h.dst u Hj1) v g:=by
 obtain⟨a1,a2,a3⟩:=He h1;have W:bO ops (s.put q.dst v O).fr h=bO ops s.fr h:=xD a1;have wi:∀ H2,bO ops (s.put h.dst u H2).fr q=bO ops s.fr q:=fun H2=>xD a3;have ej:∀ x∈h.op.operands,(s.put q.dst v O).eval x=s.eval x:=fun x I=>eval_put a1 I;have ei:∀ H2,∀ x∈q.op.operands,(s.put h.dst u H2).eval x=s.eval x:=fun H2 x I=>eval_put a3 I;unfold mw at B;split at B
 ·-- q only computes
  rename_i M;obtain⟨J,g1⟩:=tU M hi;subst J;refine⟨g,(fh W ej rfl).1 U,?_⟩;exact(fh (s1:=s.put h.dst u g) (s:=⟨s.fr,g⟩) (wi g) (fun x I=>by rw[ei g x I]; cases x<;>rfl) rfl).2 (g1 g)
 ·-- h only computes
  rename_i N _;obtain⟨J,g1⟩:=tU N U;have e1':g=O:=J;subst e1';refine⟨s.H,?_,?_⟩
  ·have := g1 s.H
   exact(fh (s1:=⟨(s.put q.dst v g).fr,s.H⟩) (s:=s) W (fun x I=>by
    have:=ej x I;cases x<;>exact this) rfl).1 this
  ·exact(fh (s1:=s.put h.dst u s.H) (s:=s) (wi s.H) (ei s.H) rfl).2 hi
 ·rename_i M N
  have J:=pd M hi;subst J;have e2:=pd N U;have e2':g=s.H:=e2;subst e2';exact⟨s.H,(fh W ej rfl).1 U,(fh (s1:=s.put h.dst u s.H) (s:=s) (wi s.H) (ei s.H) rfl).2 hi⟩
 ·rename_i M N
  have J:=pd M hi;subst J;have d:=(fh W ej rfl).1 U;refine⟨g,d,?_⟩;have hpush:g=s.H∨(∃ x,g=s.H++[x])∨∃ id y x,s.H[id]? = some y∧((∃ k,y=.vec k 0 [])∨y=.dK)∧g=s.H.set id x:=by
   unfold Yields at d;simp only[N]at d;split at d
   ·exact d.elim
   ·exact .inl d.2
   ·rcases d with (d | ⟨f, args, h1, _⟩) | (⟨t, id, m, ho, hv⟩ | ⟨t, id, ho, hv⟩) | V
    ·unfold dX at B
     split at B
     ·rename_i t ho
      rw[ho]at d;simp only[cT,oV]at d;split at d
      ·split at d
       ·cases d; exact .inr (.inl ⟨_,rfl⟩)
       ·cases d
      ·split at d
       ·cases d; exact .inr (.inl ⟨_,rfl⟩)
       ·cases d
     ·rename_i t ho
      rw[ho]at d;simp only[cT]at d;cases d;exact .inr (.inl ⟨_,rfl⟩)
     ·cases B
    ·unfold dX at B
     split at B
     ·rename_i t ho
      rw[ho]at h1;cases h1
     ·rename_i t ho
      rw[ho]at h1;cases h1
     ·cases B
    ·obtain ⟨z, k, _, h2, _, _, h3⟩ := IS hv
     exact .inr (.inr ⟨id,_,_,h2,.inl ⟨k,rfl⟩,h3⟩)
    ·obtain ⟨h1, _, h3⟩ := BC hv
     exact .inr (.inr ⟨id,_,_,h1,.inr rfl,h3⟩)
    ·unfold dX at B
     split at B
     ·rename_i t ho
      rw[ho]at V;exact V.elim
     ·rename_i t ho
      rw[ho]at V;exact V.elim
     ·cases B
  refine(fh (s1:=s.put h.dst u g) (s:=⟨s.fr,g⟩) (wi g) (fun x I=>by rw[ei g x I]; cases x<;>rfl) rfl).2 ?_;have key:∀ H2:List ab,St.eval ⟨s.fr,H2⟩=s.eval:=fun H2=>by funext x; cases x<;>rfl
  unfold Yields at hi⊢;simp only[M]at hi⊢;cases hw:bO ops s.fr q with
  |none=>rw[hw]at hi; exact hi.elim
  | some b =>
   rw[hw]at hi;cases b with
   |false=>exact⟨hi.1,by simp⟩
   | true =>
    refine⟨by simp,?_⟩;rw[key];rcases hpush with rfl|⟨x,rfl⟩|⟨id,y,x,hid,hy,rfl⟩
    ·exact hi.2
    ·exact SO hi.2
    ·exact SP hid hy hi.2
 ·cases B
def BT(ops:Array Oper)(listed:Array Bool)(j:Nat):Prop :=
 ∀ o,ops[j]? = some o→∀ e∈o.after,Hd .any e=true→listed.getD e.on false=true
def pe(ops:Array Oper)(listed:Array Bool):Prop:=∀ j,listed.getD j false=true→BT ops listed j
theorem BU{listed:Array Bool}(d:pe ops listed):∀(n j i:Nat),BT ops listed j→waits ops n j i=true→listed.getD i false=true
 |0,_,_,_,h=>by simp[waits]at h
 | n+1,j,i,k,h=>by
  unfold waits at h;split at h
  ·rename_i o ho
   rw[iQ]at h;obtain⟨e,he,hb⟩:=h;simp only[ax,wK,beq_iff_eq]at hb;have g:=k o ho e (by simpa using he) hb.1;rcases hb.2 with rfl|hw
   ·exact g
   ·exact BU d n e.on i (d _ g) hw
  ·cases h
theorem BV{listed:Array Bool}{j:Nat}(h:j∈kB .any ops listed):BT ops listed j:=by
 obtain⟨_,o,ho,g⟩:=mem_ready.1 h;intro o' d;rw[ho]at d;cases d;exact g
theorem xE{listed:Array Bool}(g:pe ops listed){j:Nat}(q:j∈kB .any ops listed):pe ops (listed.setIfInBounds j true):=by
 intro k hk o ho e he hb;by_cases d:j=k
 ·subst d
  exact getD_set_true (BV q o ho e he hb)
 ·have:listed.getD k false=true:=by
   have h:=hk;simp[Array.getElem?_setIfInBounds_ne d]at h;simpa using h
  exact getD_set_true (g k this o ho e he hb)
theorem IV(s:St)(x y:Option Tmp)(v u:AV)(H1 H2 g:List ab)(h:∀ d,x=some d→y≠some d):(s.put x v H1).put y u H2=(s.put y u g).put x v H2:=by
 simp only[St.put,SN s.fr v u h]
theorem IW{listed:Array Bool}{i:Nat}(h:i∈kB .any ops listed):listed.getD i false=false:=by
 obtain⟨h0,_⟩:=mem_ready.1 h;rcases jq i listed.size with h'|h'
 ·simp[h']at h0⊢; exact h0
 ·simp[Hf h']at h0
theorem SQ{s':St}{i:Nat}{q:Oper}(hi:ops[i]? = some q):∀(fuel:Nat) (listed:Array Bool) (s:St) (v:AV) (H':List ab),pe ops listed →
  (∀ j g,ops[j]? = some g→j≠i→listed.getD j true=false→waits ops ops.size j i=false→q.apart ops g=true∧g.apart ops q=true∧mw pf q g=true) →
  i∈kB .any ops listed→Yields P pf ops q s v H'→qQ P pf ops s' fuel (listed.setIfInBounds i true) (s.put q.dst v H')→qQ P pf ops s' (fuel+1) listed s:=by
 intro fuel
 induction fuel with
 | zero =>
  intro listed s v H' _ _ y I H;refine⟨fun h=>(by rw[h]at y; cases y),fun j B=>?_⟩;by_cases d:j=i
  ·subst d
   unfold qP;simp only[hi];exact⟨v,H',I,H⟩
  ·have := ready_mono B d
   rw[H.1]at this;cases this
 | succ fuel ih =>
  intro listed s v H' O M y I H;refine⟨fun h=>(by rw[h]at y; cases y),fun j B=>?_⟩;by_cases d:j=i
  ·subst d
   unfold qP;simp only[hi];exact⟨v,H',I,H⟩
  ·have h1 := H.2 j (ready_mono B d)
   obtain⟨N,g,U,hall⟩:=mem_ready.1 B;unfold qP at h1⊢;simp only[U]at h1⊢;obtain⟨u,Hj,hyj,hrest⟩:=h1;have hnw:waits ops ops.size j i=false:=by
    cases hw:waits ops ops.size j i with
    |false=>rfl
    | true =>
     have:=BU O _ _ _ (BV B) hw;rw[IW y]at this;cases this
   obtain⟨a1,a2,a3⟩:=M j g U d N hnw;obtain⟨J,q1,q2⟩:=IU a1 a2 a3 I hyj;refine⟨u,J,q1,?_⟩;refine ih (listed.setIfInBounds j true) (s.put g.dst u J) v Hj (xE O B) ?_ (ready_mono y (Ne.symm d)) q2 ?_
   ·intro k ok hk hki V hno
    refine M k ok hk hki ?_ hno;by_cases W:j=k
    ·subst W; exact N
    ·rw[getD_set_ne true W]at V; exact V
   ·rw [aeR _ _ d]
    have:=IV s q.dst g.dst v u H' Hj J (He a1).2.1;rw[←this];exact hrest
theorem IX{s':St}(M:qO pf ops=true):∀(l:List Oper) (k:Nat) (listed:Array Bool) (s:St),l=ops.toList.drop k→pe ops listed→listed.size=ops.size →
  (∀ j,j<ops.size→(listed.getD j true=false↔k≤j))→fI P pf ops l s s'→qQ P pf ops s' l.length listed s
 | [],k,listed,s,u,_,I,hk,h=>by
  simp only[fI]at h;refine⟨?_,h.symm⟩;apply aeS.2;intro j d;obtain⟨h0,o,ho,_⟩:=mem_ready.1 d;have q:j<ops.size:=(gb.1 ho).1;have:=(hk j q).1 h0;have hlen:(ops.toList.drop k).length=0:=by rw[←u]; rfl
  simp at hlen;omega
 | o::l,k,listed,s,u,J,I,hk,h=>by
  obtain⟨v,H',hy,U⟩:=h;have h0:ops[k]? = some o:=by
   have:(ops.toList.drop k)[0]? = some o:=by rw[←u]; rfl
   simpa using this
  have q:k<ops.size:=(gb.1 h0).1;simp only[qO,ax,cM,eC]at M;obtain⟨_,y⟩:=M;have O:∀ j,j<k→listed.getD j false=true:=by
   intro j d;have N:¬ (listed.getD j true=false):=fun e=>by have:=(hk j (by omega)).1 e; omega
   have:j<listed.size:=by omega
   simp[this]at N⊢;exact N
  have B:k∈kB .any ops listed:=by
   refine mem_ready.2 ⟨(hk k q).2 (aB _),o,h0,fun e he hb=>?_⟩;have:=y k q;rw[h0]at this;simp only[ax,cM]at this;have h1:=this.1 e (by simpa using he);simp only[hb,Hg,AP,decide_eq_true_eq]at h1;exact O e.on h1
  refine SQ h0 l.length listed s v H' J ?_ B hy ?_
  ·intro j oj d hjk V W
   have g:j<ops.size:=(gb.1 d).1;have hkj:k≤j:=(hk j g).1 V;have:=y j g;rw[d]at this;simp only[ax,cM,eC]at this;have h1:=this.2 k (by omega);rw[h0]at h1;simp only[W,AP,ax]at h1;exact⟨h1.1.1,h1.1.2,h1.2⟩
  ·refine IX (by simp only [qO, ax, cM, eC]; exact ⟨‹_›, y⟩) l (k + 1) _ _ ?_ (xE J B) (by simpa using I) ?_ U
   ·rw[←oH,←u]; rfl
   ·intro j g
    by_cases e:k=j
    ·subst e
     have:k<listed.size:=by omega
     simp[this]
    ·rw [getD_set_ne true e, hk j g]
     omega
theorem SR{id:Nat}{s s':St}{E:Env}{a:Act}{Q:Exit→Act→World→Prop}(hm:P.follows .mixedOrders=true)(u:qO pf ops=true)(d:bN s E a)
  (h:fI P pf ops ops.toList s s') (v:∀ g w',eO E s' g w'→Q .normal g w'):∀ ro:Option Nat,(Code.region id ops true).wpIn (fz ro) 0 P Q a E.w:=by
 intro ro;have q:bN s { E with w:={ E.w with drawn:=E.w.drawn+1 } } a:=⟨d.H,dw (Env.iS (Ext.drawn E.w _)) _ d.fr,w6 d.heap (Env.iS (Ext.drawn E.w _)) d.defers,d.heap.ext (Ext.drawn E.w _)⟩
 refine wpIn_region_any hm (xC (pf:=pf) _ _ s { E with w:={ E.w with drawn:=E.w.drawn+1 } } a q ?_ (fun g w' y=>v g w' (eO.after (Env.iS (Ext.drawn E.w _)) y)) ro);have:=IX (P:=P) (s':=s') u ops.toList 0 (nk ops.size false) s (by simp) (by
  intro j k;exfalso;rcases jq j ops.size with h'|h'
  ·simp[h']at k
  ·simp[Hf (xs:=nk ops.size false) (by simpa using h')]at k) (by simp) (by intro j k; simp[k]) h
 simpa using this
theorem IY{id:Nat}{s s':St}{E:Env}{a:Act}{Q:Exit→Act→World→Prop}(g:bN s E a)
  (h:fI P pf ops ops.toList s s') (k:∀ d w',eO E s' d w'→Q .normal d w'):∀ ro:Option Nat,(Code.region id ops false).wpIn (fz ro) 0 P Q a E.w:=by
 intro ro;refine wpIn_region ?_;have:=xB (Q:=Q) ops.toList 0 s s' E a (by simp) h g k ro;rw[List.range_eq_range'];simpa using this
end Go.AL

namespace Go.AL
open Go
variable [Dr]
inductive bR where
 |normal
 |exit (id:Nat)
 |ret
 deriving DecidableEq
def bR.toExit:bR→Exit
 |.normal=>.normal
 |.exit id=>.exit id
 |.ret=>.ret
structure Env.dj (m:Nat) (E E':Env):Prop where
 past:∀ id,id<m→E.past id 0→E'.past id 0
 size:E.w.heap.size≤E'.w.heap.size
 same:∀ b,b<E.w.heap.size→¬ E.own b→E'.w.heap[b]? = E.w.heap[b]?
 own:∀ b,b<E.w.heap.size→¬ E.own b→¬ E'.own b
 live:∀ id,id<m→E.past id 0→E'.live id 0→E.live id 0∧E'.loc[id]? = E.loc[id]?
 X:∀ b,b<E.w.heap.size→(E'.X b↔E.X b)∧(E'.X.z b↔E.X.z b)
 rl:∀ l h,h<(E.X.r l).length→h<(E'.X.r l).length∧∀ q,(E'.X.r l)[h]? = some (some q)→(E.X.r l)[h]? = some (some q)
 env:dL E.w E'.w
 grow:∀ id,id<m→∀ l o,E.H[id]? = some o→o.cZ=some l→E'.live id 0→(∃ t,E'.X.r l=E.X.r l++t)∧∃ o',E'.H[id]? = some o'∧o'.cZ=some l
theorem Env.le.toM{m:Nat}{E E':Env}(h:E.le E'):E.dj m E':=⟨fun id _ d=>h.past id 0 d,h.size,h.same,h.own,fun id _ d g=>h.live id 0 d g,fun b _=>by rw[show E'.X.x=E.X.x from h.X.1,show E'.X.z=E.X.z from h.X.2]; exact⟨Iff.rfl,Iff.rfl⟩,h.rl,h.env,fun id _ l o h1 k q=>h.grow id l o h1 k q⟩
def xF(H:List ab):Prop:=∀ o∈H,o.aD = some 0
theorem Env.dj.full{m:Nat}{E E':Env}(h:E.dj m E')(hX:E'.X.x=E.X.x∧E'.X.z=E.X.z)(hm:E.H.length≤m)(k:xF E.H):E.le E':=by
 have key:∀ id ae,E.past id ae→id<m∧ae=0:=by
  rintro id ae ⟨o,ho,q⟩;have h1:=aL ho;have g:=q.2 0 (k o (List.mem_of_getElem? ho));exact⟨by omega,by omega⟩
 refine⟨fun id ae d=>?_,h.size,h.same,h.own,fun id ae d u=>?_,hX,h.rl,h.env,fun id l o h1 g v=>h.grow id (dn (aL h1) hm) l o h1 g v⟩
 ·obtain ⟨h1, rfl⟩ := key id ae d
  exact h.past id h1 d
 ·obtain ⟨h1, rfl⟩ := key id ae d
  exact h.live id h1 d u
theorem Env.dj.trans{m:Nat}{E E' B:Env}(h:E.dj m E')(h':E'.dj m B):E.dj m B where
 past:=fun id hi g=>h'.past id hi (h.past id hi g)
 size:=Nat.le_trans h.size h'.size
 same:=fun b hb ho=>by rw[h'.same b (dn hb h.size) (h.own b hb ho),h.same b hb ho]
 own:=fun b hb ho=>h'.own b (dn hb h.size) (h.own b hb ho)
 live:=fun id hi hid N=>by
  obtain⟨k,a2⟩:=h'.live id hi (h.past id hi hid) N;obtain⟨b1,u⟩:=h.live id hi hid k;exact⟨b1,by rw[a2,u]⟩
 X:=fun b hb=>by
  have h1:=h'.X b (dn hb h.size);have d:=h.X b hb;exact⟨h1.1.trans d.1,h1.2.trans d.2⟩
 rl:=fun l i hi=>by
  obtain⟨k,a2⟩:=h.rl l i hi;obtain⟨b1,u⟩:=h'.rl l i k;exact⟨b1,fun q O=>a2 q (u q O)⟩
 env:=h.env.trans h'.env
 grow:=fun id hi l o h1 d y=>by
  have g:E.past id 0:=⟨o,h1,ab.A0 d,fun v y=>Nat.zero_le _⟩
  obtain⟨I,_⟩:=h'.live id hi (h.past id hi g) y;obtain⟨⟨t,U⟩,o',g1,g2⟩:=h.grow id hi l o h1 d I;obtain⟨⟨t',J⟩,M,g3,g4⟩:=h'.grow id hi l o' g1 g2 y;exact⟨⟨t++t',by rw[J,U,List.append_assoc]⟩,M,g3,g4⟩
def dx(m:Nat)(E:Env)(s':St)(g:Act)(w':World):Prop :=
 ∃ d X',bN s' { w:=w',H:=s'.H,loc:=d,X:=X' } g∧E.dj m { w:=w',H:=s'.H,loc:=d,X:=X' }
theorem eO.toM{m:Nat}{E:Env}{s':St}{a:Act}{w:World}(h:eO E s' a w):dx m E s' a w:=let ⟨loc,r,h1,d⟩:=h; ⟨loc,E.X.re r,h1,d.toM⟩
theorem dx.after{m:Nat}{E E':Env}{s':St}{d:Act}{w':World}(h:E.dj m E')(h':dx m E' s' d w'):dx m E s' d w':=by
 obtain⟨g,X',h1,k⟩:=h';exact⟨g,X',h1,h.trans k⟩
theorem dx.refl{m:Nat}{s:St}{E:Env}{a:Act}(h:bN s E a):dx m E s a E.w:=(eO.refl h).toM
def fJ:Code→Bool
 |.seq a b=>fJ a&&fJ b
 |.cond _ a b=>fJ a&&fJ b
 |.block _ c=>fJ c
 |.loop c=>fJ c
 |.scope c=>fJ c
 |.rangeFunc ..=>false
 |_=>true
def eG(ro:Option Nat)(c:Code):Prop:=ro=none∨fJ c=true
theorem eG.seq1{ro:Option Nat}{a b:Code}(h:eG ro (.seq a b)):eG ro a:=h.imp id fun h=>by
 have h:(fJ a&&fJ b)=true:=h;exact(ax _ _▸h).1
theorem eG.BW{ro:Option Nat}{a b:Code}(h:eG ro (.seq a b)):eG ro b:=h.imp id fun h=>by
 have h:(fJ a&&fJ b)=true:=h;exact(ax _ _▸h).2
theorem eG.cond{ro:Option Nat}{o:Operand}{a b:Code}(t:Bool)(h:eG ro (.cond o a b)):eG ro (if t then a else b):=h.imp id fun h=>by
 have h:(fJ a&&fJ b)=true:=h;cases t
 ·exact(ax _ _▸h).2
 ·exact(ax _ _▸h).1
theorem eG.block{ro:Option Nat}{i:Nat}{a:Code}(h:eG ro (.block i a)):eG ro a:=h
theorem eG.loop{ro:Option Nat}{a:Code}(h:eG ro (.loop a)):eG ro a:=h
theorem BX(c:Code):eG none c:=.inl rfl
def cU(P:Program)(m:Nat)(c:Code)(s:St)(x:bR)(s':St):Prop :=
 ∀(ro:Option Nat),eG ro c→∀(E:Env) (a:Act),bN s E a→c.wpIn (fz ro) 0 P (fun e d g=>e=x.toExit∧dx m E s' d g) a E.w
def bt(m:Nat)(s s':St):Prop:=∀(E:Env) (a:Act),bN s E a→dx m E s' a E.w
theorem bt.refl{m:Nat}(s:St):bt m s s:=fun _ _ h=>dx.refl h
theorem bt.trans{m:Nat}{s s1 s2:St}(h:bt m s s1)(h':bt m s1 s2):bt m s s2:=fun E a d=>by
 obtain⟨loc,X,h1,g⟩:=h E a d;exact dx.after g (h' _ a h1)
theorem dx.weaken{m:Nat}{E:Env}{s s':St}{a:Act}{w:World}(h:dx m E s a w)(hle:bt m s s'):dx m E s' a w:=by
 obtain⟨loc,X,h1,d⟩:=h;exact dx.after d (hle _ a h1)
section rules
variable {P:Program} {m:Nat} {s s' s1:St} {x:bR}
theorem qR{c:Code}(hle:bt m s s1)(h:cU P m c s1 x s'):cU P m c s x s':=fun ro ho E a d=>by
 obtain⟨loc,X,h1,g⟩:=hle E a d;exact wpIn_mono (h ro ho { w:=E.w,H:=s1.H,loc:=loc,X:=X } a h1) fun e u v ⟨k,q⟩=>⟨k,dx.after g q⟩
theorem qS{c:Code}(h:cU P m c s x s1)(hle:bt m s1 s'):cU P m c s x s':=fun ro ho E a d =>
 wpIn_mono (h ro ho E a d) fun _ _ _ ⟨g,k⟩=>⟨g,k.weaken hle⟩
theorem SS:cU P m .skip s .normal s:=fun _ _ _ _ d=>wpIn_skip ⟨rfl,dx.refl d⟩
theorem SU:cU P m .ret s .ret s:=fun _ _ _ _ d=>wpIn_ret ⟨rfl,dx.refl d⟩
theorem SV{id:Nat}:cU P m (.exit id) s (.exit id) s:=fun _ _ _ _ d=>wpIn_exit ⟨rfl,dx.refl d⟩
theorem SX{pf:FuncId→Bool}{id:Nat}{ops:Array Oper}{draw:Bool}(hm:P.follows .mixedOrders=true)(k:draw=true→qO pf ops=true)(h:fI P pf ops ops.toList s s') :
  cU P m (.region id ops draw) s .normal s':=fun ro ho E a g=>by
 cases draw with
 |false=>exact IY g h (fun q w' d=>⟨rfl,d.toM⟩) ro
 |true=>exact SR hm (k rfl) g h (fun q w' d=>⟨rfl,d.toM⟩) ro
theorem xG{c d:Code}(h:cU P m c s .normal s1)(h':cU P m d s1 x s'):cU P m (.seq c d) s x s':=fun ro ho E a g =>
 wpIn_seq (wpIn_mono (h ro ho.seq1 E a g) fun e k J ⟨q,u⟩=>by
  subst q;obtain⟨loc,X,v,y⟩:=u;exact wpIn_mono (h' ro ho.BW _ k v) fun _ _ _ ⟨B,I⟩=>⟨B,dx.after y I⟩)
theorem IZ{c d:Code}(h:cU P m c s x s')(k:x≠.normal):cU P m (.seq c d) s x s':=fun ro ho E a q =>
 wpIn_seq (wpIn_mono (h ro ho.seq1 E a q) fun e v y ⟨u,g⟩=>by
  subst u;cases x with
  |normal=>exact(k rfl).elim
  |exit id=>exact⟨rfl,g⟩
  |ret=>exact⟨rfl,g⟩)
theorem I0{o:Operand}{c d:Code}{b:Bool}(hb:s.eval o=.lit (.bool b))(h:cU P m (if b then c else d) s x s'):cU P m (.cond o c d) s x s':=fun ro ho E a g=>by
 have:=g.eval o;rw[hb]at this;simp only[rel]at this;exact wpIn_cond this (h ro (ho.cond b) E a g)
def bR.inBlock(id:Nat):bR→bR
 |.exit i=>if i=id then .normal else .exit i
 |x=>x
theorem I1{id:Nat}{c:Code}(h:cU P m c s x s'):cU P m (.block id c) s (x.inBlock id) s':=fun ro ho E a g =>
 wpIn_block (wpIn_mono (h ro ho E a g) fun e q u ⟨k,d⟩=>by
  subst k;cases x with
  |normal=>exact⟨rfl,d⟩
  | exit i =>
   simp only[bR.toExit,Exit.inBlock,bR.inBlock];split
   ·exact⟨rfl,d⟩
   ·exact⟨rfl,d⟩
  |ret=>exact⟨rfl,d⟩)
def BY(P:Program)(m:Nat)(c:Code):Nat→St→bR→St→Prop
 |0,s,x,s'=>x≠.normal∧cU P m c s x s'
 |n+1,s,x,s'=>∃ s1,cU P m c s .normal s1∧BY P m c n s1 x s'
def jY(P:Program)(m:Nat)(c:Code)(s:St)(x:bR)(s':St):Prop:=∃ n,BY P m c n s x s'
theorem jY.stop{c:Code}(h:cU P m c s x s')(d:x≠.normal):jY P m c s x s':=⟨0,d,h⟩
theorem jY.next{c:Code}(h:cU P m c s .normal s1)(h':jY P m c s1 x s'):jY P m c s x s':=let ⟨n,d⟩:=h'; ⟨n+1,s1,h,d⟩
theorem jY.pre{c:Code}(hle:bt m s s1)(h:jY P m c s1 x s'):jY P m c s x s':=by
 obtain⟨n,d⟩:=h;cases n with
 |zero=>exact⟨0,d.1,qR hle d.2⟩
 | succ n =>
  obtain⟨s2,h1,g⟩:=d;exact⟨n+1,s2,qR hle h1,g⟩
theorem I2{c:Code}(h:jY P m c s x s'):cU P m (.loop c) s x s':=fun ro ho E a W b k cs N hb q=>by
 obtain⟨n,hn⟩:=h;have key:∀(n:Nat) (s1:St) (d:Env) (a:Act),bN s1 d a→E.dj m d→BY P m c n s1 x s' →
   ∃ e u w',(e=x.toExit∧dx m E s' u w')∧ArrivesIn (Machine.fenced P (fz ro)) P (lone (b.atR a (.code c::.inLoop c::k)) cs d.w) b k cs e u w':=by
  intro n
  induction n with
  | zero =>
   intro s1 d a I hle y;obtain⟨hx,B⟩:=y;obtain⟨e,J,O,⟨v,h4⟩,g⟩:=B ro ho.loop d a I b (.inLoop c::k) cs N hb q;refine⟨e,J,O,⟨v,dx.after hle h4⟩,?_⟩;subst v;exact .pass (x:=.inLoop c) rfl (fun _ _=>.inl (by cases x<;>simp_all[bR.toExit])) g
  | succ n ih =>
   intro s1 d a I hle y;obtain⟨s2,B,U⟩:=y;obtain⟨e,J,O,⟨v,loc,X,h5,h6⟩,g⟩:=B ro ho.loop d a I b (.inLoop c::k) cs N hb q;subst v;obtain⟨e2,a2,w2,M,V⟩:=ih s2 _ J h5 (hle.trans h6) U;exact⟨e2,a2,w2,M,.of_steps (StepsIn.trans g (.one (fenced_calm hb q rfl) stepR_inLoop)) V⟩
 obtain⟨e,u,w',M,g⟩:=key n s E a W (Env.le.refl E).toM hn;exact⟨e,u,w',M,.of_steps (.one (fenced_calm hb q rfl) stepR_loop) g⟩
end rules
def xH(P:Program)(s:St):ResultVar→Option AV
 |.tmp t=>some (s.fr.getD t .undef)
 |.cell a t=>gU P t (s.fr.getD a .undef) s.H
def hG(P:Program)(s:St):List ResultVar→Option (List AV)
 | []=>some []
 | r::rs=>match xH P s r,hG P s rs with
  |some v,some vs=>some (v::vs)
  |_,_=>none
def c6:List AV→AV
 | [v]=>v
 |vs=>.tuple vs
def BZ(tmps:Array Value):ResultVar→Sem Value
 |.tmp t=>pure (tmps.getD t undef)
 |.cell a t=>do loadVar t (← asAddr (tmps.getD a undef))
theorem SY{P:Program}{s:St}{E:Env}{a:Act}(g:bN s E a){r:ResultVar}{v:AV}(h:xH P s r=some v) :
  ∃ u,(BZ a.tmps r).run P E.w=.ok u E.w∧rel E v u:=by
 cases r with
 | tmp t =>
  simp only[xH,aV]at h;subst h;exact⟨_,rfl,g.eval (.tmp t)⟩
 | cell x t =>
  simp only[xH]at h;rw[←g.H]at h;have d:=g.eval (.tmp x);simp only[St.eval,Act.eval]at d;obtain⟨u,g1,g2⟩:=HH g.heap h d;refine⟨u,?_,g2⟩;have q:∃ b o,a.tmps.getD x undef=.pointer (some ⟨b,o,none⟩):=by
   unfold gU at h;split at h
   case h_2=>cases h
   split at h
   ·rename_i k
    rw[k]at d;simp only[rel]at d;obtain⟨_,b,o,e,_⟩:=d;exact⟨b,o,e⟩
   ·rename_i k
    rw[k]at d;simp only[rel]at d;obtain⟨⟨b,o,e⟩,_⟩:=d;exact⟨b,o,e⟩
   ·cases h
  obtain⟨b,o,e⟩:=q;show (do loadVar t (← asAddr (a.tmps.getD x undef)):Sem Value).run P E.w=.ok u E.w
  rw[e]at g1⊢;simpa[Instr.loadAt,Instr.sureAddr,asAddr]using g1
theorem xI{P:Program}{s:St}{E:Env}{a:Act}(d:bN s E a):∀(rs:List ResultVar) (vs:List AV),hG P s rs=some vs →
  ∃ us:List Value,(rs.mapM (BZ a.tmps)).run P E.w=.ok us E.w∧af E vs us
 | [],vs,h=>by simp[hG]at h; subst h; exact⟨[],rfl,by simp[af]⟩
 | r::rs,vs,h=>by
  simp only[hG]at h;split at h
  case h_2=>cases h
  rename_i v g h1 k;cases h;obtain⟨u,g1,g2⟩:=SY d h1;obtain⟨us,g3,g4⟩:=xI d rs g k;refine⟨u::us,?_,by simp only[af]; exact⟨g2,g4⟩⟩;simp only[List.mapM_cons,bV];rw[g1];simp only[bX];rw[g3];rfl
theorem xJ(fn:Func)(tmps:Array Value):results fn tmps=(do let vs ← fn.results.mapM (BZ tmps); pure (if h:vs.size=1 then vs[0] else .tuple vs)):=by
 unfold results;congr 1
theorem SZ{P:Program}{fn:Func}{s:St}{E:Env}{a:Act}(g:bN s E a){vs:List AV}(h:hG P s fn.results.toList=some vs) :
  ∃ u,(results fn a.tmps).run P E.w=.ok u E.w∧rel E (c6 vs) u:=by
 obtain⟨us,g1,g2⟩:=xI g fn.results.toList vs h;refine⟨if h:us.toArray.size=1 then us.toArray[0] else .tuple us.toArray,?_,?_⟩
 ·rw [xJ]
  simp only[bV];rw[Array.mapM_eq_mapM_toList,Sem.run_map,g1];rfl
 ·have d := fP g2
  cases us with
  | nil =>
   cases vs with
   |nil=>simp[c6,rel,af]
   |cons _ _=>simp at d
  | cons u us =>
   cases us with
   | nil =>
    cases vs with
    |nil=>simp at d
    | cons v vs =>
     cases vs with
     |nil=>simp only[af]at g2; simpa[c6]using g2.1
     |cons _ _=>simp at d
   | cons k us =>
    cases vs with
    |nil=>simp at d
    | cons v vs =>
     cases vs with
     |nil=>simp at d
     | cons v2 vs =>
      simp only[c6,rel];exact⟨(u::k::us).toArray,by simp,g2⟩
def iW(args:List AV)(n:Nat):List AV:=args++bM (n-args.length) .undef
theorem tV{E:Env}:∀(vs:List Value),af E (bM vs.length .undef) vs
 | []=>by simp[af]
 |_::vs=>by simp only[cw,List.replicate_succ,af,rel]; exact⟨trivial,tV vs⟩
structure gk (E E':Env):Prop where
 H:E'.H=E.H
 loc:E'.loc=E.loc
 size:E.w.heap.size≤E'.w.heap.size
 same:∀ b,b<E.w.heap.size→¬ E.X b→¬ E'.X b∧E'.w.heap[b]? = E.w.heap[b]?
 X:∀ b,E'.X b→b<E'.w.heap.size
 r:E'.X.r=E.X.r
theorem gk.own{E E':Env}(h:gk E E')(b:Nat):E'.own b↔E.own b:=by unfold Env.own Env.sat; rw[h.loc,h.r]
theorem gk.toC{E E':Env}(h:gk E E'):E.bF E' :=
 ⟨fun b hb=>⟨⟨dn hb.1 h.size,fun ho=>hb.2.1 ((h.own b).1 ho),(h.same b hb.1 hb.2.2).1⟩,(h.same b hb.1 hb.2.2).2⟩⟩
mutual
theorem tW{E E':Env}(h:gk E E'):∀(a:AV) {c:Value},rel E a c→rel E' a c
 |.undef,_,_=>by simp[rel]
 |.lit v,c,d=>by simpa only[rel]using d
 |.nils,c,d=>by simpa only[rel]using d
 |.list k rows,c,d=>dF h.toC _ (by simp[AV.closed]) d
 |.listF ks rows,c,d=>dF h.toC _ (by simp[AV.closed]) d
 | .agg cells,c,d=>by
  simp only[rel]at d⊢;obtain⟨cs,e,h1,g⟩:=d;exact⟨cs,e,h1,my h cells g⟩
 | .tuple cells,c,d=>by
  simp only[rel]at d⊢;obtain⟨cs,e,g⟩:=d;exact⟨cs,e,my h cells g⟩
 |.cptr cells,c,d=>dF h.toC _ (by simp[AV.closed]) d
 | .ptr id ae k row col,c,d=>by
  simp only[rel,Env.past,Env.live,h.H,h.loc]at d⊢;exact d
 | .vec k id ae off n,c,d=>by
  simp only[rel,Env.past,Env.live,h.H,h.loc]at d⊢;exact d
 | .map id,c,d=>by
  simp only[rel,Env.past,Env.live,h.H,h.loc]at d⊢;exact d
 | .clo f caps,c,d=>by
  simp only[rel]at d⊢;obtain⟨cs,e,g⟩:=d;exact⟨cs,e,my h caps g⟩
 |.ifc,c,d=>by simpa only[rel]using d
 |.emptyS n,c,d=>by simpa only[rel]using d
 | .sub id l j,c,d=>by
  simp only[rel,Env.past,Env.live,Env.Hx,h.H,h.r]at d⊢;exact d
theorem my{E E':Env}(h:gk E E'):∀(as:List AV) {vs:List Value},af E as vs→af E' as vs
 | [],[],_=>by simp[af]
 | [],_::_,d=>by simp[af]at d
 |_::_,[],d=>by simp[af]at d
 | a::as,v::vs,d=>by
  simp only[af]at d⊢;exact⟨tW h a d.1,my h as d.2⟩
end
theorem aq.cC{E E':Env}(H:aq E)(h:gk E E'):aq E' where
 eW:=H.eW.bF h.toC
 len:=by rw[h.loc,h.H]; exact H.len
 inj:=by rw[h.loc]; exact H.inj
 lt:=fun i b m hi=>by
  rw[h.loc]at hi;have:=H.lt i b m hi;exact⟨dn this.1 h.size,(h.same b this.1 this.2).1⟩
 X:=h.X
 obj:=fun i o hi=>by
  rw[h.H]at hi;exact jS (fun a _ d=>tW h a d) (by rw[h.loc]) (fun b n hb=>(h.same b (H.lt i b n hb).1 (H.lt i b n hb).2).2) (fun l _=>⟨by rw[h.r],fun k g m hk=>(h.same g (H.cr l k g m hk).1 (H.cr l k g m hk).2).2⟩) (H.obj i o hi)
 eE:=by rw[h.r]; exact H.eE
 cN:=by rw[h.r,h.loc]; exact H.cN
 cr:=fun l k b m hk=>by
  rw[h.r]at hk;have:=H.cr l k b m hk;exact⟨dn this.1 h.size,(h.same b this.1 this.2).1⟩
 uniq:=by rw[h.H]; exact H.uniq
 fQ:=by rw[h.H,h.r]; exact H.fQ
theorem bN.cC{s:St}{E E':Env}{a:Act}(d:bN s E a)(h:gk E E'){l:List Deferred}(hm:iT E'.w E'.X l):bN s E' { a with defers:=l } :=
 ⟨by rw[h.H]; exact d.H,my h _ d.fr,hm,d.heap.cC h⟩
theorem I3{P:Program}{fn:Func}{tmps:Array Value}{R:Ending→World→Prop}:∀(l:List Deferred) (w:World) (X:XS),iT w X l →
  (∀ w',w'.heap.size=w.heap.size→(∀ b,w'.heap[b]? ≠ w.heap[b]? → X b∧X.z b)→dL w w'→∃ v,(results fn tmps).run P w'=.ok v w'∧R (.returned v) w')→LeavesInM (fz none) 0 P fn tmps R l .returning w
 | [],w,X,_,h=>h w rfl (fun b hb=>(hb rfl).elim) (dL.refl w)
 | d::l,w,X,hm,h=>by
  obtain⟨D,e,h1,y,B⟩:=hm.2 d cW;subst e;have N:D<w.heap.size:=(gb.1 h1).1;have g:∀ b,b≠D→(w.putObj D (.deferred none)).heap[b]? = w.heap[b]? := fun b hb=>World.putObj_heap_other hb;have u:(w.putObj D (.deferred none)).heap.size=w.heap.size:=by simp[World.putObj]
  refine⟨by simp,.inl ⟨D,_,rfl,run_takeDeferred h1,I3 l _ X ⟨(l8.1 hm.1).2,fun d' k=>?_⟩ fun w' g1 g2 g3=>h w' (by rw[g1,u]) (fun b hb=>?_) (dL.trans ⟨rfl,rfl,rfl,by first|exact fun _=>aB _|exact fun _=>Nat.le_add_right _ _⟩ g3)⟩⟩
  ·obtain ⟨q, e', I, J, M⟩ := hm.2 d' (List.mem_cons_of_mem _ k)
   refine⟨q,e',?_,J,M⟩;rw[g q (fun e=>(l8.1 hm.1).1 (by rw[←e,←e']; exact k))];exact I
  ·by_cases e : b = D
   ·subst e
    exact⟨y,B⟩
   ·refine g2 b ?_
    rw[g b e];exact hb
theorem B0{P:Program}{f:FuncId}{fn:Func}{c:Code}{args:Array Value}{w:World}{R:Ending→World→Prop}(k:P.funcs[f]? = some fn)(hb:fn.body=some c)
  (h : c.wpIn (fz none) 0 P (fun e g d => (e = .normal ∨ e = .ret) ∧ ∃ X, iT d X g.defers ∧ ∀ w', w'.heap.size = d.heap.size → (∀ b, w'.heap[b]? ≠ d.heap[b]? → X b ∧ X.z b) → dL d w' → ∃ v, (results fn g.tmps).run P w' = .ok v w' ∧ R (.returned v) w')
   { tmps:=args++nk (fn.ntmps-args.size) undef,defers:=[] } w):Calls P f args w R:=by
 refine(callsIn_wide (n:=0)).1 (callsIn_of_wp_marks (F:=fz none) k hb trivial (wpIn_mono h fun e g d q=>?_));obtain⟨he,X,h1,u⟩:=q;have:=I3 (P:=P) (fn:=fn) (tmps:=g.tmps) (R:=R) g.defers d X h1 u;rcases he with rfl|rfl
 ·exact this
 ·exact this
theorem B1{m:Nat}{E:Env}{s':St}{g:List (Option (Nat × Nat))}{X':XS}{k:Act}{d w':World}(HE:aq E)(y:bN s' { w:=d,H:=s'.H,loc:=g,X:=X' } k)
  (hle:({ E with X:=⟨E.X.x,fun _=>False,E.X.r⟩ }:Env).dj m { w:=d,H:=s'.H,loc:=g,X:=X' }) (h1:w'.heap.size=d.heap.size) (q:∀ b,w'.heap[b]? ≠ d.heap[b]? → X' b∧X'.z b) (B:dL d w') :
  bN s' { w:=w',H:=s'.H,loc:=g,X:=E.X.re X'.r } { k with defers:=[] }∧E.dj m { w:=w',H:=s'.H,loc:=g,X:=E.X.re X'.r }:=by
 have v:∀ b,b<E.w.heap.size→w'.heap[b]? = d.heap[b]? := fun b hb=>aeT fun h=>((hle.X b hb).2.1 (q b h).2).elim;have I:E.w.heap.size≤d.heap.size:=hle.size;have cC:gk { w:=d,H:=s'.H,loc:=g,X:=X' } { w:=w',H:=s'.H,loc:=g,X:=E.X.re X'.r } :=
  ⟨rfl, rfl, by show d.heap.size ≤ w'.heap.size; omega, fun b hb u => ⟨fun he => u ((hle.X b (HE.X b he)).1.2 he), aeT fun h => u (q b h).1⟩, fun b hb => by
   have:=HE.X b hb;show b<w'.heap.size
   omega,rfl⟩
 refine⟨y.cC cC (oR _ _),⟨hle.past,by show E.w.heap.size≤w'.heap.size; omega,fun b hb ho=>?_,hle.own,hle.live,fun b _=>⟨Iff.rfl,Iff.rfl⟩,hle.rl,hle.env.trans B,hle.grow⟩⟩;show w'.heap[b]? = E.w.heap[b]?
 rw[v b hb];exact hle.same b hb ho
theorem qT{E:Env}(HE:aq E):gk E { E with X:=⟨E.X.x,fun _=>False,E.X.r⟩ }:=⟨rfl,rfl,aB _,fun b _ d=>⟨d,rfl⟩,HE.X,rfl⟩
theorem S0{P:Program}{f:FuncId}{fn:Func}{c:Code}{args:List AV}{H:List ab}{x:bR}{s':St}{vs:List AV}
  (B:P.funcs[f]? = some fn) (hb:fn.body=some c) (I:cU P H.length c ⟨iW args fn.ntmps,H⟩ x s') (J:x=.normal∨x=.ret) (M:hG P s' fn.results.toList=some vs) (y:xF H) :
  dG P f args H (c6 vs) s'.H:=by
 intro E cargs hH HE h;refine B0 B hb ?_;have k:=qT HE;have h:=my k _ h;have q:bN ⟨iW args fn.ntmps,H⟩ { E with X:=⟨E.X.x,fun _=>False,E.X.r⟩ } { tmps:=cargs++nk (fn.ntmps-cargs.size) undef,defers:=[] }:=by
  refine⟨hH,?_,oR _ _,HE.cC k⟩;simp only[iW,wH,Array.toList_replicate];refine jV h ?_;have:=fP h;have e:args.length=cargs.size:=by simpa using this
  rw[e];have:=tV (E:={ E with X:=⟨E.X.x,fun _=>False,E.X.r⟩ }) (bM (fn.ntmps-cargs.size) undef);simpa using this
 refine wpIn_mono (I none (BX _) { E with X:=⟨E.X.x,fun _=>False,E.X.r⟩ } _ q) fun e W w1 ⟨N,v,X',d,g⟩=>?_;refine⟨by subst N; rcases J with rfl|rfl; exact .inl rfl; exact .inr rfl,X',d.defers,fun w' O U V=>?_⟩;obtain⟨d,g⟩:=B1 HE d g O U V;obtain⟨u,g1,g2⟩:=SZ d M;have g:=g.full ⟨rfl,rfl⟩ (by rw[hH]; exact aB _) (by rw[hH]; exact y);exact⟨u,g1,u,c6 vs,s'.H,rfl,⟨rfl,rfl⟩,v,X'.r,g2,d.heap,g⟩
theorem S1{P:Program}{f:FuncId}{args:List AV}{v:AV}{H1:List ab}(h:dG P f args [] v H1)(ha:AV.bp args=true)(M:v.closed=true):eg P f args v:=by
 intro H E cargs hH HE B
 let E0:Env:={ w:=E.w,H:=[],loc:=[],X:=(E.X.or E.own).re dE }
 have g:∀ b,¬ E0.own b:=by rintro b (⟨id,c,hid⟩|⟨l,k,c,hk⟩); simp[E0]at hid; simp[E0,dE]at hk
 have hC:E.bF E0:=⟨fun b hb=>⟨⟨hb.1,g b,fun d=>d.elim hb.2.2 hb.2.1⟩,rfl⟩⟩
 have J:aq E0:=by
  refine⟨rfl,?_,?_,?_,?_,HE.eW.bF hC,fun l k l' k' b m n hk=>by simp[E0,dE]at hk,fun i b m l k n hi=>by simp[E0]at hi,fun l k b m hk=>by simp[E0,dE]at hk,fun i j o o' l hi=>by simp[E0]at hi,fun l _ k q hk=>by simp[E0,dE]at hk⟩
  ·intro i j b m n hi; simp[E0]at hi
  ·intro i b m hi; simp[E0]at hi
  ·rintro b (d | ho)
   ·exact HE.X b d
   ·exact(HE.wZ ho).1
  ·intro i o hi; simp[E0]at hi
 refine(h E0 cargs rfl J (nr hC args ha B)).mono ?_;rintro _ w' ⟨c,y,H',rfl,⟨rfl,rfl⟩,I,r',g1,g2,g3⟩;have u:Ext E.w w':=⟨g3.size,fun b hb=>g3.same b hb (g b),g3.env⟩
 refine⟨c,y,H,rfl,⟨rfl,rfl⟩,E.loc,E.X.r,?_,?_,?_⟩
 ·rw [← hH]
  exact dF (E:={ w:=w',H:=H',loc:=I,X:=E0.X.re r' }) (E':={ w:=w',H:=E.H,loc:=E.loc,X:=E.X })
   ⟨fun b hb=>⟨⟨hb.1,fun ho=>hb.2.2 (Or.inr ho),fun d=>hb.2.2 (Or.inl d)⟩,rfl⟩⟩ y M g1
 ·rw[←hH]; exact HE.ext u
 ·rw[←hH]; exact Env.iS u
end Go.AL

namespace Go.AL
open Go
variable [Dr]
variable {P:Program} {pf:FuncId→Bool} {ops:Array Oper}
def kN(r:Operand→AV):Op→Option Nat
 | .load _ a=>match r a with
  |.ptr id _ _ _ _=>some id
  |_=>none
 | .lookup _ m _ _=>match r m with
  |.map id=>some id
  |.sub id _ _=>some id
  |_=>none
 | .call c=>match c.args.toList with
  | [a]=>match r a with
   |.map id=>some id
   |_=>none
  |_=>none
 |_=>none
theorem I4{r:Operand→AV}{H H2:List ab}:∀{op:Op},(∀ id,kN r op=some id→H2[id]? = H[id]?)→eF P r H2 op=eF P r H op:=by
 intro op h;cases op<;>simp only[eF]
 case load t a =>
  simp only[kN]at h;unfold gU;cases ha:r a with
  | ptr id ae w row col =>
   rw[ha]at h;have:=h id rfl;simp only[this]
  |_=>rfl
 case lookup t m k ok =>
  simp only[kN]at h;have d:jy P t (r m) (r k) ok H2=jy P t (r m) (r k) ok H:=Sq (fun id e=>by rw[e]at h; exact h id rfl) (fun id l j e=>by rw[e]at h; exact h id rfl);rw[d];have h1:fG P t (r m) (r k) ok H2=fG P t (r m) (r k) ok H:=by
   unfold fG;cases cX P t with
   |none=>rfl
   | some p =>
    obtain⟨g,q⟩:=p;cases hm:r m with
    | map id =>
     rw[hm]at h;have:=h id rfl;simp only[this]
    |_=>rfl
  rw[h1]
 case call c =>
  simp only[kN]at h;unfold nC;split
  ·rename_i a t u ha v
   rw[ha]at h;simp only[]at h;cases cX P t with
   |none=>rfl
   | some p =>
    cases hm:r a with
    | map id =>
     rw[hm]at h;have:=h id rfl;simp only[this]
    |_=>rfl
  ·rfl
theorem I5{r r':Operand→AV}(o:Op)(h:∀ x∈o.operands,r x=r' x):kN r o=kN r' o:=by
 cases o<;>simp only[kN]
 case load t a =>
  simp only[eU]at h;rw[h a (by simp)]
 case lookup t m k ok =>
  simp only[eU]at h;rw[h m (by simp)]
 case call c =>
  split
  ·rename_i a ha
   have:a∈(Op.call c).operands:=by
    show a∈c.operands
    have h1:a∈c.args:=by
     have:a∈c.args.toList:=by rw[ha]; simp
     simpa using this
    simp[td,h1]
   rw[h a this]
  ·rfl
abbrev hZ:=List (Nat × List Nat × Nat)
abbrev iX:=List (Nat × Nat)
def kept(W:hZ)(j A:Nat):Prop:=∀ e∈W,e.1=j→A∉e.2.1∧A<e.2.2
def B2(ops:Array Oper):Bool :=
 (dv ops.size).any fun j => (dv j).any fun i => match ops[i]?, ops[j]? with
  |some x,some y=>dX x.op&&dX y.op && !waits ops ops.size j i
  |_,_=>false
def jZ:Op→Bool
 | .call c=>match c.callee with
  |.value (.func _)=>true
  |_=>false
 |_=>false
def isVar:Op→Bool
 |.alloc _=>true
 |_=>false
theorem qU{op:Op}(h:isVar op=true):dX op=true:=by
 unfold isVar at h;split at h
 ·rfl
 ·cases h
def nD(ops:Array Oper):Bool :=
 (dv ops.size).any fun j => (dv j).any fun i => match ops[i]?, ops[j]? with
  |some x,some y=>jZ x.op&&isVar y.op && !waits ops ops.size j i
  |_,_=>false
def iG:Op→Bool
 |.mapEntry ..=>true
 |.entryStore ..=>true
 |_=>false
def B3(ops:Array Oper):Bool :=
 (dv ops.size).any fun j => (dv j).any fun i => match ops[i]?, ops[j]? with
  |some x,some y=>dX x.op&&iG y.op && !waits ops ops.size j i
  |_,_=>false
def mz(ops:Array Oper):Bool:=(B2 ops||nD ops)||B3 ops
theorem I6{pf:FuncId→Bool}{op:Op}(h:iG op=true):cG pf op=.write:=by
 unfold iG at h;split at h
 ·rfl
 ·rfl
 ·cases h
theorem S2{op:Op}(h:iG op=true):dX op=false:=by
 unfold iG at h;split at h
 ·rfl
 ·rfl
 ·cases h
theorem S3{op:Op}(h:iG op=true):jZ op=false:=by
 unfold iG at h;split at h
 ·rfl
 ·rfl
 ·cases h
theorem mA{pf:FuncId→Bool}{op:Op}(h:dX op=true):cG pf op=.write:=by
 unfold dX at h;split at h
 ·rfl
 ·rfl
 ·cases h
theorem xK{pf:FuncId→Bool}{op:Op}{X:Prop}(h:cG pf op≠.write):dX op=true→X:=fun ha=>(h (mA ha)).elim
theorem lr{op:Op}(h:dX op=true):jZ op=false:=by
 unfold dX at h;split at h
 ·rfl
 ·rfl
 ·cases h
def mB(σ:List (Nat × ab))(H:List ab):List ab:=σ.foldl (fun H p=>H.set p.1 p.2) H
def xL(W:hZ)(j:Nat)(H:List ab)(σ:List (Nat × ab)):Prop:=∀ p∈σ,kept W j p.1∧∃ k r,H[p.1]? = some (.vec k 0 [])∧p.2=.vec k 1 r
def Step(P:Program)(pf:FuncId→Bool)(ops:Array Oper)(R:iX)(W:hZ)(j:Nat)(o:Oper)(s:St)(v:AV)(H':List ab):Prop :=
 (cG pf o.op = .write → ∀ A, kept W j A → H'[A]? = s.H[A]?) ∧ (cG pf o.op = .read → bO ops s.fr o = some true → ∀ id, kN s.eval o.op = some id → (j, id) ∈ R) ∧
  (dX o.op=true→mz ops=true→bO ops s.fr o=some true→H'.length=s.H.length∧∀ id,H'[id]? ≠ s.H[id]? → ∃ e∈W,e.1=j∧id∈e.2.1) ∧
  (jZ o.op=true→nD ops=true→cG pf o.op=.write→bO ops s.fr o=some true→∀ σ,xL W j s.H σ→Yields P pf ops o ⟨s.fr,mB σ s.H⟩ v (mB σ H'))
def I7(R:iX)(W:hZ)(i j:Nat):Prop:=∀ id,(i,id)∈R→kept W j id
def B4(pf:FuncId→Bool)(ops:Array Oper)(R:iX)(W:hZ)(i:Nat)(x:Oper)(j:Nat)(y:Oper):Prop :=
 mw pf x y=true∨(cG pf x.op=.read∧cG pf y.op=.write∧I7 R W i j)∨(cG pf x.op=.write∧cG pf y.op=.read∧I7 R W j i)∨(dX x.op=true∧dX y.op=true∧mz ops=true) ∨
  (cG pf x.op=.write∧jZ x.op=true∧isVar y.op=true∧nD ops=true∧∀ e∈W,e.1=j→∀ id∈e.2.1,kept W i id) ∨
  (dX x.op=true∧iG y.op=true∧mz ops=true∧∀ e∈W,e.1=i→∀ id∈e.2.1,kept W j id)
theorem I8{o:Oper}{s:St}{v:AV}{H':List ab}(ho:isVar o.op=true)(h:Yields P pf ops o s v H')(g:bO ops s.fr o=some true→H'.length=s.H.length) :
  (bO ops s.fr o = some false ∧ v = .tuple [] ∧ H' = s.H) ∨
   (bO ops s.fr o=some true∧∃ t id z k m,o.op=.alloc t∧dV P t=some z∧s.H[id]? = some (.vec k 0 [])∧k=z.length∧v=.ptr id 1 k 0 0∧H'=s.H.set id (.vec k 1 [dM m z])):=by
 unfold Yields at h;cases hw:bO ops s.fr o with
 |none=>rw[hw]at h; exact h.elim
 | some b =>
  rw[hw]at h;cases b with
  |false=>exact .inl ⟨rfl,h.1,h.2⟩
  | true =>
   right;refine⟨rfl,?_⟩;simp only[mA (qU ho)]at h;have g:=g hw;rcases h with(h|⟨f,args,h1,_⟩)|(⟨t,id,m,d,u⟩|⟨t,id,d,u⟩)|q
   ·unfold isVar at ho
    split at ho
    ·rename_i t d
     rw[d]at h;simp only[cT,oV]at h;split at h
     ·split at h
      ·cases h
       simp at g
      ·cases h
     ·split at h
      ·cases h
       simp at g
      ·cases h
    ·cases ho
   ·unfold isVar at ho
    split at ho
    ·rename_i t d
     rw[d]at h1;cases h1
    ·cases ho
   ·obtain ⟨z, k, h1, y, B, I, J⟩ := IS u
    exact⟨t,id,z,k,m,d,h1,y,B,I,J⟩
   ·rw [d] at ho
    cases ho
   ·unfold isVar at ho
    split at ho
    ·rename_i t d
     rw[d]at q;exact q.elim
    ·cases ho
def iY(P:Program)(op:Op)(id:Nat)(y:ab)(v:AV)(x:ab):Prop :=
 (∃ t z k m,op=.alloc t∧dV P t=some z∧k=z.length∧y=.vec k 0 []∧v=.ptr id 1 k 0 0∧x=.vec k 1 [dM m z])∨∃ t,op=.makeMap t none∧y=.dK∧v=.map id∧x=.map [] 0
theorem iY.ne{op g:Op}{id k:Nat}{y d x q:ab}{v u:AV}(h:iY P op id y v x)(h':iY P g k d u q):x≠d:=by
 rcases h with⟨_,_,_,_,_,_,_,_,_,rfl⟩|⟨_,_,_,_,rfl⟩<;>rcases h' with⟨_,_,_,_,_,_,_,rfl,_,_⟩|⟨_,_,rfl,_,_⟩<;>intro e<;>cases e
theorem B5{o:Oper}{s:St}{v:AV}{H':List ab}(ho:dX o.op=true)(h:Yields P pf ops o s v H')(q:bO ops s.fr o=some true→H'.length=s.H.length) :
  (bO ops s.fr o = some false ∧ v = .tuple [] ∧ H' = s.H) ∨
   (bO ops s.fr o=some true∧∃ id y x,iY P o.op id y v x∧s.H[id]? = some y∧H'=s.H.set id x):=by
 cases g:isVar o.op with
 | true =>
  rcases I8 g h q with h|⟨h1,t,id,z,k,m,B,I,M,N,O,U⟩
  ·exact .inl h
  ·exact .inr ⟨h1,id,_,_,.inl ⟨t,z,k,m,B,I,N,rfl,O,rfl⟩,M,U⟩
 | false =>
  have hm:∃ t,o.op=.makeMap t none:=by
   unfold dX at ho;split at ho
   ·rename_i t d
    rw[d]at g;cases g
   ·rename_i t d
    exact⟨t,d⟩
   ·cases ho
  obtain⟨t,d⟩:=hm;unfold Yields at h;cases hw:bO ops s.fr o with
  |none=>rw[hw]at h; exact h.elim
  | some b =>
   rw[hw]at h;cases b with
   |false=>exact .inl ⟨rfl,h.1,h.2⟩
   | true =>
    right;refine⟨rfl,?_⟩;simp only[mA ho]at h;have q:=q hw;rcases h with(h|⟨f,args,h1,_⟩)|(⟨t',id,m,u,g⟩|⟨t',id,u,g⟩)|J
    ·rw [d] at h
     simp only[cT]at h;cases h;simp at q
    ·rw [d] at h1
     cases h1
    ·rw [d] at u
     cases u
    ·obtain ⟨h1, B, I⟩ := BC g
     exact⟨id,_,_,.inr ⟨t,d,rfl,B,rfl⟩,h1,I⟩
    ·rw [d] at J
     exact J.elim
theorem I9{o:Oper}{s:St}{t:TypeId}{id k:Nat}{z:List Value}(hw:bO ops s.fr o=some true)(ho:o.op=.alloc t)(d:dV P t=some z)(hid:s.H[id]? = some (.vec k 0 []))(hk:k=z.length) (m:List (Option (List Kd))) :
  Yields P pf ops o s (.ptr id 1 k 0 0) (s.H.set id (.vec k 1 [dM m z])):=by
 unfold Yields;rw[hw,ho];exact .inr (.inl (.inl ⟨t,id,m,rfl,IT m d hid hk⟩))
theorem B6{o:Oper}{s:St}{id:Nat}{v:AV}{x y:ab}(hw:bO ops s.fr o=some true)(d:iY P o.op id y v x)(hid:s.H[id]? = some y):Yields P pf ops o s v (s.H.set id x):=by
 rcases d with⟨t,z,k,m,h1,g,h,rfl,rfl,rfl⟩|⟨t,h1,rfl,rfl,rfl⟩
 ·exact I9 hw h1 g hid h m
 ·unfold Yields
  rw[hw,h1];exact .inr (.inl (.inr ⟨t,id,rfl,Im hid⟩))
def kO:ab→Bool
 |.aG ..=>false
 |.mm ..=>false
 |_=>true
theorem iY.no{op:Op}{id:Nat}{y x:ab}{v:AV}(h:iY P op id y v x):kO x=true∧kO y=true∧x≠.dead:=by
 rcases h with⟨_,_,_,_,_,_,_,rfl,_,rfl⟩|⟨_,_,rfl,_,rfl⟩
 ·exact⟨rfl,rfl,fun e=>by cases e⟩
 ·exact⟨rfl,rfl,fun e=>by cases e⟩
theorem S4{t:TypeId}{id:Nat}{k:AV}{H:List ab}{x:ab}(h:H[id]? = some x)(d:kO x=true):gY P t (.map id) k H=none∧iU P t (.map id) k H=none:=by
 unfold gY iU;cases cX P t with
 |none=>exact⟨rfl,rfl⟩
 | some p =>
  simp only[h];cases x<;>first|exact⟨rfl,rfl⟩|cases d
theorem S5{t:TypeId}{id a:Nat}{k:AV}{H:List ab}{x:ab}(d:id≠a)(ha:a<H.length):gY P t (.map id) k (H.set a x)=(gY P t (.map id) k H).map fun p=>(p.1,p.2.set a x):=by
 unfold gY;cases cX P t with
 |none=>rfl
 | some p =>
  simp only[aQ (Ne.symm d),List.length_set];split
  ·split
   ·split
    ·split
     ·split
      ·simp only [eJ]
       rw[Hl _ _ (by simpa using ha),l9 _ _ d]
      ·rfl
     ·simp only [eJ]
      rw[Hl _ _ (by simpa using ha),l9 _ _ d]
     ·rfl
    ·rfl
   ·rfl
  ·rfl
theorem S6{t:TypeId}{id a:Nat}{k:AV}{H:List ab}{x:ab}(d:id≠a):iU P t (.map id) k (H.set a x)=(iU P t (.map id) k H).map fun p=>(p.1,p.2.set a x):=by
 unfold iU;cases cX P t with
 |none=>rfl
 | some p =>
  simp only[aQ (Ne.symm d)];split
  ·split
   ·split
    ·simp only [eJ]
     rw[l9 _ _ d]
    ·rfl
   ·rfl
  ·rfl
theorem S7{t:TypeId}{id a:Nat}{k v:AV}{H H':List ab}(d:id≠a)(ha:a<H.length)(h:gY P t (.map id) k H=some (v,H')):H'[a]? = H[a]? := by
 unfold gY at h;split at h
 case h_2=>cases h
 rename_i he;cases he;split at h
 case h_2=>cases h
 split at h
 case h_2=>cases h
 split at h
 case h_2=>cases h
 split at h
 ·split at h
  ·cases h
   rw[cI (by simpa using ha),aQ d]
  ·cases h
 ·cases h
  rw[cI (by simpa using ha),aQ d]
 ·cases h
theorem S8{t:TypeId}{id a:Nat}{k v:AV}{H H':List ab}(d:id≠a)(h:iU P t (.map id) k H=some (v,H')):H'[a]? = H[a]? := by
 unfold iU at h;split at h
 case h_2=>cases h
 rename_i he;cases he;split at h
 case h_2=>cases h
 split at h
 case h_2=>cases h
 split at h
 ·cases h
  rw[aQ d]
 ·cases h
theorem S9{m s v:AV}{a:Nat}{x y:ab}{H k:List ab}(B:H[a]? = some y)(I:kO x=true∧kO y=true∧x≠.dead)(h:jW m s v (H.set a x)=some k)(hk:k[a]? = some x) :
  ∃ H1,jW m s v H=some H1∧k=H1.set a x∧H1[a]? = some y:=by
 have u:=aL B;unfold jW at h⊢;split at h
 case h_2=>cases h
 rename_i id st w j ae off n;have d:id≠a:=fun e=>by
  subst e;rw[bB u]at h;obtain⟨h1,_⟩:=I;cases x<;>first|cases h|cases h1
 rw[aQ (Ne.symm d)]at h;split at h
 case h_2=>cases h
 rename_i l w' es cl N M rows g1 g2;split at h
 case isFalse=>cases h
 rename_i J;split at h
 case h_2=>cases h
 rename_i i hi;split at h
 case h_2=>cases h
 rename_i key q bn hb;cases h;have g:j≠a:=fun e=>by
  subst e;rw[bB (by simpa using u)]at hk;exact I.2.2 (gg hk).symm
 rw[aQ (Ne.symm g)]at g2;rw[g1,g2];simp only[if_pos J,hi,hb];refine⟨_,rfl,?_,?_⟩
 ·rw[l9 _ _ (Ne.symm d),l9 _ _ (Ne.symm g)]
 ·rw[aQ g,aQ d,B]
theorem S_{m s v:AV}{a:Nat}{x y:ab}{H k:List ab}(u:H[a]? = some y)(B:kO x=true∧kO y=true∧x≠.dead)(h:kM m s v (H.set a x)=some k)(hk:k[a]? = some x) :
  ∃ H1,kM m s v H=some H1∧k=H1.set a x∧H1[a]? = some y:=by
 have q:=aL u;unfold kM at h⊢;split at h
 case h_2=>cases h
 rename_i id st j;have d:id≠a:=fun e=>by
  subst e;rw[bB q]at h;obtain⟨h1,_⟩:=B;cases x<;>first|cases h|cases h1
 rw[aQ (Ne.symm d)]at h;split at h
 case h_2=>cases h
 rename_i l es ms cl I clk g1 g2;split at h
 case h_2=>cases h
 rename_i i hi;split at h
 case h_2=>cases h
 rename_i key bn hb;cases h;have g:j≠a:=fun e=>by
  subst e;rw[bB (by simpa using q)]at hk;exact B.2.2 (gg hk).symm
 rw[aQ (Ne.symm g)]at g2;rw[g1,g2];simp only[hi,hb];refine⟨_,rfl,?_,?_⟩
 ·rw[l9 _ _ (Ne.symm d),l9 _ _ (Ne.symm g)]
 ·rw[aQ g,aQ d,u]
theorem S'{m s v:AV}{a:Nat}{x y:ab}{H:List ab}(d:H[a]? = some y)(g:kO x=true∧kO y=true∧x≠.dead){H2:List ab}(hm:kM m s v H=some H2):jW m s v H=none:=by
 unfold kM at hm;split at hm
 case h_2=>cases hm
 rfl
theorem Ta{op:Op}(J:iG op=true){r:Operand→AV}{H M:List ab}{a:Nat}{x y:ab}{u:AV}(d:H[a]? = some y)(q:kO x=true∧kO y=true∧x≠.dead)(h:cT P r (H.set a x) op=some (u,M))(hk:M[a]? = some x) :
  ∃ H1,cT P r H op=some (u,H1)∧M=H1.set a x∧H1[a]? = some y:=by
 have B:=aL d;unfold iG at J;split at J
 ·rename_i t m k
  simp only[cT]at h⊢;cases hm:r m with
  | map id =>
   rw[hm]at h;by_cases g:id=a
   ·subst g
    obtain⟨U,V⟩:=S4 (P:=P) (t:=t) (k:=r k) (bB (a:=x) B) q.1;rw[U,V]at h;cases h
   ·rw [S5 g B, S6 g] at h
    cases he:gY P t (.map id) (r k) H with
    | some p =>
     rw[he]at h;simp only[eJ]at h;obtain⟨p1,N⟩:=p;cases h;exact⟨N,rfl,rfl,by rw[S7 g B he,d]⟩
    | none =>
     rw[he]at h;simp only[Option.map_none]at h;cases I:iU P t (.map id) (r k) H with
     | some p =>
      rw[I]at h;simp only[eJ]at h;obtain⟨p1,N⟩:=p;cases h;exact⟨N,rfl,rfl,by rw[S8 g I,d]⟩
     | none =>
      rw[I]at h;cases h
  | _ =>
   rw[hm]at h;unfold gY iU at h;cases O:cX P t with
   |none=>rw[O]at h; cases h
   |some p=>rw[O]at h; cases h
 ·rename_i t m s v
  simp only[cT]at h⊢;cases he:jW (r m) (r s) (r v) (H.set a x)with
  | some H2 =>
   rw[he]at h;cases h;obtain⟨H1,g1,g2,g3⟩:=S9 d q he hk;rw[g1];exact⟨H1,rfl,g2,g3⟩
  | none =>
   rw[he]at h;cases hm:kM (r m) (r s) (r v) (H.set a x)with
   |none=>rw[hm]at h; cases h
   | some H2 =>
    rw[hm]at h;cases h;obtain⟨H1,g1,g2,g3⟩:=S_ d q hm hk;rw[S' d q g1,g1];exact⟨H1,rfl,g2,g3⟩
 ·cases J
theorem Tb{o:Oper}{s:St}{u:AV}{q:List ab}(g:iG o.op=true)(h:Yields P pf ops o s u q)(hw:bO ops s.fr o=some true):cT P s.eval s.H o.op=some (u,q):=by
 unfold Yields at h;simp only[hw,I6 g]at h;rcases h with(h|⟨f,args,h1,_⟩)|(⟨t,id,m,d,_⟩|⟨t,id,d,_⟩)|k
 ·exact h
 ·unfold iG at g
  split at g
  ·rename_i d
   rw[d]at h1;cases h1
  ·rename_i d
   rw[d]at h1;cases h1
  ·cases g
 ·rw [d] at g
  cases g
 ·rw [d] at g
  cases g
 ·unfold iG at g
  split at g
  ·rename_i d
   rw[d]at k;exact k.elim
  ·rename_i d
   rw[d]at k;exact k.elim
  ·cases g
theorem Tc{R:iX}{W:hZ}{i j:Nat}{B g:Oper}{s:St}{v u:AV}{N d:List ab}(h1:B.apart ops g=true)(h2:g.apart ops B=true)(hc:B4 pf ops R W i B j g)
  (hi:Yields P pf ops B s v N) (si:Step P pf ops R W i B s v N) (O:Yields P pf ops g (s.put B.dst v N) u d) (sj:Step P pf ops R W j g (s.put B.dst v N) u d) :
  ∃ Hj1,Yields P pf ops g s u Hj1∧Step P pf ops R W j g s u Hj1∧Yields P pf ops B (s.put g.dst u Hj1) v d∧Step P pf ops R W i B (s.put g.dst u Hj1) v d:=by
 obtain⟨a1,a2,a3⟩:=He h1;have wj:bO ops (s.put B.dst v N).fr g=bO ops s.fr g:=xD a1;have wi:∀ H2,bO ops (s.put g.dst u H2).fr B=bO ops s.fr B:=fun H2=>xD a3;have ej:∀ x∈g.op.operands,(s.put B.dst v N).eval x=s.eval x:=fun x hx=>eval_put a1 hx;have ei:∀ H2,∀ x∈B.op.operands,(s.put g.dst u H2).eval x=s.eval x:=fun H2 x hx=>eval_put a3 hx;have cj:=I5 g.op ej;have ci:=fun H2=>I5 B.op (ei H2);have evj:=IN (P:=P) (H:=N) g.op ej;have readJ:cG pf g.op=.read→Step P pf ops R W j g s u s.H:=fun q=>⟨fun hw=>(by rw[q]at hw; cases hw),fun _ hw id hid=>sj.2.1 q (by rw[wj]; exact hw) id (by rw[cj]; exact hid),xK (by rw[q]; simp),fun _ _ hw=>(by rw[q]at hw; cases hw)⟩
 have readI:cG pf B.op=.read→∀ H2 H3,Step P pf ops R W i B (s.put g.dst u H2) v H3:=fun q H2 H3=>⟨fun hw=>(by rw[q]at hw; cases hw),fun _ hw id hid=>si.2.1 q (by rw[wi]at hw; exact hw) id (by rw[ci]at hid; exact hid),xK (by rw[q]; simp),fun _ _ hw=>(by rw[q]at hw; cases hw)⟩
 have frj:∀{H2 H3:List ab} {v':AV},Yields P pf ops g ⟨(s.put B.dst v N).fr,H2⟩ v' H3→Yields P pf ops g ⟨s.fr,H2⟩ v' H3:=fun {H2 _ _} h=>(fh (s1:=⟨(s.put B.dst v N).fr,H2⟩) (s:=⟨s.fr,H2⟩) wj (fun x hx=>by
  have:=ej x hx;cases x<;>exact this) rfl).1 h
 have fri:∀{H1 H2 H3:List ab} {v':AV},Yields P pf ops B ⟨s.fr,H2⟩ v' H3→Yields P pf ops B ⟨(s.put g.dst u H1).fr,H2⟩ v' H3:=fun {H1 H2 _ _} h=>(fh (s1:=⟨(s.put g.dst u H1).fr,H2⟩) (s:=⟨s.fr,H2⟩) (wi H1) (fun x hx=>by
  have:=ei H1 x hx;cases x<;>exact this) rfl).2 h
 have toJ:N=s.H→Step P pf ops R W j g s u d:=by
  intro e;subst e;exact⟨fun hw A U=>sj.1 hw A U,fun q hw id hid=>sj.2.1 q (by rw[wj]; exact hw) id (by rw[cj]; exact hid),fun ha ht hw=>sj.2.2.1 ha ht (by rw[wj]; exact hw),
   fun M hca hw hwa σ hσ=>frj (sj.2.2.2 M hca hw (by rw[wj]; exact hwa) σ hσ)⟩
 have toI:d=N→Step P pf ops R W i B (s.put g.dst u s.H) v d:=by
  intro e;subst e;exact⟨fun hw A U=>si.1 hw A U,fun q hw id hid=>si.2.1 q (by rw[wi]at hw; exact hw) id (by rw[ci]at hid; exact hid),fun ha ht hw=>si.2.2.1 ha ht (by rw[wi]at hw; exact hw),
   fun M hca hw hwa σ hσ=>fri (si.2.2.2 M hca hw (by rw[wi]at hwa; exact hwa) σ hσ)⟩
 have old:mw pf B g=true→∃ Hj1,Yields P pf ops g s u Hj1∧Yields P pf ops B (s.put g.dst u Hj1) v d:=fun hc=>IU h1 h2 hc hi O;cases I:cG pf B.op with
 | pure =>
  obtain⟨V,g1⟩:=tU I hi;subst V;refine⟨d,(fh wj ej rfl).1 O,toJ rfl,
   (fh (s1:=s.put g.dst u d) (s:=⟨s.fr,d⟩) (wi d) (fun x hx=>by rw[ei d x hx]; cases x<;>rfl) rfl).2 (g1 d),⟨fun hw=>(by rw[I]at hw; cases hw),fun q=>(by rw[I]at q; cases q),xK (by rw[I]; simp),fun _ _ hw=>(by rw[I]at hw; cases hw)⟩⟩
 | read =>
  have V:=pd I hi;subst V;have hj':=(fh wj ej rfl).1 O;refine⟨d,hj',toJ rfl,?_,readI I _ _⟩;have key:∀ H2:List ab,St.eval ⟨s.fr,H2⟩=s.eval:=fun H2=>by funext x; cases x<;>rfl
  have same:bO ops s.fr B=some true→eF P s.eval d B.op=eF P s.eval s.H B.op:=by
   intro hw;cases J:cG pf g.op with
   | pure =>
    have:=(tU J hj').1;rw[this]
   | read =>
    have:=pd J hj';rw[this]
   | write =>
    rcases hc with hc|⟨_,_,hap⟩|⟨hw',_,_⟩|⟨hw',_,_⟩|⟨hw',_⟩|⟨hw',_⟩
    ·obtain ⟨Hj1, q1, q2⟩ := old hc
     have q3:=(fh (s1:=s.put g.dst u Hj1) (s:=⟨s.fr,Hj1⟩) (wi Hj1) (fun x hx=>by rw[ei Hj1 x hx]; cases x<;>rfl) rfl).1 q2;have e2:d=Hj1:=pd I q3;subst e2;unfold Yields at q3 hi;simp only[I,hw]at q3 hi;rw[key]at q3;rw[q3.2,hi.2]
    ·exact I4 fun id hid=>sj.1 J id (hap id (si.2.1 I hw id hid))
    ·rw [I] at hw'
     cases hw'
    ·rw [mA hw'] at I
     cases I
    ·rw [I] at hw'
     cases hw'
    ·rw [mA hw'] at I
     cases I
  refine(fh (s1:=s.put g.dst u d) (s:=⟨s.fr,d⟩) (wi d) (fun x hx=>by rw[ei d x hx]; cases x<;>rfl) rfl).2 ?_;unfold Yields at hi⊢;simp only[I]at hi⊢;cases hw:bO ops s.fr B with
  |none=>rw[hw]at hi; exact hi.elim
  | some b =>
   rw[hw]at hi;cases b with
   |false=>exact⟨hi.1,by simp⟩
   | true =>
    refine⟨by simp,?_⟩;rw[key,same hw];exact hi.2
 | write =>
  cases J:cG pf g.op with
  | pure =>
   obtain⟨V,g1⟩:=tU J O;have e1':d=N:=V;subst e1';refine⟨s.H,?_,⟨fun hw=>(by rw[J]at hw; cases hw),fun q=>(by rw[J]at q; cases q),xK (by rw[J]; simp),fun _ _ hw=>(by rw[J]at hw; cases hw)⟩,(fh (s1:=s.put g.dst u s.H) (s:=s) (wi s.H) (ei s.H) rfl).2 hi,toI rfl⟩;exact(fh (s1:=⟨(s.put B.dst v d).fr,s.H⟩) (s:=s) wj (fun x hx=>by
    have:=ej x hx;cases x<;>exact this) rfl).1 (g1 s.H)
  | read =>
   have e2:=pd J O;have e2':d=N:=e2;subst e2';refine⟨s.H,?_,readJ J,(fh (s1:=s.put g.dst u s.H) (s:=s) (wi s.H) (ei s.H) rfl).2 hi,toI rfl⟩;have same:bO ops s.fr g=some true→eF P s.eval d g.op=eF P s.eval s.H g.op:=by
    intro hw;rcases hc with hc|⟨hr',_,_⟩|⟨_,_,hap⟩|⟨_,hr',_⟩|⟨_,_,hr',_⟩|⟨_,hr',_⟩
    ·unfold mw at hc
     rw[I,J]at hc;cases hc
    ·rw [I] at hr'
     cases hr'
    ·exact I4 fun id hid=>si.1 I id (hap id (sj.2.1 J (by rw[wj]; exact hw) id (by rw[cj]; exact hid)))
    ·rw [mA hr'] at J
     cases J
    ·rw [mA (qU hr')] at J
     cases J
    ·rw [I6 hr'] at J
     cases J
   unfold Yields at O⊢;simp only[J]at O⊢;rw[wj]at O;cases hw:bO ops s.fr g with
   |none=>rw[hw]at O; exact O.elim
   | some b =>
    rw[hw]at O;cases b with
    |false=>exact⟨O.1,by simp⟩
    | true =>
     refine⟨by simp,?_⟩;rw[←same hw,←evj];exact O.2
  | write =>
   rcases hc with hc|⟨hr',_,_⟩|⟨_,hr',_⟩|⟨hai,haj,htw⟩|⟨_,hvi,haj,hca,hap⟩|⟨hai,hqj,htw,hap⟩
   ·unfold mw at hc
    rw[I,J]at hc;cases hc
   ·rw [I] at hr'
    cases hr'
   ·rw [J] at hr'
    cases hr'
   ·-- two allocations, each in its own place
    have ck:∀{f:Option Bool},f=some true→f=some false→False:=fun h1 h2=>by rw[h1]at h2; cases h2
    rcases B5 hai hi (fun hw=>(si.2.2.1 hai htw hw).1)with⟨wi',rfl,V⟩|⟨wi',idi,yi,xi,ni,z2,V⟩
    ·subst V
     refine⟨d,(fh wj ej rfl).1 O,toJ rfl,?_,⟨fun _ A _=>rfl,fun q=>(by rw[I]at q; cases q),fun _ _ _=>⟨rfl,fun _ h=>(h rfl).elim⟩,fun M=>(by rw[lr hai]at M; cases M)⟩⟩;unfold Yields;rw[wi,wi'];exact⟨rfl,rfl⟩
    ·rcases B5 haj O (fun hw => (sj.2.2.1 haj htw hw).1) with ⟨wj', rfl, e2⟩ | ⟨wj', y, yj, xj, nj, y2, e2⟩
     ·have e2' : d = N := e2
      subst e2';refine⟨s.H,?_,⟨fun _ A _=>rfl,fun q=>(by rw[J]at q; cases q),fun _ _ _=>⟨rfl,fun _ h=>(h rfl).elim⟩,fun M=>(by rw[lr haj]at M; cases M)⟩,(fh (s1:=s.put g.dst (.tuple []) s.H) (s:=s) (wi s.H) (ei s.H) rfl).2 hi,toI rfl⟩;unfold Yields;rw[wj]at wj';rw[wj'];exact⟨rfl,rfl⟩
     ·have e2' : d = N.set y xj := e2
      have y2':N[y]? = some yj:=y2;have hne:y≠idi:=by
       intro e;subst e;rw[V,bB (aL z2)]at y2';exact iY.ne ni nj (gg y2')
      have y2s:s.H[y]? = some yj:=by rw[V,aQ (Ne.symm hne)]at y2'; exact y2'
      have wjs:bO ops s.fr g=some true:=by rw[←wj]; exact wj'
      have hjj:∀ A,kept W j A→A≠y:=by
       intro A U e;subst e;have h:=sj.1 J A U;have h':d[A]? = N[A]? := h;rw[e2',bB (aL y2'),y2']at h';exact iY.ne nj nj (gg h')
      have hii:∀ A,kept W i A→A≠idi:=by
       intro A U e;subst e;have h:=si.1 I A U;rw[V,bB (aL z2),z2]at h;exact iY.ne ni ni (gg h)
      have hcomm:d=(s.H.set y xj).set idi xi:=by rw[e2',V,l9 _ _ (Ne.symm hne)]
      refine⟨s.H.set y xj,B6 wjs nj y2s,⟨fun _ A U=>aQ (Ne.symm (hjj A U)),fun q=>(by rw[J]at q; cases q),fun _ _ _=>⟨by simp,fun id hne=>?_⟩,fun M=>(by rw[lr haj]at M; cases M)⟩,?_,
       ⟨fun _ A U=>?_,fun q=>(by rw[I]at q; cases q),fun _ _ _=>⟨?_,fun id hne=>?_⟩,fun M=>(by rw[lr hai]at M; cases M)⟩⟩
      ·have e : id = y := AR fun e => hne (aQ (Ne.symm e))
       subst e;refine(sj.2.2.1 haj htw wj').2 id ?_;show d[id]? ≠ N[id]?
       rw[e2',bB (aL y2'),y2'];exact fun e=>iY.ne nj nj (gg e)
      ·rw [hcomm]
       refine B6 (s:=s.put g.dst u (s.H.set y xj)) (by rw[wi]; exact wi') ni ?_;show (s.H.set y _)[idi]? = _
       rw[aQ hne];exact z2
      ·show d[A]? = (s.H.set y _)[A]?
       rw[hcomm,aQ (Ne.symm (hii A U))]
      ·show d.length = (s.H.set y _).length
       rw[hcomm];simp
      ·have e:id=idi:=AR fun e=>hne (by
        show d[id]? = (s.H.set y _)[id]?
        rw[hcomm,aQ (Ne.symm e)])
       subst e;refine(si.2.2.1 hai htw wi').2 id ?_;rw[V,bB (aL z2),z2];exact fun e=>iY.ne ni ni (gg e)
   ·-- a call, and an allocation in a place that it does not touch
    have hih:mz ops=true:=by
     unfold mz;rw[hca];simp
    rcases I8 haj O (fun hw=>(sj.2.2.1 (qU haj) hih hw).1)with⟨wj',rfl,e2⟩|⟨wj',tj,y,zj,kj,mj,oj',y1,y2,y3,rfl,e2⟩
    ·have e2' : d = N := e2
     subst e2';refine⟨s.H,?_,⟨fun _ A _=>rfl,fun q=>(by rw[J]at q; cases q),fun _ _ _=>⟨rfl,fun _ h=>(h rfl).elim⟩,fun M=>(by rw[lr (qU haj)]at M; cases M)⟩,(fh (s1:=s.put g.dst (.tuple []) s.H) (s:=s) (wi s.H) (ei s.H) rfl).2 hi,toI rfl⟩;unfold Yields;rw[wj]at wj';rw[wj'];exact⟨rfl,rfl⟩
    ·have e2' : d = N.set y (.vec kj 1 [dM mj zj]) := e2
     have y2':N[y]? = some (.vec kj 0 []):=y2;obtain⟨e,he,hej,hid⟩:=(sj.2.2.1 (qU haj) hih wj').2 y (by
      show d[y]? ≠ N[y]?
      rw[e2',bB (aL y2'),y2'];simp)
     have hk:=hap e he hej y hid;have y2s:s.H[y]? = some (.vec kj 0 []):=by rw[←si.1 I y hk]; exact y2'
     have wjs:bO ops s.fr g=some true:=by rw[←wj]; exact wj'
     have hjj:∀ A,kept W j A→A≠y:=by
      intro A U e;subst e;have h:=sj.1 J A U;have h':d[A]? = N[A]? := h;rw[e2',bB (aL y2'),y2']at h';simp at h'
     have hfill:xL W i s.H [(y,.vec kj 1 [dM mj zj])]:=by
      intro p hp;rw[List.mem_singleton.1 hp];exact⟨hk,kj,_,y2s,rfl⟩
     have hcall:Yields P pf ops B ⟨s.fr,s.H.set y (.vec kj 1 [dM mj zj])⟩ v d∧(bO ops s.fr B=some true→∀ σ,xL W i (s.H.set y (.vec kj 1 [dM mj zj])) σ→Yields P pf ops B ⟨s.fr,mB σ (s.H.set y (.vec kj 1 [dM mj zj]))⟩ v (mB σ d)):=by
      cases hw:bO ops s.fr B with
      | none =>
       unfold Yields at hi;rw[hw]at hi;exact hi.elim
      | some b =>
       cases b with
       | false =>
        refine⟨?_,fun h=>by cases h⟩;unfold Yields at hi⊢;rw[hw]at hi;rw[show bO ops (St.mk s.fr (s.H.set y (.vec kj 1 [dM mj zj]))).fr B=some false from hw];refine⟨hi.1,?_⟩;show d=s.H.set y _
        rw[e2',hi.2]
       | true =>
        have h4:=si.2.2.2 hvi hca I hw;refine⟨?_,fun _ σ hσ=>?_⟩
        ·have := h4 _ hfill
         rw[e2'];exact this
        ·have:=h4 ((y,.vec kj 1 [dM mj zj])::σ) (by
          intro p hp;rcases List.mem_cons.1 hp with rfl|hp
          ·exact hfill _ cW
          ·obtain ⟨a2, k, r, a3, a4⟩ := hσ p hp
           refine⟨a2,k,r,?_,a4⟩;have hne:p.1≠y:=fun e=>by
            rw[e,bB (aL y2s)]at a3;simp at a3
           rwa [aQ (Ne.symm hne)]at a3)
         rw[e2'];exact this
     refine⟨s.H.set y (.vec kj 1 [dM mj zj]),I9 wjs oj' y1 y2s y3 mj,⟨fun _ A U=>aQ (Ne.symm (hjj A U)),fun q=>(by rw[J]at q; cases q),fun _ _ _=>⟨by simp,fun id hne=>?_⟩,fun M=>(by rw[lr (qU haj)]at M; cases M)⟩,fri (H1:=s.H.set y (.vec kj 1 [dM mj zj])) hcall.1,
      ⟨fun _ A U=>?_,fun q=>(by rw[I]at q; cases q),fun ha=>(by rw[lr ha]at hvi; cases hvi),fun _ _ _ hwa σ hσ=>fri (H1:=s.H.set y (.vec kj 1 [dM mj zj])) (hcall.2 (by rw[wi]at hwa; exact hwa) σ hσ)⟩⟩
     ·have e : id = y := AR fun e => hne (aQ (Ne.symm e))
      subst e;exact⟨_,he,hej,hid⟩
     ·show d[A]? = (s.H.set y _)[A]?
      have h1:N[A]? = s.H[A]? := si.1 I A U;by_cases e:A=y
      ·subst e
       rw[e2',bB (aL y2'),bB (aL y2s)]
      ·rw[e2',aQ (Ne.symm e),aQ (Ne.symm e),h1]
   ·-- an allocation in its place, and an operation that does not touch it
    rcases B5 hai hi (fun hw=>(si.2.2.1 hai htw hw).1)with⟨wi',rfl,V⟩|⟨wi',idi,yi,xi,ni,z2,V⟩
    ·subst V
     refine⟨d,(fh wj ej rfl).1 O,toJ rfl,?_,⟨fun _ A _=>rfl,fun q=>(by rw[I]at q; cases q),fun _ _ _=>⟨rfl,fun _ h=>(h rfl).elim⟩,fun M=>(by rw[lr hai]at M; cases M)⟩⟩;unfold Yields;rw[wi,wi'];exact⟨rfl,rfl⟩
    ·have hii:∀ A,kept W i A→A≠idi:=by
      intro A U e;subst e;have h:=si.1 I A U;rw[V,bB (aL z2),z2]at h;exact iY.ne ni ni (gg h)
     obtain⟨e,he,hei,hid⟩:=(si.2.2.1 hai htw wi').2 idi (by
      rw[V,bB (aL z2),z2];exact fun e=>iY.ne ni ni (gg e))
     have hk:kept W j idi:=hap e he hei idi hid;have hHi:N[idi]? = some xi:=by rw[V,bB (aL z2)]
     have hjk:d[idi]? = some xi:=by rw[sj.1 J idi hk]; exact hHi
     have hback:∃ H1,Yields P pf ops g s u H1∧d=H1.set idi xi∧H1[idi]? = some yi:=by
      cases hw:bO ops s.fr g with
      | none =>
       unfold Yields at O;rw[wj,hw]at O;exact O.elim
      | some b =>
       cases b with
       | false =>
        unfold Yields at O;rw[wj,hw]at O;refine⟨s.H,?_,?_,z2⟩
        ·unfold Yields
         rw[hw];exact⟨O.1,rfl⟩
        ·rw [O.2]
         exact V
       | true =>
        have h1:=Tb hqj O (by rw[wj]; exact hw);have h2:cT P s.eval (s.H.set idi xi) g.op=some (u,d):=by
         rw[←V];have:=IP (P:=P) (H:=N) g.op ej;rw[←this];exact h1
        obtain⟨H1,g1,g2,g3⟩:=Ta hqj z2 ni.no h2 hjk;refine⟨H1,?_,g2,g3⟩;unfold Yields;simp only[hw,J];exact .inl (.inl g1)
     obtain⟨H1,q1,q2,q3⟩:=hback;refine⟨H1,q1,⟨fun _ A U=>?_,fun q=>(by rw[J]at q; cases q),fun ha=>(by rw[S2 hqj]at ha; cases ha),fun M=>(by rw[S3 hqj]at M; cases M)⟩,?_,⟨fun _ A U=>?_,fun q=>(by rw[I]at q; cases q),fun _ _ _=>⟨?_,fun id hne=>?_⟩,fun M=>(by rw[lr hai]at M; cases M)⟩⟩
     ·by_cases hA2 : A = idi
      ·rw[hA2,q3,z2]
      ·have h3 : d[A]? = N[A]? := sj.1 J A U
       rw[q2,aQ (Ne.symm hA2),V,aQ (Ne.symm hA2)]at h3;exact h3
     ·rw [q2]
      exact B6 (s:=s.put g.dst u H1) (by rw[wi]; exact wi') ni q3
     ·show d[A]? = H1[A]?
      rw[q2,aQ (Ne.symm (hii A U))]
     ·show d.length = H1.length
      rw[q2];simp
     ·have e2:id=idi:=AR fun e2=>hne (by
       show d[id]? = H1[id]?
       rw[q2,aQ (Ne.symm e2)])
      subst e2;exact⟨e,he,hei,hid⟩
def tX(P:Program)(pf:FuncId→Bool)(ops:Array Oper)(R:iX)(W:hZ)(i:Nat)(K:St→Prop)(s:St):Prop :=
 match ops[i]? with
 |none=>K s
 |some o=>∃ v H',Yields P pf ops o s v H'∧Step P pf ops R W i o s v H'∧K (s.put o.dst v H')
def tY(P:Program)(pf:FuncId→Bool)(ops:Array Oper)(R:iX)(W:hZ)(s':St):Nat→Array Bool→St→Prop
 |0,listed,s=>kB .any ops listed=[]∧s=s'
 |fuel+1,listed,s=>(kB .any ops listed=[]→s=s')∧∀ i∈kB .any ops listed,tX P pf ops R W i (tY P pf ops R W s' fuel (listed.setIfInBounds i true)) s
theorem B7{R:iX}{W:hZ}{s':St}:∀(fuel:Nat) (listed:Array Bool) (s:St),tY P pf ops R W s' fuel listed s→qQ P pf ops s' fuel listed s
 |0,_,_,h=>h
 | fuel+1,listed,s,h=>by
  refine⟨h.1,fun i hi=>?_⟩;have h1:=h.2 i hi;unfold tX at h1;unfold qP;cases ho:ops[i]? with
  |none=>rw[ho]at h1; exact B7 fuel _ _ h1
  | some o =>
   rw[ho]at h1;obtain⟨v,H',g1,_,g2⟩:=h1;exact⟨v,H',g1,B7 fuel _ _ g2⟩
theorem Td{R:iX}{W:hZ}{s':St}{i:Nat}{g:Oper}(hi:ops[i]? = some g):∀(fuel:Nat) (listed:Array Bool) (s:St) (v:AV) (H':List ab),pe ops listed →
  (∀ j q,ops[j]? = some q→j≠i→listed.getD j true=false→waits ops ops.size j i=false→g.apart ops q=true∧q.apart ops g=true∧B4 pf ops R W i g j q) →
  i∈kB .any ops listed→Yields P pf ops g s v H'→Step P pf ops R W i g s v H'→tY P pf ops R W s' fuel (listed.setIfInBounds i true) (s.put g.dst v H')→tY P pf ops R W s' (fuel+1) listed s:=by
 intro fuel
 induction fuel with
 | zero =>
  intro listed s v H' _ _ y J I H;refine⟨fun h=>(by rw[h]at y; cases y),fun j B=>?_⟩;by_cases d:j=i
  ·subst d
   unfold tX;simp only[hi];exact⟨v,H',J,I,H⟩
  ·have := ready_mono B d
   rw[H.1]at this;cases this
 | succ fuel ih =>
  intro listed s v H' U N y J I H;refine⟨fun h=>(by rw[h]at y; cases y),fun j B=>?_⟩;by_cases d:j=i
  ·subst d
   unfold tX;simp only[hi];exact⟨v,H',J,I,H⟩
  ·have h1 := H.2 j (ready_mono B d)
   obtain⟨O,q,V,hall⟩:=mem_ready.1 B;unfold tX at h1⊢;simp only[V]at h1⊢;obtain⟨u,Hj,hyj,hsj,hrest⟩:=h1;have hnw:waits ops ops.size j i=false:=by
    cases hw:waits ops ops.size j i with
    |false=>rfl
    | true =>
     have:=BU U _ _ _ (BV B) hw;rw[IW y]at this;cases this
   obtain⟨a1,a2,a3⟩:=N j q V d O hnw;obtain⟨M,q1,q2,q3,q4⟩:=Tc a1 a2 a3 J I hyj hsj;refine⟨u,M,q1,q2,?_⟩;refine ih (listed.setIfInBounds j true) (s.put q.dst u M) v Hj (xE U B) ?_ (ready_mono y (Ne.symm d)) q3 q4 ?_
   ·intro k ok hk hki hun hno
    refine N k ok hk hki ?_ hno;by_cases hjk:j=k
    ·subst hjk; exact O
    ·rw[getD_set_ne true hjk]at hun; exact hun
   ·rw [aeR _ _ d]
    have:=IV s g.dst q.dst v u H' Hj M (He a1).2.1;rw[←this];exact hrest
def qV(P:Program)(pf:FuncId→Bool)(ops:Array Oper)(R:iX)(W:hZ):List Oper→Nat→St→St→Prop
 | [],_,s,s'=>s=s'
 |o::l,j,s,s'=>∃ v H',Yields P pf ops o s v H'∧Step P pf ops R W j o s v H'∧qV P pf ops R W l (j+1) (s.put o.dst v H') s'
def B8(pf:FuncId→Bool)(x y:Oper):Bool :=
 mw pf x y||((match cG pf x.op,cG pf y.op with
  |.read,.write=>true
  |.write,.read=>true
  |_,_=>false)||((dX x.op&&dX y.op)||((match cG pf x.op with
  |.write=>jZ x.op&&isVar y.op
  |_=>false)||(dX x.op&&iG y.op))))
theorem Te{i j:Nat}{x y:Oper}(hi:ops[i]? = some x)(d:ops[j]? = some y)(g:i<j)(hw:waits ops ops.size j i=false)(h:dX x.op=true)(k:dX y.op=true):B2 ops=true:=by
 unfold B2;refine iQ.2 ⟨j,eC.2 (gb.1 d).1,iQ.2 ⟨i,eC.2 g,?_⟩⟩;rw[hi,d];simp[h,k,hw]
theorem Tf{i j:Nat}{x y:Oper}(hi:ops[i]? = some x)(d:ops[j]? = some y)(g:i<j)(hw:waits ops ops.size j i=false)(h:dX x.op=true)(k:iG y.op=true):B3 ops=true:=by
 unfold B3;refine iQ.2 ⟨j,eC.2 (gb.1 d).1,iQ.2 ⟨i,eC.2 g,?_⟩⟩;rw[hi,d];simp[h,k,hw]
theorem Tg{i j:Nat}{x y:Oper}(hi:ops[i]? = some x)(d:ops[j]? = some y)(g:i<j)(hw:waits ops ops.size j i=false)(h:jZ x.op=true)(k:isVar y.op=true):nD ops=true:=by
 unfold nD;refine iQ.2 ⟨j,eC.2 (gb.1 d).1,iQ.2 ⟨i,eC.2 g,?_⟩⟩;rw[hi,d];simp[h,k,hw]
def qW(pf:FuncId→Bool)(ops:Array Oper):Bool :=
  aeQ ops &&
  (dv ops.size).all fun j=>(match ops[j]? with
    | some d=>(d.after.toList.all fun e => !Hd .any e||e.on<j) &&
      ((dv j).all fun i => match ops[i]? with
        |some g=>waits ops ops.size j i||(g.apart ops d&&d.apart ops g&&B8 pf g d)
        |none=>true)
    |none=>true)
def qX(ops:Array Oper)(R:iX)(W:hZ):Prop:=(∀ i id,(i,id)∈R→∀ e∈W,(i<e.1→waits ops ops.size e.1 i=false→id∉e.2.1∧id<e.2.2)∧(e.1<i→waits ops ops.size i e.1=false→id∉e.2.1∧id<e.2.2)) ∧
 (∀ e∈W,∀ e'∈W,e.1<e'.1→waits ops ops.size e'.1 e.1=false→∀ id∈e'.2.1,id∉e.2.1∧id<e.2.2) ∧
 ∀ e∈W,∀ e'∈W,e.1<e'.1→waits ops ops.size e'.1 e.1=false→∀ id∈e.2.1,id<e'.2.2
theorem Th{R:iX}{W:hZ}(k:qX ops R W){i j:Nat}{x y:Oper}(hi:ops[i]? = some x)(h:ops[j]? = some y)(g:i<j)(hw:waits ops ops.size j i=false)(d:B8 pf x y=true):B4 pf ops R W i x j y:=by
 unfold B8 at d;simp only[wK]at d;rcases d with d|d|d|d|d
 ·exact .inl d
 ·split at d
  ·rename_i h1 B
   refine .inr (.inl ⟨h1,B,fun id hid e he h=>?_⟩);subst h;exact(k.1 i id hid e he).1 g hw
  ·rename_i h1 B
   refine .inr (.inr (.inl ⟨h1,B,fun id hid e he h=>?_⟩));subst h;exact(k.1 j id hid e he).2 g hw
  ·cases d
 ·simp only [ax] at d
  refine .inr (.inr (.inr (.inl ⟨d.1,d.2,?_⟩)));unfold mz;rw[Te hi h g hw d.1 d.2];rfl
 ·split at d
  ·rename_i h1
   simp only[ax]at d;refine .inr (.inr (.inr (.inr (.inl ⟨h1,d.1,d.2,Tg hi h g hw d.1 d.2,fun e he u id hid e' q v=>?_⟩))));subst u v;exact k.2.1 e' q e he g hw id hid
  ·cases d
 ·simp only [ax] at d
  refine .inr (.inr (.inr (.inr (.inr ⟨d.1,d.2,?_,fun e he v id hid e' q u=>?_⟩))))
  ·unfold mz
   rw[Tf hi h g hw d.1 d.2];simp
  ·subst v u
   exact⟨fun hm=>(k.2.1 e he e' q g hw id hm).1 hid,k.2.2 e he e' q g hw id hid⟩
theorem I_{R:iX}{W:hZ}{s':St}(N:qW pf ops=true)(O:qX ops R W):∀(l:List Oper) (k:Nat) (listed:Array Bool) (s:St),l=ops.toList.drop k→pe ops listed→listed.size=ops.size →
  (∀ j,j<ops.size→(listed.getD j true=false↔k≤j))→qV P pf ops R W l k s s'→tY P pf ops R W s' l.length listed s
 | [],k,listed,s,u,_,I,hk,h=>by
  simp only[qV]at h;refine⟨?_,h⟩;apply aeS.2;intro j d;obtain⟨h0,o,ho,_⟩:=mem_ready.1 d;have q:j<ops.size:=(gb.1 ho).1;have:=(hk j q).1 h0;have hlen:(ops.toList.drop k).length=0:=by rw[←u]; rfl
  simp at hlen;omega
 | o::l,k,listed,s,u,J,I,hk,h=>by
  obtain⟨v,H',hy,hst,hrest⟩:=h;have h0:ops[k]? = some o:=by
   have:(ops.toList.drop k)[0]? = some o:=by rw[←u]; rfl
   simpa using this
  have q:k<ops.size:=(gb.1 h0).1;simp only[qW,ax,cM,eC]at N;obtain⟨_,y⟩:=N;have V:∀ j,j<k→listed.getD j false=true:=by
   intro j d;have U:¬ (listed.getD j true=false):=fun e=>by have:=(hk j (by omega)).1 e; omega
   have:j<listed.size:=by omega
   simp[this]at U⊢;exact U
  have B:k∈kB .any ops listed:=by
   refine mem_ready.2 ⟨(hk k q).2 (aB _),o,h0,fun e he hb=>?_⟩;have:=y k q;rw[h0]at this;simp only[ax,cM]at this;have h1:=this.1 e (by simpa using he);simp only[hb,Hg,AP,decide_eq_true_eq]at h1;exact V e.on h1
  refine Td h0 l.length listed s v H' J ?_ B hy hst ?_
  ·intro j oj d hjk hun M
   have g:j<ops.size:=(gb.1 d).1;have hkj:k≤j:=(hk j g).1 hun;have:=y j g;rw[d]at this;simp only[ax,cM,eC]at this;have h1:=this.2 k (by omega);rw[h0]at h1;simp only[M,AP,ax]at h1;exact⟨h1.1.1,h1.1.2,Th O h0 d (by omega) M h1.2⟩
  ·refine I_ (by simp only [qW, ax, cM, eC]; exact ⟨‹_›, y⟩) O l (k + 1) _ _ ?_ (xE J B) (by simpa using I) ?_ hrest
   ·rw[←oH,←u]; rfl
   ·intro j g
    by_cases e:k=j
    ·subst e
     have:k<listed.size:=by omega
     simp[this]
    ·rw [getD_set_ne true e, hk j g]
     omega
theorem Ti{R:iX}{W:hZ}{id:Nat}{s s':St}{E:Env}{a:Act}{Q:Exit→Act→World→Prop}(hm:P.follows .mixedOrders=true)(u:qW pf ops=true)(v:qX ops R W)(d:bN s E a)
  (h:qV P pf ops R W ops.toList 0 s s') (y:∀ g w',eO E s' g w'→Q .normal g w'):∀ ro:Option Nat,(Code.region id ops true).wpIn (fz ro) 0 P Q a E.w:=by
 intro ro;have q:bN s { E with w:={ E.w with drawn:=E.w.drawn+1 } } a:=⟨d.H,dw (Env.iS (Ext.drawn E.w _)) _ d.fr,w6 d.heap (Env.iS (Ext.drawn E.w _)) d.defers,d.heap.ext (Ext.drawn E.w _)⟩
 refine wpIn_region_any hm (xC (pf:=pf) _ _ s { E with w:={ E.w with drawn:=E.w.drawn+1 } } a q ?_ (fun g w' B=>y g w' (eO.after (Env.iS (Ext.drawn E.w _)) B)) ro);have:=B7 _ _ _ (I_ (P:=P) (s':=s') u v ops.toList 0 (nk ops.size false) s (by simp) (by
  intro j k;exfalso;rcases jq j ops.size with h'|h'
  ·simp[h']at k
  ·simp[Hf (xs:=nk ops.size false) (by simpa using h')]at k) (by simp) (by intro j k; simp[k]) h)
 simpa using this
end Go.AL
