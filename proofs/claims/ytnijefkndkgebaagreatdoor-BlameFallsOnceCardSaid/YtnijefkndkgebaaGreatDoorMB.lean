/-
 What is proved here: every operation that the logic knows,put together,with calls; what an operation leaves. No program in sight; no condition.
-/
import Derived.Test.YtnijefkndkgebaaGreatDoorMA
set_option linter.all false
open Array renaming ext'→eZ,getElem?_eq_some_iff→fT,toList_append→vM,getElem?_eq_none→GR,setIfInBounds_comm→agE,replicate→mG
open Bool renaming and_eq_true→aB,or_eq_true→vO,not_true→GS,false_or→zW
open Classical renaming byContradiction→agG
open Decidable renaming byContradiction→zY
open Function renaming comp_def→RG
open Go.Builtin renaming len_→RF
open Go.Call renaming operands→sD
open Go.Op renaming operands→eO
open Go.Oper renaming wpIn→ob,semAt_eq→mF,apart_spec→GQ
open Go.Region renaming wanted→GN,binds→GP,noSelect→agD,ready→j7
open Go.Result renaming andThen_ok→bX
open Go.Sem renaming run_bind→bW,run_pure→eY
open Go.Value.slice renaming injEq→jv
open List renaming length_cons→cB,getElem?_append_left→cK,getElem?_set_self→bB,getElem?_set_ne→aT,all_eq_true→cO,drop_drop→n4,map_map→pK,replicate→bM,mem_cons_self→db,nodup_cons→lI,set_comm→lJ,range→dG,map_congr_left→pP,any_eq_true→jy,eq_nil_iff_forall_not_mem→agF,mem_range→eP,set_append_left→GW
open Nat renaming le_refl→aG,lt_of_lt_of_le→dj,lt_or_ge→iV
open Option renaming map_some→eF
open Option.some renaming injEq→aZ,inj→fW
namespace Go.AL
open Go
variable [Dr]
def kW(x:Operand):Bool:=x matches .const _
def A5:AV→AV→Option AV
 |.lit (.int k a),.lit (.int _ b)=>some (.lit (.int k (if b>a then b else a)))
 |_,_=>none
def A6:AV→AV→Option AV
 |.lit (.int k a),.lit (.int _ b)=>some (.lit (.int k (if b<a then b else a)))
 |_,_=>none
def qi(f:AV→AV→Option AV):AV→List AV→Option AV
 |x,[]=>some x
 | x,y::l=>match f x y with
  |some z=>qi f z l
  |none=>none
def Td:List AV→Option AV
 | []=>none
 |x::rest=>qi A5 x rest
def Te:List AV→Option AV
 | []=>none
 |x::rest=>qi A6 x rest
def wN(k:SK)(x:AV):Option AV :=
 match k,x with
 |.str,.lit (.string s)=>some (.int s.size)
 |.slice _ _ _,.lit (.string _)=>none
 | .slice _ _ _,x=>match wg x with
  |some n=>some (.int n)
  |none=>none
 |_,_=>none
def A7(P:Program)(b:Builtin)(tys:List TypeId)(args:List AV):Option AV :=
 match b with
 | .len=>match tys[0]?,args[0]? with
  |some t,some x=>wN (b_ P t) x
  |_,_=>none
 |.max=>Td args
 |.min=>Te args
 | .cap=>match tys,args with
  | t::_,.lit (.slice none 0 0)::_=>match b_ P t with
   |.slice _ _ _=>some (.int 0)
   |_=>none
  |_,_=>none
 |_=>none
def A8(r:Operand→AV)(fn:Fn)(first caps:Array Operand):Option AV :=
 match fn with
 |.func f=>if first.toList.isEmpty then some (.clo f (caps.toList.map r)) else none
 |_=>none
def A9(P:Program)(r:Operand→AV)(c:Call):Option AV :=
 match c.callee with
 |.builtin b=>A7 P b c.argTypes.toList (c.args.toList.map r)
 |_=>none
def gA(P:Program)(r:Operand→AV):Op→Option AV
 |.move x | .assign x=>some (r x)
 | .pick c a b=>match r c with
  |.lit (.bool t)=>some (bif t then r a else r b)
  |_=>none
 | .extract t i=>match r t with
  |.tuple vs=>vs[i]?
  |_=>none
 | .field t x f=>match pX P t f with
  |some k=>AE k (r x)
  |none=>none
 | .fieldAddr t x f=>match pX P t f with
  |some k=>Ar k (r x)
  |none=>none
 |.indexAddr t x i=>kg (b_ P t) (r x) (r i)
 |.index t x i=>mQ (b_ P t) (r x) (r i)
 |.binOp op t x y _=>fY P op t (kW x||kW y) (r x) (r y)
 |.unOp op _ x=>qa op (r x)
 |.convert s d x=>qb P s d (r x)
 |.build t parts=>AG P t (parts.toList.map fun p=>(p.1,r p.2))
 |.buildSlice t n parts=>qf P t n (parts.toList.map fun p=>(p.1,r p.2))
 |.slice t x lo hi mx=>kh P t (r x) (lo.map r) (hi.map r) (mx.map r)
 |.makeFunc fn first caps=>A8 r fn first caps
 | .nilCheck x=>match r x with
  |.ptr id ae k row col=>some (.ptr id ae k row col)
  |.cptr cells=>some (.cptr cells)
  |.clo f caps=>some (.clo f caps)
  |_=>none
 | .makeInterface t _=>match P.underlying t with
  |some (.interface _)=>none
  |some _=>some .ifc
  |none=>none
 |.call c=>A9 P r c
 |_=>none
theorem oF{E:Env}{r:Operand→AV}{ρ:Operand→Value}(h:∀ x,rel E (r x) (ρ x)):∀(l:List Operand),af E (l.map r) (l.map ρ)
 | []=>by simp[af]
 |x::l=>by simp only[List.map_cons,af]; exact⟨h x,oF h l⟩
theorem A_{E:Env}{r:Operand→AV}{ρ:Operand→Value}(h:∀ x,rel E (r x) (ρ x))(o:Option Operand):mO E (o.map r) (o.map ρ):=by
 cases o with
 |none=>simp[mO]
 |some x=>simpa[mO]using h x
def fM(E:Env)(v:AV)(u:Value)(w':World):Prop:=Ext E.w w'∧rel { E with w:=w' } v u
theorem fM.same{E:Env}{v:AV}{u:Value}(h:rel E v u):fM E v u E.w:=⟨Ext.refl _,h⟩
theorem jE{P:Program}{s:Sem Value}{w w':World}{u:Value}(h:s.run P w=.ok u w'):(do pure (Next.value (← s)):Sem Next).run P w=.ok (.value u) w':=by
 simp[h]
theorem A'{P:Program}{E:Env}{f:AV→AV→Option AV}{g:Value→Value→Sem Value}
  (B:∀ x y c d z,f x y=some z→rel E x c→rel E y d→∃ u,(g c d).run P E.w=.ok u E.w∧rel E z u) :
  ∀(rest:List AV) (x:AV) (c:Value) (cs:List Value) (v:AV),rel E x c→af E rest cs→qi f x rest=some v →
   ∃ u,(cs.foldlM g c).run P E.w=.ok u E.w∧rel E v u
 | [],x,c,cs,v,q,k,h=>by
  cases cs with
  |nil=>simp[qi]at h; subst h; exact⟨c,rfl,q⟩
  |cons _ _=>simp[af]at k
 | y::rest,x,c,cs,v,q,k,h=>by
  cases cs with
  |nil=>simp[af]at k
  | cons d cs =>
   simp only[af]at k;simp only[qi]at h;split at h
   ·rename_i z I
    obtain⟨u,g1,g2⟩:=B x y c d z I q k.1;obtain⟨J,g3,g4⟩:=A' B rest z u cs v g2 k.2 h;exact⟨J,by simp only[List.foldlM_cons,bW,g1,bX]; exact g3,g4⟩
   ·cases h
theorem Tf{P:Program}{E:Env}(x y:AV)(c d:Value)(z:AV)(h:A5 x y=some z)(g:rel E x c)(k:rel E y d) :
  ∃ u,(Builtin.max2 c d).run P E.w=.ok u E.w∧rel E z u:=by
 unfold A5 at h;split at h
 ·cases h
  simp only[rel]at g k;subst g; subst k;exact⟨_,rfl,by simp[rel]⟩
 ·cases h
theorem Tg{P:Program}{E:Env}(x y:AV)(c d:Value)(z:AV)(h:A6 x y=some z)(g:rel E x c)(k:rel E y d) :
  ∃ u,(Builtin.min2 c d).run P E.w=.ok u E.w∧rel E z u:=by
 unfold A6 at h;split at h
 ·cases h
  simp only[rel]at g k;subst g; subst k;exact⟨_,rfl,by simp[rel]⟩
 ·cases h
theorem Th{P:Program}{E:Env}{b:Builtin}{tys:Array TypeId}{ty:TypeId}{consts:Array Bool}{args:List AV}{cargs:Array Value}{v:AV}
  (h:A7 P b tys.toList args=some v) (d:af E args cargs.toList):∃ u,(builtin b tys ty consts cargs).run P E.w=.ok (.value u) E.w∧rel E v u:=by
 cases b<;>simp only[A7]at h<;>try cases h
 case len =>
  split at h
  case h_2=>cases h
  rename_i t x I O;obtain⟨c,J,g⟩:=lQ d O;have q:tys[0]? = some t:=by simpa using I
  have y:cargs[0]? = some c:=by simpa using J
  unfold wN at h;split at h
  ·rename_i s hk
   cases h;simp only[rel]at g;subst g;refine⟨goInt s.size,?_,by simp[rel,goInt]⟩;simp[builtin,RF,q,y,Sem.br (oq hk)]
  ·cases h
  ·rename_i e sz M hk N
   split at h
   ·rename_i n B
    cases h;obtain⟨hu,_⟩:=fX hk;rcases R5 B g with⟨s,rfl,_⟩|⟨base,cap,rfl⟩
    ·exfalso
     unfold wg at B;split at B
     ·rename_i s'
      exact N s' rfl
     all_goals first
      |(simp[rel,dO]at g; done)
      |cases B
    ·refine ⟨goInt n, ?_, by simp [rel, goInt]⟩
     simp[builtin,RF,q,y,Sem.br hu]
   ·cases h
  ·cases h
 case max =>
  cases args with
  |nil=>cases h
  | cons x rest =>
   cases k:cargs.toList with
   |nil=>rw[k]at d; simp[af]at d
   | cons c cs =>
    rw[k]at d;simp only[af]at d;obtain⟨u,g1,g2⟩:=A' (P:=P) Tf rest x c cs v d.1 d.2 h;refine⟨u,?_,g2⟩;simp[builtin,Builtin.max_,k,g1]
 case min =>
  cases args with
  |nil=>cases h
  | cons x rest =>
   cases k:cargs.toList with
   |nil=>rw[k]at d; simp[af]at d
   | cons c cs =>
    rw[k]at d;simp only[af]at d;obtain⟨u,g1,g2⟩:=A' (P:=P) Tg rest x c cs v d.1 d.2 h;refine⟨u,?_,g2⟩;simp[builtin,Builtin.min_,k,g1]
 case cap =>
  split at h
  case h_2=>cases h
  rename_i t U as I;obtain⟨c,J,g⟩:=lQ (i:=0) d rfl;have q:tys[0]? = some t:=by
   have:tys.toList[0]? = some t:=by rw[I]; rfl
   simpa using this
  have y:cargs[0]? = some c:=by simpa using J
  simp only[rel]at g;subst g;split at h
  ·rename_i e sz M hk
   cases h;obtain⟨hu,_⟩:=fX hk;refine⟨goInt 0,?_,by simp[rel,goInt]⟩;simp[builtin,Builtin.cap_,q,y,Sem.br hu]
  ·cases h
theorem Ti{P:Program}{E:Env}(HE:au E){r:Operand→AV}{ρ:Operand→Value}(g:∀ x,rel E (r x) (ρ x)){o:Oper}{v:AV}(h:gA P r o.op=some v) :
  ∃ u w',(execOp ρ o).run P E.w=.ok (.value u) w'∧fM E v u w':=by
 obtain⟨dst,op,type,pos,after,guard⟩:=o;have same:∀{s:Sem Value},(∃ u,s.run P E.w=.ok u E.w∧rel E v u)→∃ u w',(do pure (Next.value (← s)):Sem Next).run P E.w=.ok (.value u) w'∧fM E v u w':=by
  rintro s ⟨u,g1,g2⟩;exact⟨u,E.w,jE g1,fM.same g2⟩
 cases op<;>simp only[gA]at h<;>try cases h
 case move x=>exact⟨ρ x,E.w,rfl,fM.same (g x)⟩
 case assign x=>exact⟨ρ x,E.w,rfl,fM.same (g x)⟩
 case pick c a b =>
  split at h
  ·rename_i t J
   cases h;have B:=g c;rw[J]at B;simp only[rel]at B;refine⟨if t then ρ a else ρ b,E.w,?_,?_⟩
   ·simp[execOp,B,asBool]
   ·cases t
    ·exact fM.same (g b)
    ·exact fM.same (g a)
  ·cases h
 case build t parts =>
  obtain⟨u,g1,g2⟩:=Sj (E:=E) (cparts:=parts.toList.map fun p=>(p.1,ρ p.2)) h (by simp) (by
   simp only[pK];have:=oF g (parts.toList.map (·.2));simpa[pK,RG]using this)
  have e:(parts.toList.map fun p=>(p.1,ρ p.2)).toArray=parts.map fun(i,x)=>(i,ρ x):=by
   apply eZ; simp
  rw[e]at g1;exact same ⟨u,g1,g2⟩
 case buildSlice t n parts =>
  obtain⟨u,w',g1,g2,g3⟩:=SC HE (cparts:=parts.toList.map fun p=>(p.1,ρ p.2)) h (by simp) (by
   simp only[pK];have:=oF g (parts.toList.map (·.2));simpa[pK,RG]using this)
  have e:(parts.toList.map fun p=>(p.1,ρ p.2)).toArray=parts.map fun(i,x)=>(i,ρ x):=by
   apply eZ; simp
  rw[e]at g1;exact⟨u,w',jE g1,g2,g3⟩
 case nilCheck x =>
  have q:=g x;split at h
  ·rename_i id ae k row col he
   cases h;rw[he]at q;have I:=q;simp only[rel]at I;obtain⟨⟨b,o,B⟩,_⟩:=I;exact⟨ρ x,E.w,by simp[execOp,B],fM.same q⟩
  ·rename_i cells he
   cases h;rw[he]at q;have I:=q;simp only[rel]at I;obtain⟨_,b,o,B,_⟩:=I;exact⟨ρ x,E.w,by simp[execOp,B],fM.same q⟩
  ·rename_i f caps he
   cases h;rw[he]at q;have I:=q;simp only[rel]at I;obtain⟨cs,B,_⟩:=I;exact⟨ρ x,E.w,by simp[execOp,B],fM.same q⟩
  ·cases h
 case binOp op t x y _ =>
  refine same (Sd (x:=x) (y:=y) (fun hk=>?_) h (g x) (g y));cases x<;>cases y<;>first|rfl|exact hk
 case unOp op _ x=>exact same (Se h (g x))
 case convert s d x=>exact same (Sf h (g x))
 case makeInterface t x =>
  split at h
  ·cases h
  ·rename_i d M hu
   cases h;refine same ⟨.iface t (ρ x),?_,by simp only[rel]; exact⟨_,_,rfl⟩⟩;simp only[Instr.makeInterface,bW,Sem.br hu,bX];cases d<;>first|rfl|(exact(M _ hu).elim)|(exact(M _ rfl).elim)
  ·cases h
 case makeFunc fn first caps =>
  cases fn<;>simp only[A8]at h<;>try cases h
  rename_i f;split at h
  ·rename_i O
   cases h;refine⟨.func (.func f) (first.map ρ) (caps.map ρ),E.w,rfl,fM.same ?_⟩;simp only[rel];refine⟨caps.map ρ,?_,by simpa using oF g caps.toList⟩;have:first=#[]:=by
    apply eZ;simpa using O
   simp[this]
  ·cases h
 case slice t x lo hi mx=>exact same (R' h (g x) (A_ g lo) (A_ g hi) (A_ g mx))
 case fieldAddr t x f =>
  split at h
  ·rename_i k hk; exact same (R7 hk h (g x))
  ·cases h
 case field t x f =>
  split at h
  ·rename_i k hk; exact same (Si hk h (g x))
  ·cases h
 case indexAddr t x i=>exact same (R8 HE h (g x) (g i))
 case index t x i=>exact same (Sg h (g x) (g i))
 case extract t i =>
  split at h
  ·rename_i vs J
   have q:=g t;rw[J]at q;simp only[rel]at q;obtain⟨cs,B,U⟩:=q;obtain⟨u,g1,g2⟩:=lQ U h;refine same ⟨u,?_,g2⟩;have N:cs[i]? = some u:=by simpa using g1
   simp[Instr.extract,B,N]
  ·cases h
 case call c =>
  obtain⟨callee,args,argTypes⟩:=c;cases callee<;>simp only[A9]at h<;>try cases h
  rename_i b;obtain⟨u,g1,g2⟩:=Th (P:=P) (E:=E) (b:=b) (tys:=argTypes) (ty:=type) (consts:=args.map fun | .const _=>true|_=>false) (cargs:=args.map ρ) h
   (by simpa using oF g args.toList)
  exact⟨u,E.w,by simp only[execOp,resolve,bW,eY,bX,invoke]; exact g1,fM.same g2⟩
def wO(P:Program)(r:Operand→AV)(H:List ab)(c:Call):Option (AV × List ab) :=
 match c.callee with
 | .builtin .append=>match c.args.toList,c.argTypes.toList with
  | [s,x],[t,xt]=>match oA P t xt (r s) (r x) H with
   |some y=>some y
   |none=>qc P t xt (r s) (r x) H
  |_,_=>none
 | .builtin .clear=>match c.args.toList,c.argTypes.toList with
  | [x],[t]=>match s7 P t (r x) H with
   |some H'=>some (.tuple [],H')
   |none=>none
  |_,_=>none
 | .builtin .delete=>match c.args.toList,c.argTypes.toList with
  | [x,k],t::_=>match sZ P t (r x) (r k) H with
   |some H'=>some (.tuple [],H')
   |none=>none
  |_,_=>none
 |_=>none
def cT(P:Program)(r:Operand→AV)(H:List ab):Op→Option (AV × List ab)
 |.alloc t=>ox P t H
 |.box _ x=>wD (r x) H
 | .store t a x=>match qe P t (r a) (r x) H with
  |some H'=>some (.undef,H')
  |none=>none
 |.makeSlice t l c=>sV P t (r l) (r c) H
 |.buildSlice t n parts=>s8 P t n (parts.toList.map fun p=>(p.1,r p.2)) H
 |.range t x=>wF P t (r x) H
 |.next it isString=>wG (r it) isString H
 |.makeMap _ none=>some (.map H.length,H++[.map [] 0])
 | .mapUpdate t m k v=>match kV P t (r m) (r k) (r v) H with
  |some H'=>some (.undef,H')
  | none=>match oB P t (r m) (r k) (r v) H with
   |some H'=>some (.undef,H')
   | none=>match ta P t (r m) (r k) (r v) H with
    |some H'=>some (.undef,H')
    |none=>none
 | .insert t m k v=>match kV P t (r m) (r k) (r v) H with
  |some H'=>some (.undef,H')
  |none=>none
 | .lookup t m k false=>match fB P t (r m) (r k) false H with
  |some v=>some (v,H)
  |none=>s9 P t (r m) (r k) H
 | .mapEntry t m k=>match gO P t (r m) (r k) H with
  |some y=>some y
  |none=>iF P t (r m) (r k) H
 | .entryStore _ m s x=>match jD (r m) (r s) (r x) H with
  |some H'=>some (.undef,H')
  | none=>match km (r m) (r s) (r x) H with
   |some H'=>some (.undef,H')
   |none=>none
 |.call c=>wO P r H c
 |_=>none
theorem cL.of_le{E:Env}{w':World}{H':List ab}(h1:au { w:=w',H:=H',loc:=E.loc,X:=E.X })(d:E.le { w:=w',H:=H',loc:=E.loc,X:=E.X })(u:Value) :
  cL E .undef H' u w':=⟨E.loc,E.X.r,by simp[rel],h1,d⟩
theorem fM.toOp{E:Env}(HE:au E){v:AV}{u:Value}{w':World}(h:fM E v u w'):cL E v E.H u w' :=
 ⟨E.loc,E.X.r,h.2,HE.ext h.1,Env.iD h.1⟩
theorem Tj{P:Program}{E:Env}(HE:au E){r:Operand→AV}{ρ:Operand→Value}(d:∀ x,rel E (r x) (ρ x)){o:Oper}{v:AV}{H':List ab}
  (h:cT P r E.H o.op=some (v,H')) :
  ∃ n u w',(execOp ρ o).run P E.w=.ok n w'∧(n=.value u∨n=.skip∧u=undef)∧cL E v H' u w':=by
 obtain⟨dst,op,type,pos,after,guard⟩:=o;have same:∀{s:Sem Value},(∃ u w',s.run P E.w=.ok u w'∧cL E v H' u w') →
   ∃ n u w',(do pure (Next.value (← s)):Sem Next).run P E.w=.ok n w'∧(n=.value u∨n=.skip∧u=undef)∧cL E v H' u w':=by
  rintro s ⟨u,w',g1,g2⟩;exact⟨_,u,w',jE g1,.inl rfl,g2⟩
 cases op<;>simp only[cT]at h<;>try cases h
 case alloc t=>exact same (Su HE h)
 case box t x=>exact same (Sz HE h (d x))
 case store t a x =>
  split at h
  ·rename_i H1 g
   cases h;obtain⟨w',g1,g2,g3⟩:=HI HE g (d a) (d x);exact⟨.skip,undef,w',by simp[execOp,g1],.inr ⟨rfl,rfl⟩,cL.of_le g2 g3 _⟩
  ·cases h
 case makeSlice t l c=>exact same (SB HE h (d l) (d c))
 case buildSlice t n parts =>
  obtain⟨u,w',g1,g2⟩:=SQ HE (cparts:=parts.toList.map fun p=>(p.1,ρ p.2)) h (by simp) (by
   simp only[pK];have:=oF d (parts.toList.map (·.2));simpa[pK,RG]using this)
  have e:(parts.toList.map fun p=>(p.1,ρ p.2)).toArray=parts.map fun(i,x)=>(i,ρ x):=by
   apply eZ; simp
  rw[e]at g1;exact same ⟨u,w',g1,g2⟩
 case range t x=>exact same (SE HE h (d x))
 case next it isString=>exact same (SF HE h (d it))
 case makeMap t res =>
  cases res with
  |some _=>cases h
  | none =>
   cases h;exact same ⟨_,_,by simp[Instr.makeMap,newObj]; rfl,SH HE⟩
 case mapUpdate t m k x =>
  split at h
  ·rename_i H1 g
   cases h;obtain⟨w',g1,g2,g3⟩:=H5 HE g (d m) (d k) (d x);exact⟨.skip,undef,w',by simp[execOp,g1],.inr ⟨rfl,rfl⟩,cL.of_le g2 g3 _⟩
  ·split at h
   ·rename_i H1 g
    cases h;obtain⟨w',g1,g2⟩:=SZ HE g (d m) (d k) (d x);exact⟨.skip,undef,w',by simp[execOp,g1],.inr ⟨rfl,rfl⟩,g2 _⟩
   ·split at h
    ·rename_i H1 g
     cases h;obtain⟨w',g1,g2,g3⟩:=S' HE g (d m) (d k) (d x);exact⟨.skip,undef,w',by simp[execOp,g1],.inr ⟨rfl,rfl⟩,cL.of_le g2 g3 _⟩
    ·cases h
 case lookup t m k ok =>
  cases ok with
  |true=>cases h
  | false =>
   simp only[]at h;split at h
   ·rename_i v1 U
    cases h;obtain⟨u,g1,g2⟩:=HV HE U (d m) (d k);exact same ⟨u,_,g1,fM.toOp HE ⟨Ext.refl _,g2⟩⟩
   ·exact same (SY HE h (d m) (d k))
 case mapEntry t m k =>
  split at h
  ·rename_i y B
   cases h;exact same (S3 HE B (d m) (d k))
  ·exact same (Ta HE h (d m) (d k))
 case entryStore t m s x =>
  split at h
  ·rename_i H1 g
   cases h;obtain⟨w',g1,g2⟩:=S4 (P:=P) (t:=t) HE g (d m) (d s) (d x);exact⟨.skip,undef,w',by simp[execOp,g1],.inr ⟨rfl,rfl⟩,g2 _⟩
  ·split at h
   ·rename_i H1 g
    cases h;obtain⟨w',g1,g2⟩:=Tc (P:=P) (t:=t) HE g (d m) (d s) (d x);exact⟨.skip,undef,w',by simp[execOp,g1],.inr ⟨rfl,rfl⟩,g2 _⟩
   ·cases h
 case insert t m k x =>
  split at h
  ·rename_i H1 g
   cases h;obtain⟨w',g1,g2,g3⟩:=H5 HE g (d m) (d k) (d x);exact⟨.skip,undef,w',by simp[execOp,g1],.inr ⟨rfl,rfl⟩,cL.of_le g2 g3 _⟩
  ·cases h
 case call c =>
  obtain⟨callee,args,argTypes⟩:=c;unfold wO at h;split at h
  ·rename_i q
   simp only[]at q;subst q;simp only[]at h;split at h
   case h_2=>cases h
   rename_i s x t xt J M;have I:args=#[s,x]:=by apply eZ; simpa using J
   have N:argTypes=#[t,xt]:=by apply eZ; simpa using M
   subst I;subst N;split at h
   ·rename_i y B
    cases h;obtain⟨u,w',g1,g2⟩:=SP (P:=P) (ty:=type) HE B (d s) (d x);refine⟨.value u,u,w',?_,.inl rfl,g2⟩;simp[execOp,resolve,invoke,builtin,g1]
   ·obtain ⟨u, w', g1, g2⟩ := Sq (P := P) (ty := type) HE h (d s) (d x)
    refine⟨.value u,u,w',?_,.inl rfl,g2⟩;simp[execOp,resolve,invoke,builtin,g1]
  ·rename_i q
   simp only[]at q;subst q;simp only[]at h;split at h
   case h_2=>cases h
   rename_i x t J M;have I:args=#[x]:=by apply eZ; simpa using J
   have N:argTypes=#[t]:=by apply eZ; simpa using M
   subst I;subst N;split at h
   ·rename_i H1 B
    cases h;obtain⟨w',g1,g2,g3⟩:=SN (P:=P) (ty:=type) (tys:=#[t]) (cs:=#[ρ x]) HE B rfl rfl (d x);refine⟨.value (.tuple #[]),.tuple #[],w',?_,.inl rfl,E.loc,E.X.r,by simp[rel,af],g2,g3⟩;simp[execOp,resolve,invoke,builtin,g1]
   ·cases h
  ·rename_i q
   simp only[]at q;subst q;simp only[]at h;split at h
   case h_2=>cases h
   rename_i x k t V J M;have I:args=#[x,k]:=by apply eZ; simpa using J
   subst I;split at h
   ·rename_i H1 B
    cases h;have O:argTypes[0]? = some t:=by
     have:argTypes.toList[0]? = some t:=by rw[M]; rfl
     simpa using this
    obtain⟨w',g1,g2,g3⟩:=SL (P:=P) (ty:=type) (tys:=argTypes) (cs:=#[ρ x,ρ k]) HE B O rfl rfl (d x) (d k);refine⟨.value (.tuple #[]),.tuple #[],w',?_,.inl rfl,E.loc,E.X.r,by simp[rel,af],g2,g3⟩;simp[execOp,resolve,invoke,builtin,g1]
   ·cases h
  ·cases h
def tb(P:Program)(f:FuncId)(args:List AV)(H:List ab)(Q:AV→List ab→Prop):Prop :=
 ∀(E:Env) (cargs:Array Value),E.H=H→au E→af E args cargs.toList →
  Calls P f cargs E.w fun e w'=>∃ c v H',e=.returned c∧Q v H'∧cL E v H' c w'
def cH(P:Program)(f:FuncId)(args:List AV)(v:AV):Prop:=∀ H,tb P f args H fun d H'=>d=v∧H'=H
theorem tb.mono{P:Program}{f:FuncId}{args:List AV}{H:List ab}{Q d:AV→List ab→Prop}(h:tb P f args H Q)(g:∀ v H',Q v H'→d v H'):tb P f args H d :=
 fun E cargs h1 k u=>(h E cargs h1 k u).mono fun _ _ ⟨c,v,H',e,q,r⟩=>⟨c,v,H',e,g v H' q,r⟩
def eS(P:Program)(f:FuncId):Bool :=
 match P.funcs[f]? with
 |some fn => !(fn.name == "runtime.NumGoroutine")&&fn.body.isSome
 |none=>false
theorem Ba{P:Program}{f:FuncId}(h:eS P f=true)(args:Array Value)(w:World):(callFunc f args).run P w=.ok (.enter f args) w:=by
 unfold eS at h;split at h
 ·rename_i fn d
  simp only[aB,Bool.not_eq_true']at h;have h1:fn.name ≠ "runtime.NumGoroutine" := by simpa using h.1
  have g:fn.body≠none:=fun e=>by rw[e]at h; simp at h
  simp[callFunc,d,h1,g]
 ·cases h
def Bb(r:Operand→AV)(c:Call):Option (FuncId × List AV) :=
 match c.callee with
 | .value g=>match r g with
  |.clo f caps=>some (f,c.args.toList.map r++caps)
  |_=>none
 |_=>none
def gP(r:Operand→AV):Op→Option (FuncId × List AV)
 |.call c=>Bb r c
 |_=>none
theorem Il{P:Program}{E:Env}{r:Operand→AV}{ρ:Operand→Value}(k:∀ x,rel E (r x) (ρ x)){o:Oper}{f:FuncId}{args:List AV}
  (h:gP r o.op=some (f,args)) (hb:eS P f=true):∃ cargs:Array Value,(execOp ρ o).run P E.w=.ok (.enter f cargs) E.w∧af E args cargs.toList:=by
 obtain⟨dst,op,type,pos,after,guard⟩:=o;cases op<;>simp only[gP]at h<;>try cases h
 rename_i c;obtain⟨callee,as,argTypes⟩:=c;cases callee<;>simp only[Bb]at h<;>try cases h
 rename_i g;split at h
 case h_2=>cases h
 rename_i y caps q;cases h;have d:=k g;rw[q]at d;simp only[rel]at d;obtain⟨cs,u,v⟩:=d;refine⟨as.map ρ++cs,?_,?_⟩
 ·simp[execOp,resolve,u,Deferred.ofValue,invoke,Ba hb]
 ·simp only [vM, Array.toList_map]
  exact jC (oF k as.toList) v
end Go.AL

namespace Go.AL
open Go
variable [Dr]
inductive Tk where
 |pure|read|write
 deriving DecidableEq
def Tl(pf:FuncId→Bool)(c:Call):Bool :=
 match c.argTypes.toList with
 | [t]=>pf (t+1000000)
 |_=>false
def cI(pf:FuncId→Bool):Op→Tk
 |.load ..=>.read
 |.lookup t _ _ _=>if pf (t+1500000) then .write else .read
 |.buildSlice t n _=>if pf (t+100000*n+2000000) then .write else .pure
 |.alloc .. | .box .. | .store .. | .makeSlice .. | .mapUpdate .. | .insert .. | .makeMap .. | .mapEntry .. | .entryStore .. | .range .. | .next .. | .entry ..=>.write
 |.go .. | .defer .. | .panic .. | .send .. | .recv .. | .select .. | .makeChan .. | .ready .. | .waits ..=>.write
 | .call c=>match c.callee with
  | .builtin .len=>match Tl pf c with
   |true=>.read
   |false=>.pure
  |.builtin .max | .builtin .min | .builtin .cap=>.pure
  |.value (.func f)=>if pf f then .pure else .write
  |_=>.write
 |_=>.pure
def mT(P:Program)(r:Operand→AV)(H:List ab)(c:Call):Option AV :=
 match c.callee,c.args.toList,c.argTypes.toList with
 | .builtin .len,[a],[t]=>match cW P t,r a with
  | some _,.map id=>match H[id]? with
   |some (.map es _)=>some (.int es.length)
   |_=>none
  |_,_=>none
 |_,_,_=>none
theorem Tm{P:Program}{E:Env}(HE:au E){r:Operand→AV}{ρ:Operand→Value}(I:∀ x,rel E (r x) (ρ x)){o:Oper}{c:Call}{v:AV}(ho:o.op=.call c)(h:mT P r E.H c=some v) :
  ∃ u,(execOp ρ o).run P E.w=.ok (.value u) E.w∧rel E v u:=by
 obtain⟨dst,op,type,pos,after,guard⟩:=o;subst ho;obtain⟨callee,args,argTypes⟩:=c;unfold mT at h;split at h
 case h_2=>cases h
 rename_i a t g d k;simp only[]at g d k;subst g;have y:args=#[a]:=by apply eZ; simpa using d
 have B:argTypes=#[t]:=by apply eZ; simpa using k
 subst y;subst B;split at h
 case h_2=>cases h
 rename_i p id J hid;split at h
 case h_2=>cases h
 rename_i es cl hH;cases h;have q:=I a;rw[hid]at q;obtain⟨b,n,ms,M,h1,N,O⟩:=oy HE hH q;obtain⟨W,et⟩:=p;have U:=(dT.1 O).1;have V:(getObj b).run P E.w=.ok (.map ms cl) E.w:=by simp[getObj,Sem.run,N]
 refine⟨goInt ms.size,?_,by simp[rel,goInt,U]⟩;simp only[execOp,resolve,bW,eY,bX,invoke];simp[builtin,RF,Sem.br (e_ J),M,V]
def ev(P:Program)(r:Operand→AV)(H:List ab):Op→Option AV
 |.load t a=>gK P t (r a) H
 | .lookup t m k ok=>match fB P t (r m) (r k) ok H with
  |some v=>some v
  |none=>ja P t (r m) (r k) ok H
 |.call c=>mT P r H c
 |_=>none
theorem Tn{P:Program}{E:Env}(HE:au E){r:Operand→AV}{ρ:Operand→Value}(d:∀ x,rel E (r x) (ρ x)){o:Oper}{v:AV}(h:ev P r E.H o.op=some v) :
  ∃ u,(execOp ρ o).run P E.w=.ok (.value u) E.w∧rel E v u:=by
 obtain⟨dst,op,type,pos,after,guard⟩:=o;cases op<;>simp only[ev]at h<;>try cases h
 case load t a =>
  obtain⟨u,g1,g2⟩:=Hl HE h (d a);exact⟨u,jE g1,g2⟩
 case lookup t m k ok =>
  split at h
  ·rename_i v1 h1
   cases h;obtain⟨u,g1,g2⟩:=HV HE h1 (d m) (d k);exact⟨u,jE g1,g2⟩
  ·obtain ⟨u, g1, g2⟩ := S9 HE h (d m) (d k)
   exact⟨u,jE g1,g2⟩
 case call c=>exact Tm HE d rfl h
def dv(P:Program)(f:FuncId)(args:List AV)(H:List ab)(v:AV)(H':List ab):Prop:=tb P f args H fun v1 H1=>v1=v∧H1=H'
def bO(ops:Array Oper)(fr:List AV)(o:Oper):Option Bool :=
 match o.guard with
 |none=>some true
 | some (j,want)=>match (ops[j]?).bind (·.dst) with
  | some t=>match fr[t]? with
   |some (.lit (.bool b))=>some (b==want)
   |some (.tuple [])=>some false
   |_=>none
  |none=>none
def To(H:List ab)(v v1:AV)(H1:List ab):Prop :=
 ∃(id ae:Nat) (ks:List Kd) (rows:List (List G)),v=.vec ks.length id ae 0 rows.length∧H[id]? = some (.vec ks.length ae (rows.map (aJ ks)))∧v1=.listF ks rows∧H1=H.set id .dead
theorem Im{E:Env}(HE:au E){id ae:Nat}{ks:List Kd}{rows:List (List G)} (hid:E.H[id]? = some (.vec ks.length ae (rows.map (aJ ks)))) {c:Value} (h:rel E (.vec ks.length id ae 0 rows.length) c) :
  rel { w:=E.w,H:=E.H.set id .dead,loc:=E.loc.set id none,X:=E.X } (.listF ks rows) c:=by
 have hle:=Env.pW HE id;have ho:=HE.obj id _ hid;rw[iC];simp only[rel]at h⊢;obtain⟨⟨base,cap,rfl,y,_⟩,_,q⟩:=h;obtain⟨N,I⟩:=q ⟨_,hid,rfl⟩;have u:eQ (rows.map (aJ ks)):=by
  intro r h;obtain⟨g,_,rfl⟩:=List.mem_map.1 h;exact fy ks g
 refine⟨u,base,cap,by simp,by simpa using y,?_⟩;simp only[aN]at ho;rcases ho with⟨h1,v⟩|⟨b,mm,h1,v,q,_,J⟩
 ·exact .inl v
 ·obtain ⟨g1, o, g2, g3⟩ := I b mm h1
  by_cases hm:rows=[]
  ·subst hm; exact .inl rfl
  ·right
   have:0<rows.length:=by cases rows with|nil=>exact(hm rfl).elim|cons _ _=>simp
   simp at q;have ho:=g2 (by omega);simp at ho;subst ho;simp only[jv]at g3;refine⟨b,0,g3.1,⟨(HE.lt id b mm h1).1,?_,(HE.lt id b mm h1).2⟩,ka hle.toC _ u rfl J⟩;rintro(⟨j,M,d⟩|⟨l,k,M,d⟩)
   case inr=>exact HE.cN _ _ _ _ _ _ h1 d
   simp only[List.getElem?_set]at d;split at d
   ·split at d<;>cases d
   ·rename_i B
    exact B (HE.inj _ _ _ _ _ h1 d)
def qj(P:Program)(r:Operand→AV)(H:List ab)(v:AV)(H':List ab):Op→Prop
 |.store t a x=>∃ v1 H1,To H (r x) v1 H1∧qe P t (r a) v1 H1=some H'∧v=.undef
 |_=>False
theorem Tp{P:Program}{r r':Operand→AV}{H:List ab}{v:AV}{H':List ab}(o:Op)(h:∀ x∈o.operands,r x=r' x):qj P r H v H' o=qj P r' H v H' o:=by
 cases o<;>try rfl
 rename_i t a x;simp only[qj];rw[h a (by simp[eO]),h x (by simp[eO])]
theorem Tq{P:Program}{E:Env}(HE:au E){r:Operand→AV}{ρ:Operand→Value}(d:∀ x,rel E (r x) (ρ x)){o:Oper}{v:AV}{H':List ab}(h:qj P r E.H v H' o.op) :
  ∃ w',(execOp ρ o).run P E.w=.ok .skip w'∧cL E v H' undef w':=by
 obtain⟨dst,op,type,pos,after,guard⟩:=o;cases op<;>try exact h.elim
 rename_i t a x;obtain⟨v1,H1,⟨id,ae,ks,rows,h1,g,rfl,rfl⟩,q,rfl⟩:=h;have k:=d x;rw[h1]at k;have hle:=Env.pW HE id;obtain⟨w',g1,g2,g3⟩:=HI (E:={ w:=E.w,H:=E.H.set id .dead,loc:=E.loc.set id none,X:=E.X }) (au.drop HE id fun o ho=>by rw[g]at ho; cases ho; rfl) q (bP hle _ (d a)) (Im HE g k);have g1:(Instr.storeAt t (ρ a) (ρ x)).run P E.w=.ok () w':=g1;exact⟨w',by simp[execOp,g1],E.loc.set id none,E.X.r,by simp[rel],g2,hle.trans g3⟩
def Yields(P:Program)(pf:FuncId→Bool)(ops:Array Oper)(o:Oper)(s:St)(v:AV)(H':List ab):Prop :=
 match bO ops s.fr o with
 |none=>False
 |some false=>v=.tuple []∧H'=s.H
 | some true=>match cI pf o.op with
  |.pure=>H'=s.H∧(gA P s.eval o.op=some v∨∃ f args,gP s.eval o.op=some (f,args)∧eS P f=true∧cH P f args v)
  |.read=>H'=s.H∧ev P s.eval s.H o.op=some v
  |.write=>(cT P s.eval s.H o.op=some (v,H')∨∃ f args,gP s.eval o.op=some (f,args)∧eS P f=true∧dv P f args s.H v H')∨(((∃ t id m,o.op=.alloc t∧mR P t id m s.H=some (v,H'))∨∃ t id,o.op=.makeMap t none∧oz id s.H=some (v,H'))∨qj P s.eval s.H v H' o.op)
def iG(fr:List AV)(dst:Option Tmp)(v:AV):List AV :=
 match dst with
 |some d=>fr.set d v
 |none=>fr
def St.put(s:St)(dst:Option Tmp)(v:AV)(H':List ab):St:=⟨iG s.fr dst v,H'⟩
theorem wP{E:Env}:∀{as:List AV} {vs:List Value} {a:AV} {v:Value} (d:Nat),af E as vs→rel E a v→af E (as.set d a) (vs.set d v)
 | [],[],_,_,_,_,_=>by simp[af]
 | [],_::_,_,_,_,h,_=>by simp[af]at h
 |_::_,[],_,_,_,h,_=>by simp[af]at h
 |_::as,_::vs,a,v,0,h,g=>by simp only[af]at h; simp only[List.set_cons_zero,af]; exact⟨g,h.2⟩
 |_::as,_::vs,a,v,d+1,h,g=>by simp only[af]at h; simp only[List.set_cons_succ,af]; exact⟨h.1,wP d h.2 g⟩
theorem Io{E E':Env}{s:St}{a:Act}(h:af E s.fr a.tmps.toList)(hle:E.le E')(dst:Option Tmp){v:AV}{u:Value}(g:rel E' v u) :
  af E' (iG s.fr dst v) (a.put dst u).tmps.toList:=by
 have h':=du hle _ h;cases dst with
 |none=>exact h'
 | some d =>
  simp only[iG,Act.put,Array.toList_setIfInBounds];exact wP d h' g
def fz(r:Option Nat):Fence:={ Fence.wide with round:=r }
theorem Ip{r:Option Nat}{n:Nat}{P:Program}{f:FuncId}{args:Array Value}{w:World}{R:Ending→World→Prop}(h:Calls P f args w R):CallsIn (fz r) n P f args w R:=(callsIn_wide (n:=n)).2 h
theorem put_defers(a:Act)(dst:Option Tmp)(v:Value):(a.put dst v).defers=a.defers:=by cases dst<;>rfl
theorem Iq{ops:Array Oper}{s:St}{E:Env}{a:Act}(h:bN s E a){o:Oper}{b:Bool}(hw:bO ops s.fr o=some b) :
  GN o (yielded ops a.tmps)=b:=by
 unfold bO at hw;unfold GN;cases g:o.guard with
 |none=>rw[g]at hw; simpa using hw
 | some q =>
  obtain⟨j,want⟩:=q;rw[g]at hw;simp only[]at hw⊢;split at hw
  case h_2=>cases hw
  rename_i t k;split at hw
  ·rename_i v hb
   cases hw;obtain⟨u,g1,g2⟩:=lQ h.fr hb;simp only[rel]at g2;subst g2;have d:a.tmps[t]? = some (.bool v):=by simpa using g1
   simp[yielded,k,d]
  ·rename_i hb
   cases hw;obtain⟨u,g1,g2⟩:=lQ h.fr hb;simp only[rel]at g2;obtain⟨cs,rfl,_⟩:=g2;have d:a.tmps[t]? = some (.tuple cs):=by simpa using g1
   simp[yielded,k,d]
  ·cases hw
def eI(E:Env)(s':St)(g:Act)(w':World):Prop :=
 ∃ d r',bN s' { w:=w',H:=s'.H,loc:=d,X:=E.X.re r' } g∧E.le { w:=w',H:=s'.H,loc:=d,X:=E.X.re r' }
theorem Bc{P:Program}{pf:FuncId→Bool}{ops:Array Oper}{s:St}{E:Env}{a:Act}(g:bN s E a){i:Nat}{o:Oper}(hi:ops[i]? = some o){v:AV}{H':List ab}
  (d:Yields P pf ops o s v H') {K:Act→World→Prop} {Q:Exit→Act→World→Prop} (O:∀ M w',eI E (s.put o.dst v H') M w'→K M w') (ro:Option Nat):wpOpIn (fz ro) 0 P ops Q i K a E.w:=by
 have y:=g.eval;have hH:=g.H;have fin:∀{u:Value} {w':World},cL E v H' u w'→K (a.put o.dst u) w':=by
  rintro u w' ⟨N,r',h1,B,q⟩;exact O _ _ ⟨N,r',⟨rfl,Io g.fr q o.dst h1,by rw[put_defers]; exact we g.heap q g.defers,B⟩,q⟩
 have pure':H'=s.H→∀{u:Value} {w':World},fM E v u w'→cL E v H' u w':=by
  intro e u w' I;have:=I.toOp g.heap;rw[hH,←e]at this;exact this
 have J:(fz ro).depth.isSome=true→1≤0:=fun h=>by cases h
 unfold wpOpIn;simp only[hi];unfold Yields at d;split at d
 ·cases d
 ·rename_i hw
  rw[Iq g hw];simp only[Bool.false_eq_true,if_false];obtain⟨rfl,e⟩:=d;refine⟨fun _ _=>trivial,fin ?_⟩;rw[e,←hH];exact⟨E.loc,E.X.r,by simp only[rel]; exact⟨#[],rfl,by simp[af]⟩,g.heap,Env.le.refl E⟩
 ·rename_i hw
  rw[Iq g hw];simp only[if_true];split at d
  ·obtain ⟨e, d⟩ := d
   rcases d with d|⟨f,args,h1,B,q⟩
   ·have k : ∀ c, o.op ≠ .defer c := fun c e => by rw [e] at d; cases d
    obtain⟨u,w',g1,g2⟩:=Ti g.heap y d;unfold ob;rw[mF _ _ _ k,g1];exact⟨fun _ _=>trivial,fin (pure' e g2)⟩
   ·have k : ∀ c, o.op ≠ .defer c := fun c e => by rw [e] at h1; cases h1
    obtain⟨cargs,g1,g2⟩:=Il y h1 B;unfold ob;rw[mF _ _ _ k,g1];refine⟨fun _ _=>trivial,J,Ip ((q s.H E cargs hH g.heap g2).mono ?_)⟩;rintro _ w' ⟨c,U,H1,rfl,⟨rfl,rfl⟩,I⟩;exact fin (by rw[e]; exact I)
  ·obtain ⟨e, d⟩ := d
   rw[←hH]at d;have k:∀ c,o.op≠.defer c:=fun c e=>by rw[e]at d; cases d
   obtain⟨u,g1,g2⟩:=Tn g.heap y d;unfold ob;rw[mF _ _ _ k,g1];exact⟨fun _ _=>trivial,fin (pure' e (fM.same g2))⟩
  ·rcases d with (d | ⟨f, args, h1, B, q⟩) | (⟨t, id, m, ho, d⟩ | ⟨t, id, ho, d⟩) | d
   ·have k : ∀ c, o.op ≠ .defer c := fun c e => by rw [e] at d; cases d
    rw[←hH]at d;obtain⟨n,u,w',g1,g2,g3⟩:=Tj g.heap y d;unfold ob;rw[mF _ _ _ k,g1];rcases g2 with rfl|⟨rfl,rfl⟩
    ·exact⟨fun _ _=>trivial,fin g3⟩
    ·exact⟨fun _ _=>trivial,fin g3⟩
   ·have k : ∀ c, o.op ≠ .defer c := fun c e => by rw [e] at h1; cases h1
    obtain⟨cargs,g1,g2⟩:=Il y h1 B;unfold ob;rw[mF _ _ _ k,g1];refine⟨fun _ _=>trivial,J,Ip ((q E cargs hH g.heap g2).mono ?_)⟩;rintro _ w' ⟨c,U,H1,rfl,⟨rfl,rfl⟩,I⟩;exact fin I
   ·rw [← hH] at d
    obtain⟨u,w',g1,g2⟩:=Sy g.heap d;unfold ob;obtain⟨dst,op,type,pos,after,guard⟩:=o;simp only[]at ho;subst ho;have g3:(execOp a.eval ⟨dst,.alloc t,type,pos,after,guard⟩).run P E.w=.ok (.value u) w':=jE g1;rw[mF _ _ _ (fun c e=>by cases e),g3];exact⟨fun _ _=>trivial,fin g2⟩
   ·rw [← hH] at d
    obtain⟨u,w',g1,g2⟩:=SJ (P:=P) (t:=t) g.heap d;unfold ob;obtain⟨dst,op,type,pos,after,guard⟩:=o;simp only[]at ho;subst ho;have g3:(execOp a.eval ⟨dst,.makeMap t none,type,pos,after,guard⟩).run P E.w=.ok (.value u) w':=jE g1;rw[mF _ _ _ (fun c e=>by cases e),g3];exact⟨fun _ _=>trivial,fin g2⟩
   ·have k : ∀ c, o.op ≠ .defer c := fun c e => by rw [e] at d; exact d
    rw[←hH]at d;obtain⟨w',g1,g2⟩:=Tq g.heap y d;unfold ob;rw[mF _ _ _ k,g1];exact⟨fun _ _=>trivial,fin g2⟩
def fD(P:Program)(pf:FuncId→Bool)(ops:Array Oper):List Oper→St→St→Prop
 | [],s,s'=>s'=s
 |o::rest,s,s'=>∃ v H',Yields P pf ops o s v H'∧fD P pf ops rest (s.put o.dst v H') s'
theorem eI.after{E E':Env}{s':St}{d:Act}{w':World}(h:E.le E')(h':eI E' s' d w'):eI E s' d w':=by
 obtain⟨g,r',k,q⟩:=h';refine⟨g,r',?_,?_⟩
 ·rw[←XS.G' h.X]; exact k
 ·rw[←XS.G' h.X]; exact h.trans q
theorem eI.refl{s:St}{E:Env}{a:Act}(h:bN s E a):eI E s a E.w:=by
 obtain⟨w,H,loc,X⟩:=E;have:=h.H;simp only at this;subst this;exact⟨loc,X.r,h,Env.le.refl _⟩
theorem wQ{P:Program}{pf:FuncId→Bool}{ops:Array Oper}{Q:Exit→Act→World→Prop}:∀(l:List Oper) (k:Nat) (s s':St) (E:Env) (a:Act),
  l=ops.toList.drop k→fD P pf ops l s s'→bN s E a→(∀ d w',eI E s' d w'→Q .normal d w')→∀ ro:Option Nat,wpOpsIn (fz ro) 0 P ops Q (List.range' k l.length) a E.w
 | [],k,s,s',E,a,_,h,g,q,ro=>by
  simp only[fD]at h;subst h;exact q _ _ (eI.refl g)
 | o::l,k,s,s',E,a,u,h,g,q,ro=>by
  obtain⟨v,H',J,y⟩:=h;simp only[cB,List.range'_succ];rw[wpOpsIn_cons];have hk:ops[k]? = some o:=by
   have:(ops.toList.drop k)[0]? = some o:=by rw[←u]; rfl
   simpa using this
  refine Bc g hk J (fun d w' M=>?_) ro;obtain⟨B,r',h1,N⟩:=M;refine wQ l (k+1) _ s' { w:=w',H:=H',loc:=B,X:=E.X.re r' } d ?_ y h1 (fun a2 O I=>q a2 O ?_) ro
  ·rw[←n4,←u]; rfl
  ·exact eI.after N I
/-! ### d in any order -/
def waits(ops:Array Oper):Nat→Nat→Nat→Bool
 |0,_,_=>false
 | n+1,j,i=>match ops[j]? with
  |some o=>o.after.toList.any fun e=>GP .any e&&(e.on==i||waits ops n e.on i)
  |none=>false
def dU:Op→Bool
 |.alloc _=>true
 |.makeMap _ none=>true
 |_=>false
def lW(pf:FuncId→Bool)(x y:Oper):Bool :=
 match cI pf x.op,cI pf y.op with
 |.pure,_|_,.pure | .read,.read=>true
 |.read,.write=>dU y.op
 |_,_=>false
def qk(pf:FuncId→Bool)(ops:Array Oper):Bool :=
  agD ops &&
  (dG ops.size).all fun j=>(match ops[j]? with
    | some d=>(d.after.toList.all fun e => !GP .any e||e.on<j) &&
      ((dG j).all fun i => match ops[i]? with
        |some g=>waits ops ops.size j i||(g.apart ops d&&d.apart ops g&&lW pf g d)
        |none=>true)
    |none=>true)
def ql(P:Program)(pf:FuncId→Bool)(ops:Array Oper)(i:Nat)(K:St→Prop)(s:St):Prop :=
 match ops[i]? with
 |none=>K s
 |some o=>∃ v H',Yields P pf ops o s v H'∧K (s.put o.dst v H')
def qm(P:Program)(pf:FuncId→Bool)(ops:Array Oper)(s':St):Nat→Array Bool→St→Prop
 |0,listed,s=>j7 .any ops listed=[]∧s=s'
 |fuel+1,listed,s=>(j7 .any ops listed=[]→s=s')∧∀ i∈j7 .any ops listed,ql P pf ops i (qm P pf ops s' fuel (listed.setIfInBounds i true)) s
theorem wR{P:Program}{pf:FuncId→Bool}{ops:Array Oper}{s':St}{Q:Exit→Act→World→Prop}:∀(fuel:Nat) (listed:Array Bool) (s:St) (E:Env) (a:Act),
  bN s E a→qm P pf ops s' fuel listed s→(∀ k w',eI E s' k w'→Q .normal k w')→∀ ro:Option Nat,wpAnyIn (fz ro) 0 P .any ops Q fuel listed a E.w
 |0,_,s,E,a,d,h,g,_=>⟨h.1,g _ _ (h.2▸eI.refl d)⟩
 | fuel+1,listed,s,E,a,d,h,g,ro=>by
  refine⟨fun h0=>g _ _ (h.1 h0▸eI.refl d),fun i hi=>?_⟩;have h1:=h.2 i hi;unfold ql at h1;cases ho:ops[i]? with
  | none =>
   rw[ho]at h1;unfold wpOpIn;simp only[ho];exact wR fuel _ s E a d h1 g ro
  | some o =>
   rw[ho]at h1;obtain⟨v,H',y,B⟩:=h1;refine Bc d ho y (fun k w' I=>?_) ro;obtain⟨q,r',g1,g2⟩:=I;exact wR fuel _ _ { w:=w',H:=H',loc:=q,X:=E.X.re r' } k g1 B (fun a2 J u=>g a2 J (eI.after g2 u)) ro
theorem Tr{ops:Array Oper}{o:Oper}{t:Tmp}(h:Operand.tmp t∈o.op.operands):t∈o.looksAt ops :=
 List.mem_append_left _ (List.mem_filterMap.2 ⟨.tmp t,by simpa using h,rfl⟩)
theorem Ts{fr:List AV}{d t:Nat}{v:AV}(h:d≠t):(fr.set d v).getD t .undef=fr.getD t .undef:=by
 simp[List.getD_eq_getElem?_getD,aT h]
theorem eval_put{ops:Array Oper}{s:St}{o:Oper}{dst:Option Tmp}{v:AV}{H':List ab}(h:∀ d,dst=some d→d∉o.looksAt ops){x:Operand}(k:x∈o.op.operands) :
  (s.put dst v H').eval x=s.eval x:=by
 cases dst with
 |none=>cases x<;>rfl
 | some d =>
  cases x with
  | tmp t =>
   have g:d≠t:=fun e=>h d rfl (e▸Tr k);simp only[St.eval,St.put,iG];exact Ts g
  |_=>rfl
theorem wS{ops:Array Oper}{fr:List AV}{o:Oper}{dst:Option Tmp}{v:AV}(h:∀ d,dst=some d→d∉o.looksAt ops) :
  bO ops (iG fr dst v) o=bO ops fr o:=by
 cases dst with
 |none=>rfl
 | some d =>
  unfold bO;cases q:o.guard with
  |none=>rfl
  | some u =>
   obtain⟨g,want⟩:=u;simp only[];cases y:(ops[g]?).bind (·.dst)with
   |none=>rfl
   | some t =>
    have k:d≠t:=fun e=>h d rfl (by subst e; simp[Oper.looksAt,q,y]);simp only[iG,aT k]
theorem Tt(fr:List AV){x y:Option Tmp}(v u:AV)(h:∀ d,x=some d→y≠some d):iG (iG fr x v) y u=iG (iG fr y u) x v:=by
 cases x with
 |none=>rfl
 | some d =>
  cases y with
  |none=>rfl
  | some e =>
   have g:d≠e:=fun he=>h d rfl (he▸rfl);simp only[iG];rw[lJ _ _ g]
theorem Ir{P:Program}{r r':Operand→AV}(o:Op)(h:∀ x∈o.operands,r x=r' x):gA P r o=gA P r' o:=by
 cases o<;>simp only[gA]<;>simp only[eO]at h
 case build t ps =>
  have:(ps.toList.map fun p=>(p.1,r p.2))=ps.toList.map fun p=>(p.1,r' p.2):=pP fun p d=>by
   rw[h p.2 (by simp; exact⟨p.1,by simpa using d⟩)]
  rw[this]
 case buildSlice t n ps =>
  have:(ps.toList.map fun p=>(p.1,r p.2))=ps.toList.map fun p=>(p.1,r' p.2):=pP fun p d=>by
   rw[h p.2 (by simp; exact⟨p.1,by simpa using d⟩)]
  rw[this]
 case makeFunc fn first captured =>
  unfold A8;cases fn<;>try rfl
  have:(captured.toList.map r)=captured.toList.map r':=pP fun x g=>h x (by simp; right; simpa using g);simp only[this]
 case call c =>
  obtain⟨callee,args,argTypes⟩:=c;unfold A9;cases callee<;>try rfl
  have:(args.toList.map r)=args.toList.map r':=pP fun x g=>h x (by simp[sD]; simpa using g);simp only[this]
 case slice t x lo hi mx=>cases lo<;>cases hi<;>cases mx<;>simp_all
 all_goals (first|rfl|(simp_all; done))
theorem Is{P:Program}{r r':Operand→AV}{H:List ab}(o:Op)(h:∀ x∈o.operands,r x=r' x):ev P r H o=ev P r' H o:=by
 cases o<;>simp only[ev]<;>simp only[eO]at h
 case call c =>
  obtain⟨callee,args,argTypes⟩:=c;unfold mT;cases callee<;>try rfl
  split
  ·rename_i a t d ha g
   have hm:a∈args:=by
    have:a∈args.toList:=by rw[show args.toList=[a] from ha]; simp
    simpa using this
   have:r a=r' a:=h a (by simp[sD]; simpa using hm);simp only[this,d,ha,g]
  ·rfl
 all_goals (first|rfl|(simp_all; done))
theorem It{P:Program}{r r':Operand→AV}{H:List ab}(o:Op)(h:∀ x∈o.operands,r x=r' x):cT P r H o=cT P r' H o:=by
  cases o<;>simp only[cT]<;>simp only[eO]at h
  case buildSlice t n ps =>
    have:(ps.toList.map fun p=>(p.1,r p.2))=ps.toList.map fun p=>(p.1,r' p.2):=pP fun p q=>by
      rw[h p.2 (by simp; exact⟨p.1,by simpa using q⟩)]
    rw[this]
  case call c =>
    obtain⟨callee,args,argTypes⟩:=c;unfold wO;cases callee<;>try rfl
    rename_i b;have d:∀ x,x∈args.toList→r x=r' x:=fun x u=>h x (by simp[sD]; simpa using u);cases b<;>try rfl
    all_goals simp only[]
    all_goals split
    all_goals first
      |rfl
      | (rename_i s x t xt ha g
         rw[d s (by rw[ha]; simp),d x (by rw[ha]; simp)])
      | (rename_i x t ha g
         rw[d x (by rw[ha]; simp)])
      | (rename_i x k t v ha g
         rw[d x (by rw[ha]; simp),d k (by rw[ha]; simp)])
  case makeMap t res=>cases res<;>rfl
  case lookup t m k ok =>
    cases ok with
    |true=>rfl
    |false=>simp only[h m (by simp),h k (by simp)]
  case mapEntry t m k=>simp only[h m (by simp),h k (by simp)]
  case entryStore t m s x=>simp only[h m (by simp),h s (by simp),h x (by simp)]
  all_goals (first|rfl|(simp_all; done))
theorem Iu{r r':Operand→AV}(o:Op)(h:∀ x∈o.operands,r x=r' x):gP r o=gP r' o:=by
 cases o<;>simp only[gP]<;>simp only[eO]at h
 rename_i c;obtain⟨callee,args,argTypes⟩:=c;unfold Bb;cases callee<;>try rfl
 rename_i g;have d:r g=r' g:=h g (by simp[sD]);have k:(args.toList.map r)=args.toList.map r':=pP fun x q=>h x (by simp[sD]; right; simpa using q);simp only[d,k]
end Go.AL

namespace Go.AL
open Go
variable [Dr]
variable {P:Program} {pf:FuncId→Bool} {ops:Array Oper}
theorem fa{o:Oper}{s s1:St}{v:AV}{H':List ab}(hw:bO ops s1.fr o=bO ops s.fr o)(d:∀ x∈o.op.operands,s1.eval x=s.eval x)(hH:s1.H=s.H) :
  Yields P pf ops o s1 v H'↔Yields P pf ops o s v H':=by
 unfold Yields;rw[hw,hH,Ir o.op d,Is o.op d,It o.op d,Iu o.op d,Tp o.op d]
theorem tc{o:Oper}{s:St}{v:AV}{H':List ab}(d:cI pf o.op=.pure)(h:Yields P pf ops o s v H'):H'=s.H∧∀ H2,Yields P pf ops o ⟨s.fr,H2⟩ v H2:=by
 have key:∀ H2:List ab,∀ x∈o.op.operands,St.eval ⟨s.fr,H2⟩ x=s.eval x:=fun H2 x _=>by cases x<;>rfl
 unfold Yields at h;cases hw:bO ops s.fr o with
 |none=>rw[hw]at h; exact h.elim
 | some b =>
  rw[hw]at h;cases b with
  | false =>
   refine⟨h.2,fun H2=>?_⟩;unfold Yields;rw[show bO ops (St.mk s.fr H2).fr o=some false from hw];exact⟨h.1,rfl⟩
  | true =>
   simp only[d]at h;refine⟨h.1,fun H2=>?_⟩;unfold Yields;rw[show bO ops (St.mk s.fr H2).fr o=some true from hw];simp only[d];refine⟨trivial,?_⟩;rw[Ir o.op (key H2),Iu o.op (key H2)];exact h.2
theorem oG{o:Oper}{s:St}{v:AV}{H':List ab}(d:cI pf o.op=.read)(h:Yields P pf ops o s v H'):H'=s.H:=by
 unfold Yields at h;simp only[d]at h;split at h
 ·cases h
 ·exact h.2
 ·exact h.1
theorem Tu{r:Operand→AV}{H:List ab}{x:ab}{v:AV}:∀{op:Op},ev P r H op=some v→ev P r (H++[x]) op=some v:=by
 have get:∀{i:Nat} {y:ab},H[i]? = some y→(H++[x])[i]? = some y:=by
  intro i y h;rw[cK (List.getElem?_eq_some_iff.1 h).1];exact h
 intro op h;cases op<;>simp only[ev]at h⊢<;>try cases h
 case load t a =>
  unfold gK at h⊢;split at h
  ·rename_i n agg u
   split at h
   ·exact h
   ·rename_i id ae w row col ha
    cases hi:H[id]? with
    |none=>rw[hi]at h; cases h
    |some y=>rw[hi]at h; rw[get hi]; exact h
   ·cases h
  ·cases h
 case lookup t m k ok =>
  split at h
  ·rename_i v1 h1
   cases h;have d:fB P t (r m) (r k) ok (H++[x])=some v:=by
    unfold fB at h1⊢;split at h1
    ·rename_i B I id hm q
     cases hi:H[id]? with
     |none=>rw[hi]at h1; cases h1
     |some y=>rw[hi]at h1; rw[get hi]; exact h1
    ·cases h1
   rw[d]
  ·obtain ⟨d, g⟩ := Ih (H2 := H ++ [x]) (fun i l es ms cl hi => get hi) h
   rw[g,d]
 case call c =>
  unfold mT at h⊢;split at h
  ·split at h
   ·rename_i id _ _
    cases hi:H[id]? with
    |none=>rw[hi]at h; cases h
    |some y=>rw[hi]at h; rw[get hi]; exact h
   ·cases h
  ·cases h
theorem Tv{r:Operand→AV}{H:List ab}{id:Nat}{x y:ab}{v:AV}(hid:H[id]? = some y)(d:(∃ k,y=.vec k 0 [])∨y=.dI):∀{op:Op},ev P r H op=some v→ev P r (H.set id x) op=some v:=by
 have get:∀{i:Nat},i≠id→(H.set id x)[i]? = H[i]? := fun h=>aT (Ne.symm h);intro op h;cases op<;>simp only[ev]at h⊢<;>try cases h
 case load t a =>
  unfold gK at h⊢;split at h
  ·rename_i n agg B
   split at h
   ·exact h
   ·rename_i i ae w row col ha
    by_cases e:i=id
    ·subst e
     rw[hid]at h;rcases d with⟨k,rfl⟩|rfl<;>simp at h
    ·rw [get e]
     exact h
   ·cases h
  ·cases h
 case lookup t m k ok =>
  split at h
  ·rename_i v1 h1
   cases h;have g:fB P t (r m) (r k) ok (H.set id x)=some v:=by
    unfold fB at h1⊢;split at h1
    ·rename_i I J i hm u
     by_cases e:i=id
     ·subst e
      rw[hid]at h1;rcases d with⟨k,rfl⟩|rfl<;>simp at h1
     ·rw [get e]
      exact h1
    ·cases h1
   rw[g]
  ·obtain ⟨g,q⟩:=Ih (H2:=H.set id x) (fun i l es ms cl hi=>by
    have e:i≠id:=fun e=>by
     rw[e,hid]at hi;rcases d with⟨k,rfl⟩|rfl<;>cases hi
    rw[get e];exact hi) h
   rw[q,g]
 case call c =>
  unfold mT at h⊢;split at h
  ·split at h
   ·rename_i i _ _
    by_cases e:i=id
    ·subst e
     rw[hid]at h;rcases d with⟨k,rfl⟩|rfl<;>simp at h
    ·rw [get e]
     exact h
   ·cases h
  ·cases h
theorem Iv{P:Program}{t:TypeId}{id:Nat}{m:List (Option (List Kd))}{H H':List ab}{v:AV}(h:mR P t id m H=some (v,H')) :
  ∃ z k,dS P t=some z∧H[id]? = some (.vec k 0 [])∧k=z.length∧v=.ptr id 1 k 0 0∧H'=H.set id (.vec k 1 [dK m z]):=by
 unfold mR at h;split at h
 ·rename_i z k d hid
  split at h
  ·rename_i hk
   cases h;exact⟨z,k,d,hid,hk,rfl,rfl⟩
  ·cases h
 ·cases h
theorem Iw{P:Program}{t:TypeId}{id:Nat}{H:List ab}{z:List Value}{k:Nat} (m:List (Option (List Kd))) (d:dS P t=some z) (hid:H[id]? = some (.vec k 0 [])) (hk:k=z.length) :
  mR P t id m H=some (.ptr id 1 k 0 0,H.set id (.vec k 1 [dK m z])):=by
 unfold mR;rw[d,hid];simp only[];rw[if_pos hk]
theorem Ix{q h:Oper}{s:St}{v u:AV}{O g:List ab}(h1:q.apart ops h=true)(_h2:h.apart ops q=true)(B:lW pf q h=true)
  (hi:Yields P pf ops q s v O) (U:Yields P pf ops h (s.put q.dst v O) u g) :
  ∃ Hj1,Yields P pf ops h s u Hj1∧Yields P pf ops q (s.put h.dst u Hj1) v g:=by
 obtain⟨a1,a2,a3⟩:=GQ h1;have W:bO ops (s.put q.dst v O).fr h=bO ops s.fr h:=wS a1;have wi:∀ H2,bO ops (s.put h.dst u H2).fr q=bO ops s.fr q:=fun H2=>wS a3;have ej:∀ x∈h.op.operands,(s.put q.dst v O).eval x=s.eval x:=fun x I=>eval_put a1 I;have ei:∀ H2,∀ x∈q.op.operands,(s.put h.dst u H2).eval x=s.eval x:=fun H2 x I=>eval_put a3 I;unfold lW at B;split at B
 ·-- q only computes
  rename_i M;obtain⟨J,g1⟩:=tc M hi;subst J;refine⟨g,(fa W ej rfl).1 U,?_⟩;exact(fa (s1:=s.put h.dst u g) (s:=⟨s.fr,g⟩) (wi g) (fun x I=>by rw[ei g x I]; cases x<;>rfl) rfl).2 (g1 g)
 ·-- h only computes
  rename_i N _;obtain⟨J,g1⟩:=tc N U;have e1':g=O:=J;subst e1';refine⟨s.H,?_,?_⟩
  ·have := g1 s.H
   exact(fa (s1:=⟨(s.put q.dst v g).fr,s.H⟩) (s:=s) W (fun x I=>by
    have:=ej x I;cases x<;>exact this) rfl).1 this
  ·exact(fa (s1:=s.put h.dst u s.H) (s:=s) (wi s.H) (ei s.H) rfl).2 hi
 ·rename_i M N
  have J:=oG M hi;subst J;have e2:=oG N U;have e2':g=s.H:=e2;subst e2';exact⟨s.H,(fa W ej rfl).1 U,(fa (s1:=s.put h.dst u s.H) (s:=s) (wi s.H) (ei s.H) rfl).2 hi⟩
 ·rename_i M N
  have J:=oG M hi;subst J;have d:=(fa W ej rfl).1 U;refine⟨g,d,?_⟩;have hpush:g=s.H∨(∃ x,g=s.H++[x])∨∃ id y x,s.H[id]? = some y∧((∃ k,y=.vec k 0 [])∨y=.dI)∧g=s.H.set id x:=by
   unfold Yields at d;simp only[N]at d;split at d
   ·exact d.elim
   ·exact .inl d.2
   ·rcases d with (d | ⟨f, args, h1, _⟩) | (⟨t, id, m, ho, hv⟩ | ⟨t, id, ho, hv⟩) | V
    ·unfold dU at B
     split at B
     ·rename_i t ho
      rw[ho]at d;simp only[cT,ox]at d;split at d
      ·split at d
       ·cases d; exact .inr (.inl ⟨_,rfl⟩)
       ·cases d
      ·split at d
       ·cases d; exact .inr (.inl ⟨_,rfl⟩)
       ·cases d
     ·rename_i t ho
      rw[ho]at d;simp only[cT]at d;cases d;exact .inr (.inl ⟨_,rfl⟩)
     ·cases B
    ·unfold dU at B
     split at B
     ·rename_i t ho
      rw[ho]at h1;cases h1
     ·rename_i t ho
      rw[ho]at h1;cases h1
     ·cases B
    ·obtain ⟨z, k, _, h2, _, _, h3⟩ := Iv hv
     exact .inr (.inr ⟨id,_,_,h2,.inl ⟨k,rfl⟩,h3⟩)
    ·obtain ⟨h1, _, h3⟩ := AY hv
     exact .inr (.inr ⟨id,_,_,h1,.inr rfl,h3⟩)
    ·unfold dU at B
     split at B
     ·rename_i t ho
      rw[ho]at V;exact V.elim
     ·rename_i t ho
      rw[ho]at V;exact V.elim
     ·cases B
  refine(fa (s1:=s.put h.dst u g) (s:=⟨s.fr,g⟩) (wi g) (fun x I=>by rw[ei g x I]; cases x<;>rfl) rfl).2 ?_;have key:∀ H2:List ab,St.eval ⟨s.fr,H2⟩=s.eval:=fun H2=>by funext x; cases x<;>rfl
  unfold Yields at hi⊢;simp only[M]at hi⊢;cases hw:bO ops s.fr q with
  |none=>rw[hw]at hi; exact hi.elim
  | some b =>
   rw[hw]at hi;cases b with
   |false=>exact⟨hi.1,by simp⟩
   | true =>
    refine⟨by simp,?_⟩;rw[key];rcases hpush with rfl|⟨x,rfl⟩|⟨id,y,x,hid,hy,rfl⟩
    ·exact hi.2
    ·exact Tu hi.2
    ·exact Tv hid hy hi.2
 ·cases B
def Bd(ops:Array Oper)(listed:Array Bool)(j:Nat):Prop :=
 ∀ o,ops[j]? = some o→∀ e∈o.after,GP .any e=true→listed.getD e.on false=true
def oH(ops:Array Oper)(listed:Array Bool):Prop:=∀ j,listed.getD j false=true→Bd ops listed j
theorem Be{listed:Array Bool}(d:oH ops listed):∀(n j i:Nat),Bd ops listed j→waits ops n j i=true→listed.getD i false=true
 |0,_,_,_,h=>by simp[waits]at h
 | n+1,j,i,k,h=>by
  unfold waits at h;split at h
  ·rename_i o ho
   rw[jy]at h;obtain⟨e,he,hb⟩:=h;simp only[aB,vO,beq_iff_eq]at hb;have g:=k o ho e (by simpa using he) hb.1;rcases hb.2 with rfl|hw
   ·exact g
   ·exact Be d n e.on i (d _ g) hw
  ·cases h
theorem Bf{listed:Array Bool}{j:Nat}(h:j∈j7 .any ops listed):Bd ops listed j:=by
 obtain⟨_,o,ho,g⟩:=mem_ready.1 h;intro o' d;rw[ho]at d;cases d;exact g
theorem wT{listed:Array Bool}(g:oH ops listed){j:Nat}(q:j∈j7 .any ops listed):oH ops (listed.setIfInBounds j true):=by
 intro k hk o ho e he hb;by_cases d:j=k
 ·subst d
  exact getD_set_true (Bf q o ho e he hb)
 ·have:listed.getD k false=true:=by
   have h:=hk;simp[Array.getElem?_setIfInBounds_ne d]at h;simpa using h
  exact getD_set_true (g k this o ho e he hb)
theorem Iy(s:St)(x y:Option Tmp)(v u:AV)(H1 H2 g:List ab)(h:∀ d,x=some d→y≠some d):(s.put x v H1).put y u H2=(s.put y u g).put x v H2:=by
 simp only[St.put,Tt s.fr v u h]
theorem Iz{listed:Array Bool}{i:Nat}(h:i∈j7 .any ops listed):listed.getD i false=false:=by
 obtain⟨h0,_⟩:=mem_ready.1 h;rcases iV i listed.size with h'|h'
 ·simp[h']at h0⊢; exact h0
 ·simp[GR h']at h0
theorem Tw{s':St}{i:Nat}{q:Oper}(hi:ops[i]? = some q):∀(fuel:Nat) (listed:Array Bool) (s:St) (v:AV) (H':List ab),oH ops listed →
  (∀ j g,ops[j]? = some g→j≠i→listed.getD j true=false→waits ops ops.size j i=false→q.apart ops g=true∧g.apart ops q=true∧lW pf q g=true) →
  i∈j7 .any ops listed→Yields P pf ops q s v H'→qm P pf ops s' fuel (listed.setIfInBounds i true) (s.put q.dst v H')→qm P pf ops s' (fuel+1) listed s:=by
 intro fuel
 induction fuel with
 | zero =>
  intro listed s v H' _ _ y I H;refine⟨fun h=>(by rw[h]at y; cases y),fun j B=>?_⟩;by_cases d:j=i
  ·subst d
   unfold ql;simp only[hi];exact⟨v,H',I,H⟩
  ·have := ready_mono B d
   rw[H.1]at this;cases this
 | succ fuel ih =>
  intro listed s v H' O M y I H;refine⟨fun h=>(by rw[h]at y; cases y),fun j B=>?_⟩;by_cases d:j=i
  ·subst d
   unfold ql;simp only[hi];exact⟨v,H',I,H⟩
  ·have h1 := H.2 j (ready_mono B d)
   obtain⟨N,g,U,hall⟩:=mem_ready.1 B;unfold ql at h1⊢;simp only[U]at h1⊢;obtain⟨u,Hj,hyj,hrest⟩:=h1;have hnw:waits ops ops.size j i=false:=by
    cases hw:waits ops ops.size j i with
    |false=>rfl
    | true =>
     have:=Be O _ _ _ (Bf B) hw;rw[Iz y]at this;cases this
   obtain⟨a1,a2,a3⟩:=M j g U d N hnw;obtain⟨J,q1,q2⟩:=Ix a1 a2 a3 I hyj;refine⟨u,J,q1,?_⟩;refine ih (listed.setIfInBounds j true) (s.put g.dst u J) v Hj (wT O B) ?_ (ready_mono y (Ne.symm d)) q2 ?_
   ·intro k ok hk hki V hno
    refine M k ok hk hki ?_ hno;by_cases W:j=k
    ·subst W; exact N
    ·rw[getD_set_ne true W]at V; exact V
   ·rw [agE _ _ d]
    have:=Iy s q.dst g.dst v u H' Hj J (GQ a1).2.1;rw[←this];exact hrest
theorem IA{s':St}(M:qk pf ops=true):∀(l:List Oper) (k:Nat) (listed:Array Bool) (s:St),l=ops.toList.drop k→oH ops listed→listed.size=ops.size →
  (∀ j,j<ops.size→(listed.getD j true=false↔k≤j))→fD P pf ops l s s'→qm P pf ops s' l.length listed s
 | [],k,listed,s,u,_,I,hk,h=>by
  simp only[fD]at h;refine⟨?_,h.symm⟩;apply agF.2;intro j d;obtain⟨h0,o,ho,_⟩:=mem_ready.1 d;have q:j<ops.size:=(fT.1 ho).1;have:=(hk j q).1 h0;have hlen:(ops.toList.drop k).length=0:=by rw[←u]; rfl
  simp at hlen;omega
 | o::l,k,listed,s,u,J,I,hk,h=>by
  obtain⟨v,H',hy,U⟩:=h;have h0:ops[k]? = some o:=by
   have:(ops.toList.drop k)[0]? = some o:=by rw[←u]; rfl
   simpa using this
  have q:k<ops.size:=(fT.1 h0).1;simp only[qk,aB,cO,eP]at M;obtain⟨_,y⟩:=M;have O:∀ j,j<k→listed.getD j false=true:=by
   intro j d;have N:¬ (listed.getD j true=false):=fun e=>by have:=(hk j (by omega)).1 e; omega
   have:j<listed.size:=by omega
   simp[this]at N⊢;exact N
  have B:k∈j7 .any ops listed:=by
   refine mem_ready.2 ⟨(hk k q).2 (aG _),o,h0,fun e he hb=>?_⟩;have:=y k q;rw[h0]at this;simp only[aB,cO]at this;have h1:=this.1 e (by simpa using he);simp only[hb,GS,zW,decide_eq_true_eq]at h1;exact O e.on h1
  refine Tw h0 l.length listed s v H' J ?_ B hy ?_
  ·intro j oj d hjk V W
   have g:j<ops.size:=(fT.1 d).1;have hkj:k≤j:=(hk j g).1 V;have:=y j g;rw[d]at this;simp only[aB,cO,eP]at this;have h1:=this.2 k (by omega);rw[h0]at h1;simp only[W,zW,aB]at h1;exact⟨h1.1.1,h1.1.2,h1.2⟩
  ·refine IA (by simp only [qk, aB, cO, eP]; exact ⟨‹_›, y⟩) l (k + 1) _ _ ?_ (wT J B) (by simpa using I) ?_ U
   ·rw[←n4,←u]; rfl
   ·intro j g
    by_cases e:k=j
    ·subst e
     have:k<listed.size:=by omega
     simp[this]
    ·rw [getD_set_ne true e, hk j g]
     omega
theorem Tx{id:Nat}{s s':St}{E:Env}{a:Act}{Q:Exit→Act→World→Prop}(hm:P.follows .mixedOrders=true)(u:qk pf ops=true)(d:bN s E a)
  (h:fD P pf ops ops.toList s s') (v:∀ g w',eI E s' g w'→Q .normal g w'):∀ ro:Option Nat,(Code.region id ops true).wpIn (fz ro) 0 P Q a E.w:=by
 intro ro;have q:bN s { E with w:={ E.w with drawn:=E.w.drawn+1 } } a:=⟨d.H,du (Env.iD (Ext.drawn E.w _)) _ d.fr,we d.heap (Env.iD (Ext.drawn E.w _)) d.defers,d.heap.ext (Ext.drawn E.w _)⟩
 refine wpIn_region_any hm (wR (pf:=pf) _ _ s { E with w:={ E.w with drawn:=E.w.drawn+1 } } a q ?_ (fun g w' y=>v g w' (eI.after (Env.iD (Ext.drawn E.w _)) y)) ro);have:=IA (P:=P) (s':=s') u ops.toList 0 (mG ops.size false) s (by simp) (by
  intro j k;exfalso;rcases iV j ops.size with h'|h'
  ·simp[h']at k
  ·simp[GR (xs:=mG ops.size false) (by simpa using h')]at k) (by simp) (by intro j k; simp[k]) h
 simpa using this
theorem IB{id:Nat}{s s':St}{E:Env}{a:Act}{Q:Exit→Act→World→Prop}(g:bN s E a)
  (h:fD P pf ops ops.toList s s') (k:∀ d w',eI E s' d w'→Q .normal d w'):∀ ro:Option Nat,(Code.region id ops false).wpIn (fz ro) 0 P Q a E.w:=by
 intro ro;refine wpIn_region ?_;have:=wQ (Q:=Q) ops.toList 0 s s' E a (by simp) h g k ro;rw[List.range_eq_range'];simpa using this
end Go.AL

namespace Go.AL
open Go
variable [Dr]
inductive bS where
 |normal
 |exit (id:Nat)
 |ret
 deriving DecidableEq
def bS.toExit:bS→Exit
 |.normal=>.normal
 |.exit id=>.exit id
 |.ret=>.ret
structure Env.di (m:Nat) (E E':Env):Prop where
 past:∀ id,id<m→E.past id 0→E'.past id 0
 size:E.w.heap.size≤E'.w.heap.size
 same:∀ b,b<E.w.heap.size→¬ E.own b→E'.w.heap[b]? = E.w.heap[b]?
 own:∀ b,b<E.w.heap.size→¬ E.own b→¬ E'.own b
 live:∀ id,id<m→E.past id 0→E'.live id 0→E.live id 0∧E'.loc[id]? = E.loc[id]?
 X:∀ b,b<E.w.heap.size→(E'.X b↔E.X b)∧(E'.X.z b↔E.X.z b)
 rl:∀ l h,h<(E.X.r l).length→h<(E'.X.r l).length∧∀ q,(E'.X.r l)[h]? = some (some q)→(E.X.r l)[h]? = some (some q)
 env:dJ E.w E'.w
 grow:∀ id,id<m→∀ l o,E.H[id]? = some o→o.cZ=some l→E'.live id 0→(∃ t,E'.X.r l=E.X.r l++t)∧∃ o',E'.H[id]? = some o'∧o'.cZ=some l
theorem Env.le.toM{m:Nat}{E E':Env}(h:E.le E'):E.di m E':=⟨fun id _ d=>h.past id 0 d,h.size,h.same,h.own,fun id _ d g=>h.live id 0 d g,fun b _=>by rw[show E'.X.x=E.X.x from h.X.1,show E'.X.z=E.X.z from h.X.2]; exact⟨Iff.rfl,Iff.rfl⟩,h.rl,h.env,fun id _ l o h1 k q=>h.grow id l o h1 k q⟩
def wU(H:List ab):Prop:=∀ o∈H,o.aF = some 0
theorem Env.di.full{m:Nat}{E E':Env}(h:E.di m E')(hX:E'.X.x=E.X.x∧E'.X.z=E.X.z)(hm:E.H.length≤m)(k:wU E.H):E.le E':=by
 have key:∀ id ae,E.past id ae→id<m∧ae=0:=by
  rintro id ae ⟨o,ho,q⟩;have h1:=aK ho;have g:=q.2 0 (k o (List.mem_of_getElem? ho));exact⟨by omega,by omega⟩
 refine⟨fun id ae d=>?_,h.size,h.same,h.own,fun id ae d u=>?_,hX,h.rl,h.env,fun id l o h1 g v=>h.grow id (dj (aK h1) hm) l o h1 g v⟩
 ·obtain ⟨h1, rfl⟩ := key id ae d
  exact h.past id h1 d
 ·obtain ⟨h1, rfl⟩ := key id ae d
  exact h.live id h1 d u
theorem Env.di.trans{m:Nat}{E E' B:Env}(h:E.di m E')(h':E'.di m B):E.di m B where
 past:=fun id hi g=>h'.past id hi (h.past id hi g)
 size:=Nat.le_trans h.size h'.size
 same:=fun b hb ho=>by rw[h'.same b (dj hb h.size) (h.own b hb ho),h.same b hb ho]
 own:=fun b hb ho=>h'.own b (dj hb h.size) (h.own b hb ho)
 live:=fun id hi hid N=>by
  obtain⟨k,a2⟩:=h'.live id hi (h.past id hi hid) N;obtain⟨b1,u⟩:=h.live id hi hid k;exact⟨b1,by rw[a2,u]⟩
 X:=fun b hb=>by
  have h1:=h'.X b (dj hb h.size);have d:=h.X b hb;exact⟨h1.1.trans d.1,h1.2.trans d.2⟩
 rl:=fun l i hi=>by
  obtain⟨k,a2⟩:=h.rl l i hi;obtain⟨b1,u⟩:=h'.rl l i k;exact⟨b1,fun q O=>a2 q (u q O)⟩
 env:=h.env.trans h'.env
 grow:=fun id hi l o h1 d y=>by
  have g:E.past id 0:=⟨o,h1,ab.z_ d,fun v y=>Nat.zero_le _⟩
  obtain⟨I,_⟩:=h'.live id hi (h.past id hi g) y;obtain⟨⟨t,U⟩,o',g1,g2⟩:=h.grow id hi l o h1 d I;obtain⟨⟨t',J⟩,M,g3,g4⟩:=h'.grow id hi l o' g1 g2 y;exact⟨⟨t++t',by rw[J,U,List.append_assoc]⟩,M,g3,g4⟩
def dw(m:Nat)(E:Env)(s':St)(g:Act)(w':World):Prop :=
 ∃ d X',bN s' { w:=w',H:=s'.H,loc:=d,X:=X' } g∧E.di m { w:=w',H:=s'.H,loc:=d,X:=X' }
theorem eI.toM{m:Nat}{E:Env}{s':St}{a:Act}{w:World}(h:eI E s' a w):dw m E s' a w:=let ⟨loc,r,h1,d⟩:=h; ⟨loc,E.X.re r,h1,d.toM⟩
theorem dw.after{m:Nat}{E E':Env}{s':St}{d:Act}{w':World}(h:E.di m E')(h':dw m E' s' d w'):dw m E s' d w':=by
 obtain⟨g,X',h1,k⟩:=h';exact⟨g,X',h1,h.trans k⟩
theorem dw.refl{m:Nat}{s:St}{E:Env}{a:Act}(h:bN s E a):dw m E s a E.w:=(eI.refl h).toM
def fE:Code→Bool
 |.seq a b=>fE a&&fE b
 |.cond _ a b=>fE a&&fE b
 |.block _ c=>fE c
 |.loop c=>fE c
 |.scope c=>fE c
 |.rangeFunc ..=>false
 |_=>true
def ew(ro:Option Nat)(c:Code):Prop:=ro=none∨fE c=true
theorem ew.seq1{ro:Option Nat}{a b:Code}(h:ew ro (.seq a b)):ew ro a:=h.imp id fun h=>by
 have h:(fE a&&fE b)=true:=h;exact(aB _ _▸h).1
theorem ew.Bg{ro:Option Nat}{a b:Code}(h:ew ro (.seq a b)):ew ro b:=h.imp id fun h=>by
 have h:(fE a&&fE b)=true:=h;exact(aB _ _▸h).2
theorem ew.cond{ro:Option Nat}{o:Operand}{a b:Code}(t:Bool)(h:ew ro (.cond o a b)):ew ro (if t then a else b):=h.imp id fun h=>by
 have h:(fE a&&fE b)=true:=h;cases t
 ·exact(aB _ _▸h).2
 ·exact(aB _ _▸h).1
theorem ew.block{ro:Option Nat}{i:Nat}{a:Code}(h:ew ro (.block i a)):ew ro a:=h
theorem ew.loop{ro:Option Nat}{a:Code}(h:ew ro (.loop a)):ew ro a:=h
theorem Bh(c:Code):ew none c:=.inl rfl
def cU(P:Program)(m:Nat)(c:Code)(s:St)(x:bS)(s':St):Prop :=
 ∀(ro:Option Nat),ew ro c→∀(E:Env) (a:Act),bN s E a→c.wpIn (fz ro) 0 P (fun e d g=>e=x.toExit∧dw m E s' d g) a E.w
def bu(m:Nat)(s s':St):Prop:=∀(E:Env) (a:Act),bN s E a→dw m E s' a E.w
theorem bu.refl{m:Nat}(s:St):bu m s s:=fun _ _ h=>dw.refl h
theorem bu.trans{m:Nat}{s s1 s2:St}(h:bu m s s1)(h':bu m s1 s2):bu m s s2:=fun E a d=>by
 obtain⟨loc,X,h1,g⟩:=h E a d;exact dw.after g (h' _ a h1)
theorem dw.weaken{m:Nat}{E:Env}{s s':St}{a:Act}{w:World}(h:dw m E s a w)(hle:bu m s s'):dw m E s' a w:=by
 obtain⟨loc,X,h1,d⟩:=h;exact dw.after d (hle _ a h1)
section rules
variable {P:Program} {m:Nat} {s s' s1:St} {x:bS}
theorem qn{c:Code}(hle:bu m s s1)(h:cU P m c s1 x s'):cU P m c s x s':=fun ro ho E a d=>by
 obtain⟨loc,X,h1,g⟩:=hle E a d;exact wpIn_mono (h ro ho { w:=E.w,H:=s1.H,loc:=loc,X:=X } a h1) fun e u v ⟨k,q⟩=>⟨k,dw.after g q⟩
theorem qo{c:Code}(h:cU P m c s x s1)(hle:bu m s1 s'):cU P m c s x s':=fun ro ho E a d =>
 wpIn_mono (h ro ho E a d) fun _ _ _ ⟨g,k⟩=>⟨g,k.weaken hle⟩
theorem Ty:cU P m .skip s .normal s:=fun _ _ _ _ d=>wpIn_skip ⟨rfl,dw.refl d⟩
theorem Tz:cU P m .ret s .ret s:=fun _ _ _ _ d=>wpIn_ret ⟨rfl,dw.refl d⟩
theorem TA{id:Nat}:cU P m (.exit id) s (.exit id) s:=fun _ _ _ _ d=>wpIn_exit ⟨rfl,dw.refl d⟩
theorem TB{pf:FuncId→Bool}{id:Nat}{ops:Array Oper}{draw:Bool}(hm:P.follows .mixedOrders=true)(k:draw=true→qk pf ops=true)(h:fD P pf ops ops.toList s s') :
  cU P m (.region id ops draw) s .normal s':=fun ro ho E a g=>by
 cases draw with
 |false=>exact IB g h (fun q w' d=>⟨rfl,d.toM⟩) ro
 |true=>exact Tx hm (k rfl) g h (fun q w' d=>⟨rfl,d.toM⟩) ro
theorem wV{c d:Code}(h:cU P m c s .normal s1)(h':cU P m d s1 x s'):cU P m (.seq c d) s x s':=fun ro ho E a g =>
 wpIn_seq (wpIn_mono (h ro ho.seq1 E a g) fun e k J ⟨q,u⟩=>by
  subst q;obtain⟨loc,X,v,y⟩:=u;exact wpIn_mono (h' ro ho.Bg _ k v) fun _ _ _ ⟨B,I⟩=>⟨B,dw.after y I⟩)
theorem IC{c d:Code}(h:cU P m c s x s')(k:x≠.normal):cU P m (.seq c d) s x s':=fun ro ho E a q =>
 wpIn_seq (wpIn_mono (h ro ho.seq1 E a q) fun e v y ⟨u,g⟩=>by
  subst u;cases x with
  |normal=>exact(k rfl).elim
  |exit id=>exact⟨rfl,g⟩
  |ret=>exact⟨rfl,g⟩)
theorem ID{o:Operand}{c d:Code}{b:Bool}(hb:s.eval o=.lit (.bool b))(h:cU P m (if b then c else d) s x s'):cU P m (.cond o c d) s x s':=fun ro ho E a g=>by
 have:=g.eval o;rw[hb]at this;simp only[rel]at this;exact wpIn_cond this (h ro (ho.cond b) E a g)
def bS.inBlock(id:Nat):bS→bS
 |.exit i=>if i=id then .normal else .exit i
 |x=>x
theorem IE{id:Nat}{c:Code}(h:cU P m c s x s'):cU P m (.block id c) s (x.inBlock id) s':=fun ro ho E a g =>
 wpIn_block (wpIn_mono (h ro ho E a g) fun e q u ⟨k,d⟩=>by
  subst k;cases x with
  |normal=>exact⟨rfl,d⟩
  | exit i =>
   simp only[bS.toExit,Exit.inBlock,bS.inBlock];split
   ·exact⟨rfl,d⟩
   ·exact⟨rfl,d⟩
  |ret=>exact⟨rfl,d⟩)
def Bi(P:Program)(m:Nat)(c:Code):Nat→St→bS→St→Prop
 |0,s,x,s'=>x≠.normal∧cU P m c s x s'
 |n+1,s,x,s'=>∃ s1,cU P m c s .normal s1∧Bi P m c n s1 x s'
def jF(P:Program)(m:Nat)(c:Code)(s:St)(x:bS)(s':St):Prop:=∃ n,Bi P m c n s x s'
theorem jF.stop{c:Code}(h:cU P m c s x s')(d:x≠.normal):jF P m c s x s':=⟨0,d,h⟩
theorem jF.next{c:Code}(h:cU P m c s .normal s1)(h':jF P m c s1 x s'):jF P m c s x s':=let ⟨n,d⟩:=h'; ⟨n+1,s1,h,d⟩
theorem jF.pre{c:Code}(hle:bu m s s1)(h:jF P m c s1 x s'):jF P m c s x s':=by
 obtain⟨n,d⟩:=h;cases n with
 |zero=>exact⟨0,d.1,qn hle d.2⟩
 | succ n =>
  obtain⟨s2,h1,g⟩:=d;exact⟨n+1,s2,qn hle h1,g⟩
theorem IF{c:Code}(h:jF P m c s x s'):cU P m (.loop c) s x s':=fun ro ho E a W b k cs N hb q=>by
 obtain⟨n,hn⟩:=h;have key:∀(n:Nat) (s1:St) (d:Env) (a:Act),bN s1 d a→E.di m d→Bi P m c n s1 x s' →
   ∃ e u w',(e=x.toExit∧dw m E s' u w')∧ArrivesIn (Machine.fenced P (fz ro)) P (lone (b.atR a (.code c::.inLoop c::k)) cs d.w) b k cs e u w':=by
  intro n
  induction n with
  | zero =>
   intro s1 d a I hle y;obtain⟨hx,B⟩:=y;obtain⟨e,J,O,⟨v,h4⟩,g⟩:=B ro ho.loop d a I b (.inLoop c::k) cs N hb q;refine⟨e,J,O,⟨v,dw.after hle h4⟩,?_⟩;subst v;exact .pass (x:=.inLoop c) rfl (fun _ _=>.inl (by cases x<;>simp_all[bS.toExit])) g
  | succ n ih =>
   intro s1 d a I hle y;obtain⟨s2,B,U⟩:=y;obtain⟨e,J,O,⟨v,loc,X,h5,h6⟩,g⟩:=B ro ho.loop d a I b (.inLoop c::k) cs N hb q;subst v;obtain⟨e2,a2,w2,M,V⟩:=ih s2 _ J h5 (hle.trans h6) U;exact⟨e2,a2,w2,M,.of_steps (StepsIn.trans g (.one (fenced_calm hb q rfl) stepR_inLoop)) V⟩
 obtain⟨e,u,w',M,g⟩:=key n s E a W (Env.le.refl E).toM hn;exact⟨e,u,w',M,.of_steps (.one (fenced_calm hb q rfl) stepR_loop) g⟩
end rules
def wW(P:Program)(s:St):ResultVar→Option AV
 |.tmp t=>some (s.fr.getD t .undef)
 |.cell a t=>gK P t (s.fr.getD a .undef) s.H
def gQ(P:Program)(s:St):List ResultVar→Option (List AV)
 | []=>some []
 | r::rs=>match wW P s r,gQ P s rs with
  |some v,some vs=>some (v::vs)
  |_,_=>none
def c6:List AV→AV
 | [v]=>v
 |vs=>.tuple vs
def Bj(tmps:Array Value):ResultVar→Sem Value
 |.tmp t=>pure (tmps.getD t undef)
 |.cell a t=>do loadVar t (← asAddr (tmps.getD a undef))
theorem TC{P:Program}{s:St}{E:Env}{a:Act}(g:bN s E a){r:ResultVar}{v:AV}(h:wW P s r=some v) :
  ∃ u,(Bj a.tmps r).run P E.w=.ok u E.w∧rel E v u:=by
 cases r with
 | tmp t =>
  simp only[wW,aZ]at h;subst h;exact⟨_,rfl,g.eval (.tmp t)⟩
 | cell x t =>
  simp only[wW]at h;rw[←g.H]at h;have d:=g.eval (.tmp x);simp only[St.eval,Act.eval]at d;obtain⟨u,g1,g2⟩:=Hl g.heap h d;refine⟨u,?_,g2⟩;have q:∃ b o,a.tmps.getD x undef=.pointer (some ⟨b,o,none⟩):=by
   unfold gK at h;split at h
   case h_2=>cases h
   split at h
   ·rename_i k
    rw[k]at d;simp only[rel]at d;obtain⟨_,b,o,e,_⟩:=d;exact⟨b,o,e⟩
   ·rename_i k
    rw[k]at d;simp only[rel]at d;obtain⟨⟨b,o,e⟩,_⟩:=d;exact⟨b,o,e⟩
   ·cases h
  obtain⟨b,o,e⟩:=q;show (do loadVar t (← asAddr (a.tmps.getD x undef)):Sem Value).run P E.w=.ok u E.w
  rw[e]at g1⊢;simpa[Instr.loadAt,Instr.sureAddr,asAddr]using g1
theorem wX{P:Program}{s:St}{E:Env}{a:Act}(d:bN s E a):∀(rs:List ResultVar) (vs:List AV),gQ P s rs=some vs →
  ∃ us:List Value,(rs.mapM (Bj a.tmps)).run P E.w=.ok us E.w∧af E vs us
 | [],vs,h=>by simp[gQ]at h; subst h; exact⟨[],rfl,by simp[af]⟩
 | r::rs,vs,h=>by
  simp only[gQ]at h;split at h
  case h_2=>cases h
  rename_i v g h1 k;cases h;obtain⟨u,g1,g2⟩:=TC d h1;obtain⟨us,g3,g4⟩:=wX d rs g k;refine⟨u::us,?_,by simp only[af]; exact⟨g2,g4⟩⟩;simp only[List.mapM_cons,bW];rw[g1];simp only[bX];rw[g3];rfl
theorem wY(fn:Func)(tmps:Array Value):results fn tmps=(do let vs ← fn.results.mapM (Bj tmps); pure (if h:vs.size=1 then vs[0] else .tuple vs)):=by
 unfold results;congr 1
theorem TD{P:Program}{fn:Func}{s:St}{E:Env}{a:Act}(g:bN s E a){vs:List AV}(h:gQ P s fn.results.toList=some vs) :
  ∃ u,(results fn a.tmps).run P E.w=.ok u E.w∧rel E (c6 vs) u:=by
 obtain⟨us,g1,g2⟩:=wX g fn.results.toList vs h;refine⟨if h:us.toArray.size=1 then us.toArray[0] else .tuple us.toArray,?_,?_⟩
 ·rw [wY]
  simp only[bW];rw[Array.mapM_eq_mapM_toList,Sem.run_map,g1];rfl
 ·have d := fI g2
  cases us with
  | nil =>
   cases vs with
   |nil=>simp[c6,rel,af]
   |cons _ _=>simp at d
  | cons u us =>
   cases us with
   | nil =>
    cases vs with
    |nil=>simp at d
    | cons v vs =>
     cases vs with
     |nil=>simp only[af]at g2; simpa[c6]using g2.1
     |cons _ _=>simp at d
   | cons k us =>
    cases vs with
    |nil=>simp at d
    | cons v vs =>
     cases vs with
     |nil=>simp at d
     | cons v2 vs =>
      simp only[c6,rel];exact⟨(u::k::us).toArray,by simp,g2⟩
def iH(args:List AV)(n:Nat):List AV:=args++bM (n-args.length) .undef
theorem td{E:Env}:∀(vs:List Value),af E (bM vs.length .undef) vs
 | []=>by simp[af]
 |_::vs=>by simp only[cB,List.replicate_succ,af,rel]; exact⟨trivial,td vs⟩
structure fZ (E E':Env):Prop where
 H:E'.H=E.H
 loc:E'.loc=E.loc
 size:E.w.heap.size≤E'.w.heap.size
 same:∀ b,b<E.w.heap.size→¬ E.X b→¬ E'.X b∧E'.w.heap[b]? = E.w.heap[b]?
 X:∀ b,E'.X b→b<E'.w.heap.size
 r:E'.X.r=E.X.r
theorem fZ.own{E E':Env}(h:fZ E E')(b:Nat):E'.own b↔E.own b:=by unfold Env.own Env.sat; rw[h.loc,h.r]
theorem fZ.toC{E E':Env}(h:fZ E E'):E.bF E' :=
 ⟨fun b hb=>⟨⟨dj hb.1 h.size,fun ho=>hb.2.1 ((h.own b).1 ho),(h.same b hb.1 hb.2.2).1⟩,(h.same b hb.1 hb.2.2).2⟩⟩
mutual
theorem te{E E':Env}(h:fZ E E'):∀(a:AV) {c:Value},rel E a c→rel E' a c
 |.undef,_,_=>by simp[rel]
 |.lit v,c,d=>by simpa only[rel]using d
 |.nils,c,d=>by simpa only[rel]using d
 |.list k rows,c,d=>dB h.toC _ (by simp[AV.closed]) d
 |.listF ks rows,c,d=>dB h.toC _ (by simp[AV.closed]) d
 | .agg cells,c,d=>by
  simp only[rel]at d⊢;obtain⟨cs,e,h1,g⟩:=d;exact⟨cs,e,h1,lX h cells g⟩
 | .tuple cells,c,d=>by
  simp only[rel]at d⊢;obtain⟨cs,e,g⟩:=d;exact⟨cs,e,lX h cells g⟩
 |.cptr cells,c,d=>dB h.toC _ (by simp[AV.closed]) d
 | .ptr id ae k row col,c,d=>by
  simp only[rel,Env.past,Env.live,h.H,h.loc]at d⊢;exact d
 | .vec k id ae off n,c,d=>by
  simp only[rel,Env.past,Env.live,h.H,h.loc]at d⊢;exact d
 | .map id,c,d=>by
  simp only[rel,Env.past,Env.live,h.H,h.loc]at d⊢;exact d
 | .clo f caps,c,d=>by
  simp only[rel]at d⊢;obtain⟨cs,e,g⟩:=d;exact⟨cs,e,lX h caps g⟩
 |.ifc,c,d=>by simpa only[rel]using d
 |.emptyS n,c,d=>by simpa only[rel]using d
 | .sub id l j,c,d=>by
  simp only[rel,Env.past,Env.live,Env.Ha,h.H,h.r]at d⊢;exact d
theorem lX{E E':Env}(h:fZ E E'):∀(as:List AV) {vs:List Value},af E as vs→af E' as vs
 | [],[],_=>by simp[af]
 | [],_::_,d=>by simp[af]at d
 |_::_,[],d=>by simp[af]at d
 | a::as,v::vs,d=>by
  simp only[af]at d⊢;exact⟨te h a d.1,lX h as d.2⟩
end
theorem au.cD{E E':Env}(H:au E)(h:fZ E E'):au E' where
 eR:=H.eR.bF h.toC
 len:=by rw[h.loc,h.H]; exact H.len
 inj:=by rw[h.loc]; exact H.inj
 lt:=fun i b m hi=>by
  rw[h.loc]at hi;have:=H.lt i b m hi;exact⟨dj this.1 h.size,(h.same b this.1 this.2).1⟩
 X:=h.X
 obj:=fun i o hi=>by
  rw[h.H]at hi;exact jz (fun a _ d=>te h a d) (by rw[h.loc]) (fun b n hb=>(h.same b (H.lt i b n hb).1 (H.lt i b n hb).2).2) (fun l _=>⟨by rw[h.r],fun k g m hk=>(h.same g (H.cu l k g m hk).1 (H.cu l k g m hk).2).2⟩) (H.obj i o hi)
 eu:=by rw[h.r]; exact H.eu
 cN:=by rw[h.r,h.loc]; exact H.cN
 cu:=fun l k b m hk=>by
  rw[h.r]at hk;have:=H.cu l k b m hk;exact⟨dj this.1 h.size,(h.same b this.1 this.2).1⟩
 uniq:=by rw[h.H]; exact H.uniq
 fJ:=by rw[h.H,h.r]; exact H.fJ
theorem bN.cD{s:St}{E E':Env}{a:Act}(d:bN s E a)(h:fZ E E'){l:List Deferred}(hm:iE E'.w E'.X l):bN s E' { a with defers:=l } :=
 ⟨by rw[h.H]; exact d.H,lX h _ d.fr,hm,d.heap.cD h⟩
theorem IG{P:Program}{fn:Func}{tmps:Array Value}{R:Ending→World→Prop}:∀(l:List Deferred) (w:World) (X:XS),iE w X l →
  (∀ w',w'.heap.size=w.heap.size→(∀ b,w'.heap[b]? ≠ w.heap[b]? → X b∧X.z b)→dJ w w'→∃ v,(results fn tmps).run P w'=.ok v w'∧R (.returned v) w')→LeavesInM (fz none) 0 P fn tmps R l .returning w
 | [],w,X,_,h=>h w rfl (fun b hb=>(hb rfl).elim) (dJ.refl w)
 | d::l,w,X,hm,h=>by
  obtain⟨D,e,h1,y,B⟩:=hm.2 d db;subst e;have N:D<w.heap.size:=(fT.1 h1).1;have g:∀ b,b≠D→(w.putObj D (.deferred none)).heap[b]? = w.heap[b]? := fun b hb=>World.putObj_heap_other hb;have u:(w.putObj D (.deferred none)).heap.size=w.heap.size:=by simp[World.putObj]
  refine⟨by simp,.inl ⟨D,_,rfl,run_takeDeferred h1,IG l _ X ⟨(lI.1 hm.1).2,fun d' k=>?_⟩ fun w' g1 g2 g3=>h w' (by rw[g1,u]) (fun b hb=>?_) (dJ.trans ⟨rfl,rfl,rfl,by first|exact fun _=>aG _|exact fun _=>Nat.le_add_right _ _⟩ g3)⟩⟩
  ·obtain ⟨q, e', I, J, M⟩ := hm.2 d' (List.mem_cons_of_mem _ k)
   refine⟨q,e',?_,J,M⟩;rw[g q (fun e=>(lI.1 hm.1).1 (by rw[←e,←e']; exact k))];exact I
  ·by_cases e : b = D
   ·subst e
    exact⟨y,B⟩
   ·refine g2 b ?_
    rw[g b e];exact hb
theorem Bk{P:Program}{f:FuncId}{fn:Func}{c:Code}{args:Array Value}{w:World}{R:Ending→World→Prop}(k:P.funcs[f]? = some fn)(hb:fn.body=some c)
  (h : c.wpIn (fz none) 0 P (fun e g d => (e = .normal ∨ e = .ret) ∧ ∃ X, iE d X g.defers ∧ ∀ w', w'.heap.size = d.heap.size → (∀ b, w'.heap[b]? ≠ d.heap[b]? → X b ∧ X.z b) → dJ d w' → ∃ v, (results fn g.tmps).run P w' = .ok v w' ∧ R (.returned v) w')
   { tmps:=args++mG (fn.ntmps-args.size) undef,defers:=[] } w):Calls P f args w R:=by
 refine(callsIn_wide (n:=0)).1 (callsIn_of_wp_marks (F:=fz none) k hb trivial (wpIn_mono h fun e g d q=>?_));obtain⟨he,X,h1,u⟩:=q;have:=IG (P:=P) (fn:=fn) (tmps:=g.tmps) (R:=R) g.defers d X h1 u;rcases he with rfl|rfl
 ·exact this
 ·exact this
theorem Bl{m:Nat}{E:Env}{s':St}{g:List (Option (Nat × Nat))}{X':XS}{k:Act}{d w':World}(HE:au E)(y:bN s' { w:=d,H:=s'.H,loc:=g,X:=X' } k)
  (hle:({ E with X:=⟨E.X.x,fun _=>False,E.X.r⟩ }:Env).di m { w:=d,H:=s'.H,loc:=g,X:=X' }) (h1:w'.heap.size=d.heap.size) (q:∀ b,w'.heap[b]? ≠ d.heap[b]? → X' b∧X'.z b) (B:dJ d w') :
  bN s' { w:=w',H:=s'.H,loc:=g,X:=E.X.re X'.r } { k with defers:=[] }∧E.di m { w:=w',H:=s'.H,loc:=g,X:=E.X.re X'.r }:=by
 have v:∀ b,b<E.w.heap.size→w'.heap[b]? = d.heap[b]? := fun b hb=>agG fun h=>((hle.X b hb).2.1 (q b h).2).elim;have I:E.w.heap.size≤d.heap.size:=hle.size;have cD:fZ { w:=d,H:=s'.H,loc:=g,X:=X' } { w:=w',H:=s'.H,loc:=g,X:=E.X.re X'.r } :=
  ⟨rfl, rfl, by show d.heap.size ≤ w'.heap.size; omega, fun b hb u => ⟨fun he => u ((hle.X b (HE.X b he)).1.2 he), agG fun h => u (q b h).1⟩, fun b hb => by
   have:=HE.X b hb;show b<w'.heap.size
   omega,rfl⟩
 refine⟨y.cD cD (om _ _),⟨hle.past,by show E.w.heap.size≤w'.heap.size; omega,fun b hb ho=>?_,hle.own,hle.live,fun b _=>⟨Iff.rfl,Iff.rfl⟩,hle.rl,hle.env.trans B,hle.grow⟩⟩;show w'.heap[b]? = E.w.heap[b]?
 rw[v b hb];exact hle.same b hb ho
theorem qp{E:Env}(HE:au E):fZ E { E with X:=⟨E.X.x,fun _=>False,E.X.r⟩ }:=⟨rfl,rfl,aG _,fun b _ d=>⟨d,rfl⟩,HE.X,rfl⟩
theorem TE{P:Program}{f:FuncId}{fn:Func}{c:Code}{args:List AV}{H:List ab}{x:bS}{s':St}{vs:List AV}
  (B:P.funcs[f]? = some fn) (hb:fn.body=some c) (I:cU P H.length c ⟨iH args fn.ntmps,H⟩ x s') (J:x=.normal∨x=.ret) (M:gQ P s' fn.results.toList=some vs) (y:wU H) :
  dv P f args H (c6 vs) s'.H:=by
 intro E cargs hH HE h;refine Bk B hb ?_;have k:=qp HE;have h:=lX k _ h;have q:bN ⟨iH args fn.ntmps,H⟩ { E with X:=⟨E.X.x,fun _=>False,E.X.r⟩ } { tmps:=cargs++mG (fn.ntmps-cargs.size) undef,defers:=[] }:=by
  refine⟨hH,?_,om _ _,HE.cD k⟩;simp only[iH,vM,Array.toList_replicate];refine jC h ?_;have:=fI h;have e:args.length=cargs.size:=by simpa using this
  rw[e];have:=td (E:={ E with X:=⟨E.X.x,fun _=>False,E.X.r⟩ }) (bM (fn.ntmps-cargs.size) undef);simpa using this
 refine wpIn_mono (I none (Bh _) { E with X:=⟨E.X.x,fun _=>False,E.X.r⟩ } _ q) fun e W w1 ⟨N,v,X',d,g⟩=>?_;refine⟨by subst N; rcases J with rfl|rfl; exact .inl rfl; exact .inr rfl,X',d.defers,fun w' O U V=>?_⟩;obtain⟨d,g⟩:=Bl HE d g O U V;obtain⟨u,g1,g2⟩:=TD d M;have g:=g.full ⟨rfl,rfl⟩ (by rw[hH]; exact aG _) (by rw[hH]; exact y);exact⟨u,g1,u,c6 vs,s'.H,rfl,⟨rfl,rfl⟩,v,X'.r,g2,d.heap,g⟩
theorem TF{P:Program}{f:FuncId}{args:List AV}{v:AV}{H1:List ab}(h:dv P f args [] v H1)(ha:AV.bq args=true)(M:v.closed=true):cH P f args v:=by
 intro H E cargs hH HE B
 let E0:Env:={ w:=E.w,H:=[],loc:=[],X:=(E.X.or E.own).re dA }
 have g:∀ b,¬ E0.own b:=by rintro b (⟨id,c,hid⟩|⟨l,k,c,hk⟩); simp[E0]at hid; simp[E0,dA]at hk
 have hC:E.bF E0:=⟨fun b hb=>⟨⟨hb.1,g b,fun d=>d.elim hb.2.2 hb.2.1⟩,rfl⟩⟩
 have J:au E0:=by
  refine⟨rfl,?_,?_,?_,?_,HE.eR.bF hC,fun l k l' k' b m n hk=>by simp[E0,dA]at hk,fun i b m l k n hi=>by simp[E0]at hi,fun l k b m hk=>by simp[E0,dA]at hk,fun i j o o' l hi=>by simp[E0]at hi,fun l _ k q hk=>by simp[E0,dA]at hk⟩
  ·intro i j b m n hi; simp[E0]at hi
  ·intro i b m hi; simp[E0]at hi
  ·rintro b (d | ho)
   ·exact HE.X b d
   ·exact(HE.wa ho).1
  ·intro i o hi; simp[E0]at hi
 refine(h E0 cargs rfl J (mJ hC args ha B)).mono ?_;rintro _ w' ⟨c,y,H',rfl,⟨rfl,rfl⟩,I,r',g1,g2,g3⟩;have u:Ext E.w w':=⟨g3.size,fun b hb=>g3.same b hb (g b),g3.env⟩
 refine⟨c,y,H,rfl,⟨rfl,rfl⟩,E.loc,E.X.r,?_,?_,?_⟩
 ·rw [← hH]
  exact dB (E:={ w:=w',H:=H',loc:=I,X:=E0.X.re r' }) (E':={ w:=w',H:=E.H,loc:=E.loc,X:=E.X })
   ⟨fun b hb=>⟨⟨hb.1,fun ho=>hb.2.2 (Or.inr ho),fun d=>hb.2.2 (Or.inl d)⟩,rfl⟩⟩ y M g1
 ·rw[←hH]; exact HE.ext u
 ·rw[←hH]; exact Env.iD u
end Go.AL

namespace Go.AL
open Go
variable [Dr]
variable {P:Program} {pf:FuncId→Bool} {ops:Array Oper}
def kn(r:Operand→AV):Op→Option Nat
 | .load _ a=>match r a with
  |.ptr id _ _ _ _=>some id
  |_=>none
 | .lookup _ m _ _=>match r m with
  |.map id=>some id
  |.sub id _ _=>some id
  |_=>none
 | .call c=>match c.args.toList with
  | [a]=>match r a with
   |.map id=>some id
   |_=>none
  |_=>none
 |_=>none
theorem IH{r:Operand→AV}{H H2:List ab}:∀{op:Op},(∀ id,kn r op=some id→H2[id]? = H[id]?)→ev P r H2 op=ev P r H op:=by
 intro op h;cases op<;>simp only[ev]
 case load t a =>
  simp only[kn]at h;unfold gK;cases ha:r a with
  | ptr id ae w row col =>
   rw[ha]at h;have:=h id rfl;simp only[this]
  |_=>rfl
 case lookup t m k ok =>
  simp only[kn]at h;have d:ja P t (r m) (r k) ok H2=ja P t (r m) (r k) ok H:=S_ (fun id e=>by rw[e]at h; exact h id rfl) (fun id l j e=>by rw[e]at h; exact h id rfl);rw[d];have h1:fB P t (r m) (r k) ok H2=fB P t (r m) (r k) ok H:=by
   unfold fB;cases cW P t with
   |none=>rfl
   | some p =>
    obtain⟨g,q⟩:=p;cases hm:r m with
    | map id =>
     rw[hm]at h;have:=h id rfl;simp only[this]
    |_=>rfl
  rw[h1]
 case call c =>
  simp only[kn]at h;unfold mT;split
  ·rename_i a t u ha v
   rw[ha]at h;simp only[]at h;cases cW P t with
   |none=>rfl
   | some p =>
    cases hm:r a with
    | map id =>
     rw[hm]at h;have:=h id rfl;simp only[this]
    |_=>rfl
  ·rfl
theorem II{r r':Operand→AV}(o:Op)(h:∀ x∈o.operands,r x=r' x):kn r o=kn r' o:=by
 cases o<;>simp only[kn]
 case load t a =>
  simp only[eO]at h;rw[h a (by simp)]
 case lookup t m k ok =>
  simp only[eO]at h;rw[h m (by simp)]
 case call c =>
  split
  ·rename_i a ha
   have:a∈(Op.call c).operands:=by
    show a∈c.operands
    have h1:a∈c.args:=by
     have:a∈c.args.toList:=by rw[ha]; simp
     simpa using this
    simp[sD,h1]
   rw[h a this]
  ·rfl
abbrev gR:=List (Nat × List Nat × Nat)
abbrev iI:=List (Nat × Nat)
def kept(W:gR)(j A:Nat):Prop:=∀ e∈W,e.1=j→A∉e.2.1∧A<e.2.2
def Bm(ops:Array Oper):Bool :=
 (dG ops.size).any fun j => (dG j).any fun i => match ops[i]?, ops[j]? with
  |some x,some y=>dU x.op&&dU y.op && !waits ops ops.size j i
  |_,_=>false
def jG:Op→Bool
 | .call c=>match c.callee with
  |.value (.func _)=>true
  |_=>false
 |_=>false
def isVar:Op→Bool
 |.alloc _=>true
 |_=>false
theorem qs{op:Op}(h:isVar op=true):dU op=true:=by
 unfold isVar at h;split at h
 ·rfl
 ·cases h
def mU(ops:Array Oper):Bool :=
 (dG ops.size).any fun j => (dG j).any fun i => match ops[i]?, ops[j]? with
  |some x,some y=>jG x.op&&isVar y.op && !waits ops ops.size j i
  |_,_=>false
def iq:Op→Bool
 |.mapEntry ..=>true
 |.entryStore ..=>true
 |_=>false
def Bn(ops:Array Oper):Bool :=
 (dG ops.size).any fun j => (dG j).any fun i => match ops[i]?, ops[j]? with
  |some x,some y=>dU x.op&&iq y.op && !waits ops ops.size j i
  |_,_=>false
def lY(ops:Array Oper):Bool:=(Bm ops||mU ops)||Bn ops
theorem IJ{pf:FuncId→Bool}{op:Op}(h:iq op=true):cI pf op=.write:=by
 unfold iq at h;split at h
 ·rfl
 ·rfl
 ·cases h
theorem TG{op:Op}(h:iq op=true):dU op=false:=by
 unfold iq at h;split at h
 ·rfl
 ·rfl
 ·cases h
theorem TH{op:Op}(h:iq op=true):jG op=false:=by
 unfold iq at h;split at h
 ·rfl
 ·rfl
 ·cases h
theorem lZ{pf:FuncId→Bool}{op:Op}(h:dU op=true):cI pf op=.write:=by
 unfold dU at h;split at h
 ·rfl
 ·rfl
 ·cases h
theorem wZ{pf:FuncId→Bool}{op:Op}{X:Prop}(h:cI pf op≠.write):dU op=true→X:=fun ha=>(h (lZ ha)).elim
theorem kX{op:Op}(h:dU op=true):jG op=false:=by
 unfold dU at h;split at h
 ·rfl
 ·rfl
 ·cases h
def l4(σ:List (Nat × ab))(H:List ab):List ab:=σ.foldl (fun H p=>H.set p.1 p.2) H
def w5(W:gR)(j:Nat)(H:List ab)(σ:List (Nat × ab)):Prop:=∀ p∈σ,kept W j p.1∧∃ k r,H[p.1]? = some (.vec k 0 [])∧p.2=.vec k 1 r
def Step(P:Program)(pf:FuncId→Bool)(ops:Array Oper)(R:iI)(W:gR)(j:Nat)(o:Oper)(s:St)(v:AV)(H':List ab):Prop :=
 (cI pf o.op = .write → ∀ A, kept W j A → H'[A]? = s.H[A]?) ∧ (cI pf o.op = .read → bO ops s.fr o = some true → ∀ id, kn s.eval o.op = some id → (j, id) ∈ R) ∧
  (dU o.op=true→lY ops=true→bO ops s.fr o=some true→H'.length=s.H.length∧∀ id,H'[id]? ≠ s.H[id]? → ∃ e∈W,e.1=j∧id∈e.2.1) ∧
  (jG o.op=true→mU ops=true→cI pf o.op=.write→bO ops s.fr o=some true→∀ σ,w5 W j s.H σ→Yields P pf ops o ⟨s.fr,l4 σ s.H⟩ v (l4 σ H'))
def IK(R:iI)(W:gR)(i j:Nat):Prop:=∀ id,(i,id)∈R→kept W j id
def Bo(pf:FuncId→Bool)(ops:Array Oper)(R:iI)(W:gR)(i:Nat)(x:Oper)(j:Nat)(y:Oper):Prop :=
 lW pf x y=true∨(cI pf x.op=.read∧cI pf y.op=.write∧IK R W i j)∨(cI pf x.op=.write∧cI pf y.op=.read∧IK R W j i)∨(dU x.op=true∧dU y.op=true∧lY ops=true) ∨
  (cI pf x.op=.write∧jG x.op=true∧isVar y.op=true∧mU ops=true∧∀ e∈W,e.1=j→∀ id∈e.2.1,kept W i id) ∨
  (dU x.op=true∧iq y.op=true∧lY ops=true∧∀ e∈W,e.1=i→∀ id∈e.2.1,kept W j id)
theorem IL{o:Oper}{s:St}{v:AV}{H':List ab}(ho:isVar o.op=true)(h:Yields P pf ops o s v H')(g:bO ops s.fr o=some true→H'.length=s.H.length) :
  (bO ops s.fr o = some false ∧ v = .tuple [] ∧ H' = s.H) ∨
   (bO ops s.fr o=some true∧∃ t id z k m,o.op=.alloc t∧dS P t=some z∧s.H[id]? = some (.vec k 0 [])∧k=z.length∧v=.ptr id 1 k 0 0∧H'=s.H.set id (.vec k 1 [dK m z])):=by
 unfold Yields at h;cases hw:bO ops s.fr o with
 |none=>rw[hw]at h; exact h.elim
 | some b =>
  rw[hw]at h;cases b with
  |false=>exact .inl ⟨rfl,h.1,h.2⟩
  | true =>
   right;refine⟨rfl,?_⟩;simp only[lZ (qs ho)]at h;have g:=g hw;rcases h with(h|⟨f,args,h1,_⟩)|(⟨t,id,m,d,u⟩|⟨t,id,d,u⟩)|q
   ·unfold isVar at ho
    split at ho
    ·rename_i t d
     rw[d]at h;simp only[cT,ox]at h;split at h
     ·split at h
      ·cases h
       simp at g
      ·cases h
     ·split at h
      ·cases h
       simp at g
      ·cases h
    ·cases ho
   ·unfold isVar at ho
    split at ho
    ·rename_i t d
     rw[d]at h1;cases h1
    ·cases ho
   ·obtain ⟨z, k, h1, y, B, I, J⟩ := Iv u
    exact⟨t,id,z,k,m,d,h1,y,B,I,J⟩
   ·rw [d] at ho
    cases ho
   ·unfold isVar at ho
    split at ho
    ·rename_i t d
     rw[d]at q;exact q.elim
    ·cases ho
def iJ(P:Program)(op:Op)(id:Nat)(y:ab)(v:AV)(x:ab):Prop :=
 (∃ t z k m,op=.alloc t∧dS P t=some z∧k=z.length∧y=.vec k 0 []∧v=.ptr id 1 k 0 0∧x=.vec k 1 [dK m z])∨∃ t,op=.makeMap t none∧y=.dI∧v=.map id∧x=.map [] 0
theorem iJ.ne{op g:Op}{id k:Nat}{y d x q:ab}{v u:AV}(h:iJ P op id y v x)(h':iJ P g k d u q):x≠d:=by
 rcases h with⟨_,_,_,_,_,_,_,_,_,rfl⟩|⟨_,_,_,_,rfl⟩<;>rcases h' with⟨_,_,_,_,_,_,_,rfl,_,_⟩|⟨_,_,rfl,_,_⟩<;>intro e<;>cases e
theorem Bp{o:Oper}{s:St}{v:AV}{H':List ab}(ho:dU o.op=true)(h:Yields P pf ops o s v H')(q:bO ops s.fr o=some true→H'.length=s.H.length) :
  (bO ops s.fr o = some false ∧ v = .tuple [] ∧ H' = s.H) ∨
   (bO ops s.fr o=some true∧∃ id y x,iJ P o.op id y v x∧s.H[id]? = some y∧H'=s.H.set id x):=by
 cases g:isVar o.op with
 | true =>
  rcases IL g h q with h|⟨h1,t,id,z,k,m,B,I,M,N,O,U⟩
  ·exact .inl h
  ·exact .inr ⟨h1,id,_,_,.inl ⟨t,z,k,m,B,I,N,rfl,O,rfl⟩,M,U⟩
 | false =>
  have hm:∃ t,o.op=.makeMap t none:=by
   unfold dU at ho;split at ho
   ·rename_i t d
    rw[d]at g;cases g
   ·rename_i t d
    exact⟨t,d⟩
   ·cases ho
  obtain⟨t,d⟩:=hm;unfold Yields at h;cases hw:bO ops s.fr o with
  |none=>rw[hw]at h; exact h.elim
  | some b =>
   rw[hw]at h;cases b with
   |false=>exact .inl ⟨rfl,h.1,h.2⟩
   | true =>
    right;refine⟨rfl,?_⟩;simp only[lZ ho]at h;have q:=q hw;rcases h with(h|⟨f,args,h1,_⟩)|(⟨t',id,m,u,g⟩|⟨t',id,u,g⟩)|J
    ·rw [d] at h
     simp only[cT]at h;cases h;simp at q
    ·rw [d] at h1
     cases h1
    ·rw [d] at u
     cases u
    ·obtain ⟨h1, B, I⟩ := AY g
     exact⟨id,_,_,.inr ⟨t,d,rfl,B,rfl⟩,h1,I⟩
    ·rw [d] at J
     exact J.elim
theorem IM{o:Oper}{s:St}{t:TypeId}{id k:Nat}{z:List Value}(hw:bO ops s.fr o=some true)(ho:o.op=.alloc t)(d:dS P t=some z)(hid:s.H[id]? = some (.vec k 0 []))(hk:k=z.length) (m:List (Option (List Kd))) :
  Yields P pf ops o s (.ptr id 1 k 0 0) (s.H.set id (.vec k 1 [dK m z])):=by
 unfold Yields;rw[hw,ho];exact .inr (.inl (.inl ⟨t,id,m,rfl,Iw m d hid hk⟩))
theorem Bq{o:Oper}{s:St}{id:Nat}{v:AV}{x y:ab}(hw:bO ops s.fr o=some true)(d:iJ P o.op id y v x)(hid:s.H[id]? = some y):Yields P pf ops o s v (s.H.set id x):=by
 rcases d with⟨t,z,k,m,h1,g,h,rfl,rfl,rfl⟩|⟨t,h1,rfl,rfl,rfl⟩
 ·exact IM hw h1 g hid h m
 ·unfold Yields
  rw[hw,h1];exact .inr (.inl (.inr ⟨t,id,rfl,HW hid⟩))
def kp:ab→Bool
 |.aH ..=>false
 |.mm ..=>false
 |_=>true
theorem iJ.no{op:Op}{id:Nat}{y x:ab}{v:AV}(h:iJ P op id y v x):kp x=true∧kp y=true∧x≠.dead:=by
 rcases h with⟨_,_,_,_,_,_,_,rfl,_,rfl⟩|⟨_,_,rfl,_,rfl⟩
 ·exact⟨rfl,rfl,fun e=>by cases e⟩
 ·exact⟨rfl,rfl,fun e=>by cases e⟩
theorem TI{t:TypeId}{id:Nat}{k:AV}{H:List ab}{x:ab}(h:H[id]? = some x)(d:kp x=true):gO P t (.map id) k H=none∧iF P t (.map id) k H=none:=by
 unfold gO iF;cases cW P t with
 |none=>exact⟨rfl,rfl⟩
 | some p =>
  simp only[h];cases x<;>first|exact⟨rfl,rfl⟩|cases d
theorem TJ{t:TypeId}{id a:Nat}{k:AV}{H:List ab}{x:ab}(d:id≠a)(ha:a<H.length):gO P t (.map id) k (H.set a x)=(gO P t (.map id) k H).map fun p=>(p.1,p.2.set a x):=by
 unfold gO;cases cW P t with
 |none=>rfl
 | some p =>
  simp only[aT (Ne.symm d),List.length_set];split
  ·split
   ·split
    ·split
     ·split
      ·simp only [eF]
       rw[GW _ _ (by simpa using ha),lJ _ _ d]
      ·rfl
     ·simp only [eF]
      rw[GW _ _ (by simpa using ha),lJ _ _ d]
     ·rfl
    ·rfl
   ·rfl
  ·rfl
theorem TK{t:TypeId}{id a:Nat}{k:AV}{H:List ab}{x:ab}(d:id≠a):iF P t (.map id) k (H.set a x)=(iF P t (.map id) k H).map fun p=>(p.1,p.2.set a x):=by
 unfold iF;cases cW P t with
 |none=>rfl
 | some p =>
  simp only[aT (Ne.symm d)];split
  ·split
   ·split
    ·simp only [eF]
     rw[lJ _ _ d]
    ·rfl
   ·rfl
  ·rfl
theorem TL{t:TypeId}{id a:Nat}{k v:AV}{H H':List ab}(d:id≠a)(ha:a<H.length)(h:gO P t (.map id) k H=some (v,H')):H'[a]? = H[a]? := by
 unfold gO at h;split at h
 case h_2=>cases h
 rename_i he;cases he;split at h
 case h_2=>cases h
 split at h
 case h_2=>cases h
 split at h
 case h_2=>cases h
 split at h
 ·split at h
  ·cases h
   rw[cK (by simpa using ha),aT d]
  ·cases h
 ·cases h
  rw[cK (by simpa using ha),aT d]
 ·cases h
theorem TM{t:TypeId}{id a:Nat}{k v:AV}{H H':List ab}(d:id≠a)(h:iF P t (.map id) k H=some (v,H')):H'[a]? = H[a]? := by
 unfold iF at h;split at h
 case h_2=>cases h
 rename_i he;cases he;split at h
 case h_2=>cases h
 split at h
 case h_2=>cases h
 split at h
 ·cases h
  rw[aT d]
 ·cases h
theorem TN{m s v:AV}{a:Nat}{x y:ab}{H k:List ab}(B:H[a]? = some y)(I:kp x=true∧kp y=true∧x≠.dead)(h:jD m s v (H.set a x)=some k)(hk:k[a]? = some x) :
  ∃ H1,jD m s v H=some H1∧k=H1.set a x∧H1[a]? = some y:=by
 have u:=aK B;unfold jD at h⊢;split at h
 case h_2=>cases h
 rename_i id st w j ae off n;have d:id≠a:=fun e=>by
  subst e;rw[bB u]at h;obtain⟨h1,_⟩:=I;cases x<;>first|cases h|cases h1
 rw[aT (Ne.symm d)]at h;split at h
 case h_2=>cases h
 rename_i l w' es cl N M rows g1 g2;split at h
 case isFalse=>cases h
 rename_i J;split at h
 case h_2=>cases h
 rename_i i hi;split at h
 case h_2=>cases h
 rename_i key q bn hb;cases h;have g:j≠a:=fun e=>by
  subst e;rw[bB (by simpa using u)]at hk;exact I.2.2 (fW hk).symm
 rw[aT (Ne.symm g)]at g2;rw[g1,g2];simp only[if_pos J,hi,hb];refine⟨_,rfl,?_,?_⟩
 ·rw[lJ _ _ (Ne.symm d),lJ _ _ (Ne.symm g)]
 ·rw[aT g,aT d,B]
theorem TO{m s v:AV}{a:Nat}{x y:ab}{H k:List ab}(u:H[a]? = some y)(B:kp x=true∧kp y=true∧x≠.dead)(h:km m s v (H.set a x)=some k)(hk:k[a]? = some x) :
  ∃ H1,km m s v H=some H1∧k=H1.set a x∧H1[a]? = some y:=by
 have q:=aK u;unfold km at h⊢;split at h
 case h_2=>cases h
 rename_i id st j;have d:id≠a:=fun e=>by
  subst e;rw[bB q]at h;obtain⟨h1,_⟩:=B;cases x<;>first|cases h|cases h1
 rw[aT (Ne.symm d)]at h;split at h
 case h_2=>cases h
 rename_i l es ms cl I clk g1 g2;split at h
 case h_2=>cases h
 rename_i i hi;split at h
 case h_2=>cases h
 rename_i key bn hb;cases h;have g:j≠a:=fun e=>by
  subst e;rw[bB (by simpa using q)]at hk;exact B.2.2 (fW hk).symm
 rw[aT (Ne.symm g)]at g2;rw[g1,g2];simp only[hi,hb];refine⟨_,rfl,?_,?_⟩
 ·rw[lJ _ _ (Ne.symm d),lJ _ _ (Ne.symm g)]
 ·rw[aT g,aT d,u]
theorem TP{m s v:AV}{a:Nat}{x y:ab}{H:List ab}(d:H[a]? = some y)(g:kp x=true∧kp y=true∧x≠.dead){H2:List ab}(hm:km m s v H=some H2):jD m s v H=none:=by
 unfold km at hm;split at hm
 case h_2=>cases hm
 rfl
theorem TQ{op:Op}(J:iq op=true){r:Operand→AV}{H M:List ab}{a:Nat}{x y:ab}{u:AV}(d:H[a]? = some y)(q:kp x=true∧kp y=true∧x≠.dead)(h:cT P r (H.set a x) op=some (u,M))(hk:M[a]? = some x) :
  ∃ H1,cT P r H op=some (u,H1)∧M=H1.set a x∧H1[a]? = some y:=by
 have B:=aK d;unfold iq at J;split at J
 ·rename_i t m k
  simp only[cT]at h⊢;cases hm:r m with
  | map id =>
   rw[hm]at h;by_cases g:id=a
   ·subst g
    obtain⟨U,V⟩:=TI (P:=P) (t:=t) (k:=r k) (bB (a:=x) B) q.1;rw[U,V]at h;cases h
   ·rw [TJ g B, TK g] at h
    cases he:gO P t (.map id) (r k) H with
    | some p =>
     rw[he]at h;simp only[eF]at h;obtain⟨p1,N⟩:=p;cases h;exact⟨N,rfl,rfl,by rw[TL g B he,d]⟩
    | none =>
     rw[he]at h;simp only[Option.map_none]at h;cases I:iF P t (.map id) (r k) H with
     | some p =>
      rw[I]at h;simp only[eF]at h;obtain⟨p1,N⟩:=p;cases h;exact⟨N,rfl,rfl,by rw[TM g I,d]⟩
     | none =>
      rw[I]at h;cases h
  | _ =>
   rw[hm]at h;unfold gO iF at h;cases O:cW P t with
   |none=>rw[O]at h; cases h
   |some p=>rw[O]at h; cases h
 ·rename_i t m s v
  simp only[cT]at h⊢;cases he:jD (r m) (r s) (r v) (H.set a x)with
  | some H2 =>
   rw[he]at h;cases h;obtain⟨H1,g1,g2,g3⟩:=TN d q he hk;rw[g1];exact⟨H1,rfl,g2,g3⟩
  | none =>
   rw[he]at h;cases hm:km (r m) (r s) (r v) (H.set a x)with
   |none=>rw[hm]at h; cases h
   | some H2 =>
    rw[hm]at h;cases h;obtain⟨H1,g1,g2,g3⟩:=TO d q hm hk;rw[TP d q g1,g1];exact⟨H1,rfl,g2,g3⟩
 ·cases J
theorem TR{o:Oper}{s:St}{u:AV}{q:List ab}(g:iq o.op=true)(h:Yields P pf ops o s u q)(hw:bO ops s.fr o=some true):cT P s.eval s.H o.op=some (u,q):=by
 unfold Yields at h;simp only[hw,IJ g]at h;rcases h with(h|⟨f,args,h1,_⟩)|(⟨t,id,m,d,_⟩|⟨t,id,d,_⟩)|k
 ·exact h
 ·unfold iq at g
  split at g
  ·rename_i d
   rw[d]at h1;cases h1
  ·rename_i d
   rw[d]at h1;cases h1
  ·cases g
 ·rw [d] at g
  cases g
 ·rw [d] at g
  cases g
 ·unfold iq at g
  split at g
  ·rename_i d
   rw[d]at k;exact k.elim
  ·rename_i d
   rw[d]at k;exact k.elim
  ·cases g
theorem TS{R:iI}{W:gR}{i j:Nat}{B g:Oper}{s:St}{v u:AV}{N d:List ab}(h1:B.apart ops g=true)(h2:g.apart ops B=true)(hc:Bo pf ops R W i B j g)
  (hi:Yields P pf ops B s v N) (si:Step P pf ops R W i B s v N) (O:Yields P pf ops g (s.put B.dst v N) u d) (sj:Step P pf ops R W j g (s.put B.dst v N) u d) :
  ∃ Hj1,Yields P pf ops g s u Hj1∧Step P pf ops R W j g s u Hj1∧Yields P pf ops B (s.put g.dst u Hj1) v d∧Step P pf ops R W i B (s.put g.dst u Hj1) v d:=by
 obtain⟨a1,a2,a3⟩:=GQ h1;have wj:bO ops (s.put B.dst v N).fr g=bO ops s.fr g:=wS a1;have wi:∀ H2,bO ops (s.put g.dst u H2).fr B=bO ops s.fr B:=fun H2=>wS a3;have ej:∀ x∈g.op.operands,(s.put B.dst v N).eval x=s.eval x:=fun x hx=>eval_put a1 hx;have ei:∀ H2,∀ x∈B.op.operands,(s.put g.dst u H2).eval x=s.eval x:=fun H2 x hx=>eval_put a3 hx;have cj:=II g.op ej;have ci:=fun H2=>II B.op (ei H2);have evj:=Is (P:=P) (H:=N) g.op ej;have readJ:cI pf g.op=.read→Step P pf ops R W j g s u s.H:=fun q=>⟨fun hw=>(by rw[q]at hw; cases hw),fun _ hw id hid=>sj.2.1 q (by rw[wj]; exact hw) id (by rw[cj]; exact hid),wZ (by rw[q]; simp),fun _ _ hw=>(by rw[q]at hw; cases hw)⟩
 have readI:cI pf B.op=.read→∀ H2 H3,Step P pf ops R W i B (s.put g.dst u H2) v H3:=fun q H2 H3=>⟨fun hw=>(by rw[q]at hw; cases hw),fun _ hw id hid=>si.2.1 q (by rw[wi]at hw; exact hw) id (by rw[ci]at hid; exact hid),wZ (by rw[q]; simp),fun _ _ hw=>(by rw[q]at hw; cases hw)⟩
 have frj:∀{H2 H3:List ab} {v':AV},Yields P pf ops g ⟨(s.put B.dst v N).fr,H2⟩ v' H3→Yields P pf ops g ⟨s.fr,H2⟩ v' H3:=fun {H2 _ _} h=>(fa (s1:=⟨(s.put B.dst v N).fr,H2⟩) (s:=⟨s.fr,H2⟩) wj (fun x hx=>by
  have:=ej x hx;cases x<;>exact this) rfl).1 h
 have fri:∀{H1 H2 H3:List ab} {v':AV},Yields P pf ops B ⟨s.fr,H2⟩ v' H3→Yields P pf ops B ⟨(s.put g.dst u H1).fr,H2⟩ v' H3:=fun {H1 H2 _ _} h=>(fa (s1:=⟨(s.put g.dst u H1).fr,H2⟩) (s:=⟨s.fr,H2⟩) (wi H1) (fun x hx=>by
  have:=ei H1 x hx;cases x<;>exact this) rfl).2 h
 have toJ:N=s.H→Step P pf ops R W j g s u d:=by
  intro e;subst e;exact⟨fun hw A U=>sj.1 hw A U,fun q hw id hid=>sj.2.1 q (by rw[wj]; exact hw) id (by rw[cj]; exact hid),fun ha ht hw=>sj.2.2.1 ha ht (by rw[wj]; exact hw),
   fun M hca hw hwa σ hσ=>frj (sj.2.2.2 M hca hw (by rw[wj]; exact hwa) σ hσ)⟩
 have toI:d=N→Step P pf ops R W i B (s.put g.dst u s.H) v d:=by
  intro e;subst e;exact⟨fun hw A U=>si.1 hw A U,fun q hw id hid=>si.2.1 q (by rw[wi]at hw; exact hw) id (by rw[ci]at hid; exact hid),fun ha ht hw=>si.2.2.1 ha ht (by rw[wi]at hw; exact hw),
   fun M hca hw hwa σ hσ=>fri (si.2.2.2 M hca hw (by rw[wi]at hwa; exact hwa) σ hσ)⟩
 have old:lW pf B g=true→∃ Hj1,Yields P pf ops g s u Hj1∧Yields P pf ops B (s.put g.dst u Hj1) v d:=fun hc=>Ix h1 h2 hc hi O;cases I:cI pf B.op with
 | pure =>
  obtain⟨V,g1⟩:=tc I hi;subst V;refine⟨d,(fa wj ej rfl).1 O,toJ rfl,
   (fa (s1:=s.put g.dst u d) (s:=⟨s.fr,d⟩) (wi d) (fun x hx=>by rw[ei d x hx]; cases x<;>rfl) rfl).2 (g1 d),⟨fun hw=>(by rw[I]at hw; cases hw),fun q=>(by rw[I]at q; cases q),wZ (by rw[I]; simp),fun _ _ hw=>(by rw[I]at hw; cases hw)⟩⟩
 | read =>
  have V:=oG I hi;subst V;have hj':=(fa wj ej rfl).1 O;refine⟨d,hj',toJ rfl,?_,readI I _ _⟩;have key:∀ H2:List ab,St.eval ⟨s.fr,H2⟩=s.eval:=fun H2=>by funext x; cases x<;>rfl
  have same:bO ops s.fr B=some true→ev P s.eval d B.op=ev P s.eval s.H B.op:=by
   intro hw;cases J:cI pf g.op with
   | pure =>
    have:=(tc J hj').1;rw[this]
   | read =>
    have:=oG J hj';rw[this]
   | write =>
    rcases hc with hc|⟨_,_,hap⟩|⟨hw',_,_⟩|⟨hw',_,_⟩|⟨hw',_⟩|⟨hw',_⟩
    ·obtain ⟨Hj1, q1, q2⟩ := old hc
     have q3:=(fa (s1:=s.put g.dst u Hj1) (s:=⟨s.fr,Hj1⟩) (wi Hj1) (fun x hx=>by rw[ei Hj1 x hx]; cases x<;>rfl) rfl).1 q2;have e2:d=Hj1:=oG I q3;subst e2;unfold Yields at q3 hi;simp only[I,hw]at q3 hi;rw[key]at q3;rw[q3.2,hi.2]
    ·exact IH fun id hid=>sj.1 J id (hap id (si.2.1 I hw id hid))
    ·rw [I] at hw'
     cases hw'
    ·rw [lZ hw'] at I
     cases I
    ·rw [I] at hw'
     cases hw'
    ·rw [lZ hw'] at I
     cases I
  refine(fa (s1:=s.put g.dst u d) (s:=⟨s.fr,d⟩) (wi d) (fun x hx=>by rw[ei d x hx]; cases x<;>rfl) rfl).2 ?_;unfold Yields at hi⊢;simp only[I]at hi⊢;cases hw:bO ops s.fr B with
  |none=>rw[hw]at hi; exact hi.elim
  | some b =>
   rw[hw]at hi;cases b with
   |false=>exact⟨hi.1,by simp⟩
   | true =>
    refine⟨by simp,?_⟩;rw[key,same hw];exact hi.2
 | write =>
  cases J:cI pf g.op with
  | pure =>
   obtain⟨V,g1⟩:=tc J O;have e1':d=N:=V;subst e1';refine⟨s.H,?_,⟨fun hw=>(by rw[J]at hw; cases hw),fun q=>(by rw[J]at q; cases q),wZ (by rw[J]; simp),fun _ _ hw=>(by rw[J]at hw; cases hw)⟩,(fa (s1:=s.put g.dst u s.H) (s:=s) (wi s.H) (ei s.H) rfl).2 hi,toI rfl⟩;exact(fa (s1:=⟨(s.put B.dst v d).fr,s.H⟩) (s:=s) wj (fun x hx=>by
    have:=ej x hx;cases x<;>exact this) rfl).1 (g1 s.H)
  | read =>
   have e2:=oG J O;have e2':d=N:=e2;subst e2';refine⟨s.H,?_,readJ J,(fa (s1:=s.put g.dst u s.H) (s:=s) (wi s.H) (ei s.H) rfl).2 hi,toI rfl⟩;have same:bO ops s.fr g=some true→ev P s.eval d g.op=ev P s.eval s.H g.op:=by
    intro hw;rcases hc with hc|⟨hr',_,_⟩|⟨_,_,hap⟩|⟨_,hr',_⟩|⟨_,_,hr',_⟩|⟨_,hr',_⟩
    ·unfold lW at hc
     rw[I,J]at hc;cases hc
    ·rw [I] at hr'
     cases hr'
    ·exact IH fun id hid=>si.1 I id (hap id (sj.2.1 J (by rw[wj]; exact hw) id (by rw[cj]; exact hid)))
    ·rw [lZ hr'] at J
     cases J
    ·rw [lZ (qs hr')] at J
     cases J
    ·rw [IJ hr'] at J
     cases J
   unfold Yields at O⊢;simp only[J]at O⊢;rw[wj]at O;cases hw:bO ops s.fr g with
   |none=>rw[hw]at O; exact O.elim
   | some b =>
    rw[hw]at O;cases b with
    |false=>exact⟨O.1,by simp⟩
    | true =>
     refine⟨by simp,?_⟩;rw[←same hw,←evj];exact O.2
  | write =>
   rcases hc with hc|⟨hr',_,_⟩|⟨_,hr',_⟩|⟨hai,haj,htw⟩|⟨_,hvi,haj,hca,hap⟩|⟨hai,hqj,htw,hap⟩
   ·unfold lW at hc
    rw[I,J]at hc;cases hc
   ·rw [I] at hr'
    cases hr'
   ·rw [J] at hr'
    cases hr'
   ·-- two allocations, each in its own place
    have ck:∀{f:Option Bool},f=some true→f=some false→False:=fun h1 h2=>by rw[h1]at h2; cases h2
    rcases Bp hai hi (fun hw=>(si.2.2.1 hai htw hw).1)with⟨wi',rfl,V⟩|⟨wi',idi,yi,xi,ni,z2,V⟩
    ·subst V
     refine⟨d,(fa wj ej rfl).1 O,toJ rfl,?_,⟨fun _ A _=>rfl,fun q=>(by rw[I]at q; cases q),fun _ _ _=>⟨rfl,fun _ h=>(h rfl).elim⟩,fun M=>(by rw[kX hai]at M; cases M)⟩⟩;unfold Yields;rw[wi,wi'];exact⟨rfl,rfl⟩
    ·rcases Bp haj O (fun hw => (sj.2.2.1 haj htw hw).1) with ⟨wj', rfl, e2⟩ | ⟨wj', y, yj, xj, nj, y2, e2⟩
     ·have e2' : d = N := e2
      subst e2';refine⟨s.H,?_,⟨fun _ A _=>rfl,fun q=>(by rw[J]at q; cases q),fun _ _ _=>⟨rfl,fun _ h=>(h rfl).elim⟩,fun M=>(by rw[kX haj]at M; cases M)⟩,(fa (s1:=s.put g.dst (.tuple []) s.H) (s:=s) (wi s.H) (ei s.H) rfl).2 hi,toI rfl⟩;unfold Yields;rw[wj]at wj';rw[wj'];exact⟨rfl,rfl⟩
     ·have e2' : d = N.set y xj := e2
      have y2':N[y]? = some yj:=y2;have hne:y≠idi:=by
       intro e;subst e;rw[V,bB (aK z2)]at y2';exact iJ.ne ni nj (fW y2')
      have y2s:s.H[y]? = some yj:=by rw[V,aT (Ne.symm hne)]at y2'; exact y2'
      have wjs:bO ops s.fr g=some true:=by rw[←wj]; exact wj'
      have hjj:∀ A,kept W j A→A≠y:=by
       intro A U e;subst e;have h:=sj.1 J A U;have h':d[A]? = N[A]? := h;rw[e2',bB (aK y2'),y2']at h';exact iJ.ne nj nj (fW h')
      have hii:∀ A,kept W i A→A≠idi:=by
       intro A U e;subst e;have h:=si.1 I A U;rw[V,bB (aK z2),z2]at h;exact iJ.ne ni ni (fW h)
      have hcomm:d=(s.H.set y xj).set idi xi:=by rw[e2',V,lJ _ _ (Ne.symm hne)]
      refine⟨s.H.set y xj,Bq wjs nj y2s,⟨fun _ A U=>aT (Ne.symm (hjj A U)),fun q=>(by rw[J]at q; cases q),fun _ _ _=>⟨by simp,fun id hne=>?_⟩,fun M=>(by rw[kX haj]at M; cases M)⟩,?_,
       ⟨fun _ A U=>?_,fun q=>(by rw[I]at q; cases q),fun _ _ _=>⟨?_,fun id hne=>?_⟩,fun M=>(by rw[kX hai]at M; cases M)⟩⟩
      ·have e : id = y := zY fun e => hne (aT (Ne.symm e))
       subst e;refine(sj.2.2.1 haj htw wj').2 id ?_;show d[id]? ≠ N[id]?
       rw[e2',bB (aK y2'),y2'];exact fun e=>iJ.ne nj nj (fW e)
      ·rw [hcomm]
       refine Bq (s:=s.put g.dst u (s.H.set y xj)) (by rw[wi]; exact wi') ni ?_;show (s.H.set y _)[idi]? = _
       rw[aT hne];exact z2
      ·show d[A]? = (s.H.set y _)[A]?
       rw[hcomm,aT (Ne.symm (hii A U))]
      ·show d.length = (s.H.set y _).length
       rw[hcomm];simp
      ·have e:id=idi:=zY fun e=>hne (by
        show d[id]? = (s.H.set y _)[id]?
        rw[hcomm,aT (Ne.symm e)])
       subst e;refine(si.2.2.1 hai htw wi').2 id ?_;rw[V,bB (aK z2),z2];exact fun e=>iJ.ne ni ni (fW e)
   ·-- a call, and an allocation in a place that it does not touch
    have hih:lY ops=true:=by
     unfold lY;rw[hca];simp
    rcases IL haj O (fun hw=>(sj.2.2.1 (qs haj) hih hw).1)with⟨wj',rfl,e2⟩|⟨wj',tj,y,zj,kj,mj,oj',y1,y2,y3,rfl,e2⟩
    ·have e2' : d = N := e2
     subst e2';refine⟨s.H,?_,⟨fun _ A _=>rfl,fun q=>(by rw[J]at q; cases q),fun _ _ _=>⟨rfl,fun _ h=>(h rfl).elim⟩,fun M=>(by rw[kX (qs haj)]at M; cases M)⟩,(fa (s1:=s.put g.dst (.tuple []) s.H) (s:=s) (wi s.H) (ei s.H) rfl).2 hi,toI rfl⟩;unfold Yields;rw[wj]at wj';rw[wj'];exact⟨rfl,rfl⟩
    ·have e2' : d = N.set y (.vec kj 1 [dK mj zj]) := e2
     have y2':N[y]? = some (.vec kj 0 []):=y2;obtain⟨e,he,hej,hid⟩:=(sj.2.2.1 (qs haj) hih wj').2 y (by
      show d[y]? ≠ N[y]?
      rw[e2',bB (aK y2'),y2'];simp)
     have hk:=hap e he hej y hid;have y2s:s.H[y]? = some (.vec kj 0 []):=by rw[←si.1 I y hk]; exact y2'
     have wjs:bO ops s.fr g=some true:=by rw[←wj]; exact wj'
     have hjj:∀ A,kept W j A→A≠y:=by
      intro A U e;subst e;have h:=sj.1 J A U;have h':d[A]? = N[A]? := h;rw[e2',bB (aK y2'),y2']at h';simp at h'
     have hfill:w5 W i s.H [(y,.vec kj 1 [dK mj zj])]:=by
      intro p hp;rw[List.mem_singleton.1 hp];exact⟨hk,kj,_,y2s,rfl⟩
     have hcall:Yields P pf ops B ⟨s.fr,s.H.set y (.vec kj 1 [dK mj zj])⟩ v d∧(bO ops s.fr B=some true→∀ σ,w5 W i (s.H.set y (.vec kj 1 [dK mj zj])) σ→Yields P pf ops B ⟨s.fr,l4 σ (s.H.set y (.vec kj 1 [dK mj zj]))⟩ v (l4 σ d)):=by
      cases hw:bO ops s.fr B with
      | none =>
       unfold Yields at hi;rw[hw]at hi;exact hi.elim
      | some b =>
       cases b with
       | false =>
        refine⟨?_,fun h=>by cases h⟩;unfold Yields at hi⊢;rw[hw]at hi;rw[show bO ops (St.mk s.fr (s.H.set y (.vec kj 1 [dK mj zj]))).fr B=some false from hw];refine⟨hi.1,?_⟩;show d=s.H.set y _
        rw[e2',hi.2]
       | true =>
        have h4:=si.2.2.2 hvi hca I hw;refine⟨?_,fun _ σ hσ=>?_⟩
        ·have := h4 _ hfill
         rw[e2'];exact this
        ·have:=h4 ((y,.vec kj 1 [dK mj zj])::σ) (by
          intro p hp;rcases List.mem_cons.1 hp with rfl|hp
          ·exact hfill _ db
          ·obtain ⟨a2, k, r, a3, a4⟩ := hσ p hp
           refine⟨a2,k,r,?_,a4⟩;have hne:p.1≠y:=fun e=>by
            rw[e,bB (aK y2s)]at a3;simp at a3
           rwa [aT (Ne.symm hne)]at a3)
         rw[e2'];exact this
     refine⟨s.H.set y (.vec kj 1 [dK mj zj]),IM wjs oj' y1 y2s y3 mj,⟨fun _ A U=>aT (Ne.symm (hjj A U)),fun q=>(by rw[J]at q; cases q),fun _ _ _=>⟨by simp,fun id hne=>?_⟩,fun M=>(by rw[kX (qs haj)]at M; cases M)⟩,fri (H1:=s.H.set y (.vec kj 1 [dK mj zj])) hcall.1,
      ⟨fun _ A U=>?_,fun q=>(by rw[I]at q; cases q),fun ha=>(by rw[kX ha]at hvi; cases hvi),fun _ _ _ hwa σ hσ=>fri (H1:=s.H.set y (.vec kj 1 [dK mj zj])) (hcall.2 (by rw[wi]at hwa; exact hwa) σ hσ)⟩⟩
     ·have e : id = y := zY fun e => hne (aT (Ne.symm e))
      subst e;exact⟨_,he,hej,hid⟩
     ·show d[A]? = (s.H.set y _)[A]?
      have h1:N[A]? = s.H[A]? := si.1 I A U;by_cases e:A=y
      ·subst e
       rw[e2',bB (aK y2'),bB (aK y2s)]
      ·rw[e2',aT (Ne.symm e),aT (Ne.symm e),h1]
   ·-- an allocation in its place, and an operation that does not touch it
    rcases Bp hai hi (fun hw=>(si.2.2.1 hai htw hw).1)with⟨wi',rfl,V⟩|⟨wi',idi,yi,xi,ni,z2,V⟩
    ·subst V
     refine⟨d,(fa wj ej rfl).1 O,toJ rfl,?_,⟨fun _ A _=>rfl,fun q=>(by rw[I]at q; cases q),fun _ _ _=>⟨rfl,fun _ h=>(h rfl).elim⟩,fun M=>(by rw[kX hai]at M; cases M)⟩⟩;unfold Yields;rw[wi,wi'];exact⟨rfl,rfl⟩
    ·have hii:∀ A,kept W i A→A≠idi:=by
      intro A U e;subst e;have h:=si.1 I A U;rw[V,bB (aK z2),z2]at h;exact iJ.ne ni ni (fW h)
     obtain⟨e,he,hei,hid⟩:=(si.2.2.1 hai htw wi').2 idi (by
      rw[V,bB (aK z2),z2];exact fun e=>iJ.ne ni ni (fW e))
     have hk:kept W j idi:=hap e he hei idi hid;have hHi:N[idi]? = some xi:=by rw[V,bB (aK z2)]
     have hjk:d[idi]? = some xi:=by rw[sj.1 J idi hk]; exact hHi
     have hback:∃ H1,Yields P pf ops g s u H1∧d=H1.set idi xi∧H1[idi]? = some yi:=by
      cases hw:bO ops s.fr g with
      | none =>
       unfold Yields at O;rw[wj,hw]at O;exact O.elim
      | some b =>
       cases b with
       | false =>
        unfold Yields at O;rw[wj,hw]at O;refine⟨s.H,?_,?_,z2⟩
        ·unfold Yields
         rw[hw];exact⟨O.1,rfl⟩
        ·rw [O.2]
         exact V
       | true =>
        have h1:=TR hqj O (by rw[wj]; exact hw);have h2:cT P s.eval (s.H.set idi xi) g.op=some (u,d):=by
         rw[←V];have:=It (P:=P) (H:=N) g.op ej;rw[←this];exact h1
        obtain⟨H1,g1,g2,g3⟩:=TQ hqj z2 ni.no h2 hjk;refine⟨H1,?_,g2,g3⟩;unfold Yields;simp only[hw,J];exact .inl (.inl g1)
     obtain⟨H1,q1,q2,q3⟩:=hback;refine⟨H1,q1,⟨fun _ A U=>?_,fun q=>(by rw[J]at q; cases q),fun ha=>(by rw[TG hqj]at ha; cases ha),fun M=>(by rw[TH hqj]at M; cases M)⟩,?_,⟨fun _ A U=>?_,fun q=>(by rw[I]at q; cases q),fun _ _ _=>⟨?_,fun id hne=>?_⟩,fun M=>(by rw[kX hai]at M; cases M)⟩⟩
     ·by_cases hA2 : A = idi
      ·rw[hA2,q3,z2]
      ·have h3 : d[A]? = N[A]? := sj.1 J A U
       rw[q2,aT (Ne.symm hA2),V,aT (Ne.symm hA2)]at h3;exact h3
     ·rw [q2]
      exact Bq (s:=s.put g.dst u H1) (by rw[wi]; exact wi') ni q3
     ·show d[A]? = H1[A]?
      rw[q2,aT (Ne.symm (hii A U))]
     ·show d.length = H1.length
      rw[q2];simp
     ·have e2:id=idi:=zY fun e2=>hne (by
       show d[id]? = H1[id]?
       rw[q2,aT (Ne.symm e2)])
      subst e2;exact⟨e,he,hei,hid⟩
def tf(P:Program)(pf:FuncId→Bool)(ops:Array Oper)(R:iI)(W:gR)(i:Nat)(K:St→Prop)(s:St):Prop :=
 match ops[i]? with
 |none=>K s
 |some o=>∃ v H',Yields P pf ops o s v H'∧Step P pf ops R W i o s v H'∧K (s.put o.dst v H')
def tg(P:Program)(pf:FuncId→Bool)(ops:Array Oper)(R:iI)(W:gR)(s':St):Nat→Array Bool→St→Prop
 |0,listed,s=>j7 .any ops listed=[]∧s=s'
 |fuel+1,listed,s=>(j7 .any ops listed=[]→s=s')∧∀ i∈j7 .any ops listed,tf P pf ops R W i (tg P pf ops R W s' fuel (listed.setIfInBounds i true)) s
theorem Br{R:iI}{W:gR}{s':St}:∀(fuel:Nat) (listed:Array Bool) (s:St),tg P pf ops R W s' fuel listed s→qm P pf ops s' fuel listed s
 |0,_,_,h=>h
 | fuel+1,listed,s,h=>by
  refine⟨h.1,fun i hi=>?_⟩;have h1:=h.2 i hi;unfold tf at h1;unfold ql;cases ho:ops[i]? with
  |none=>rw[ho]at h1; exact Br fuel _ _ h1
  | some o =>
   rw[ho]at h1;obtain⟨v,H',g1,_,g2⟩:=h1;exact⟨v,H',g1,Br fuel _ _ g2⟩
theorem TT{R:iI}{W:gR}{s':St}{i:Nat}{g:Oper}(hi:ops[i]? = some g):∀(fuel:Nat) (listed:Array Bool) (s:St) (v:AV) (H':List ab),oH ops listed →
  (∀ j q,ops[j]? = some q→j≠i→listed.getD j true=false→waits ops ops.size j i=false→g.apart ops q=true∧q.apart ops g=true∧Bo pf ops R W i g j q) →
  i∈j7 .any ops listed→Yields P pf ops g s v H'→Step P pf ops R W i g s v H'→tg P pf ops R W s' fuel (listed.setIfInBounds i true) (s.put g.dst v H')→tg P pf ops R W s' (fuel+1) listed s:=by
 intro fuel
 induction fuel with
 | zero =>
  intro listed s v H' _ _ y J I H;refine⟨fun h=>(by rw[h]at y; cases y),fun j B=>?_⟩;by_cases d:j=i
  ·subst d
   unfold tf;simp only[hi];exact⟨v,H',J,I,H⟩
  ·have := ready_mono B d
   rw[H.1]at this;cases this
 | succ fuel ih =>
  intro listed s v H' U N y J I H;refine⟨fun h=>(by rw[h]at y; cases y),fun j B=>?_⟩;by_cases d:j=i
  ·subst d
   unfold tf;simp only[hi];exact⟨v,H',J,I,H⟩
  ·have h1 := H.2 j (ready_mono B d)
   obtain⟨O,q,V,hall⟩:=mem_ready.1 B;unfold tf at h1⊢;simp only[V]at h1⊢;obtain⟨u,Hj,hyj,hsj,hrest⟩:=h1;have hnw:waits ops ops.size j i=false:=by
    cases hw:waits ops ops.size j i with
    |false=>rfl
    | true =>
     have:=Be U _ _ _ (Bf B) hw;rw[Iz y]at this;cases this
   obtain⟨a1,a2,a3⟩:=N j q V d O hnw;obtain⟨M,q1,q2,q3,q4⟩:=TS a1 a2 a3 J I hyj hsj;refine⟨u,M,q1,q2,?_⟩;refine ih (listed.setIfInBounds j true) (s.put q.dst u M) v Hj (wT U B) ?_ (ready_mono y (Ne.symm d)) q3 q4 ?_
   ·intro k ok hk hki hun hno
    refine N k ok hk hki ?_ hno;by_cases hjk:j=k
    ·subst hjk; exact O
    ·rw[getD_set_ne true hjk]at hun; exact hun
   ·rw [agE _ _ d]
    have:=Iy s g.dst q.dst v u H' Hj M (GQ a1).2.1;rw[←this];exact hrest
def qt(P:Program)(pf:FuncId→Bool)(ops:Array Oper)(R:iI)(W:gR):List Oper→Nat→St→St→Prop
 | [],_,s,s'=>s=s'
 |o::l,j,s,s'=>∃ v H',Yields P pf ops o s v H'∧Step P pf ops R W j o s v H'∧qt P pf ops R W l (j+1) (s.put o.dst v H') s'
def Bs(pf:FuncId→Bool)(x y:Oper):Bool :=
 lW pf x y||((match cI pf x.op,cI pf y.op with
  |.read,.write=>true
  |.write,.read=>true
  |_,_=>false)||((dU x.op&&dU y.op)||((match cI pf x.op with
  |.write=>jG x.op&&isVar y.op
  |_=>false)||(dU x.op&&iq y.op))))
theorem TU{i j:Nat}{x y:Oper}(hi:ops[i]? = some x)(d:ops[j]? = some y)(g:i<j)(hw:waits ops ops.size j i=false)(h:dU x.op=true)(k:dU y.op=true):Bm ops=true:=by
 unfold Bm;refine jy.2 ⟨j,eP.2 (fT.1 d).1,jy.2 ⟨i,eP.2 g,?_⟩⟩;rw[hi,d];simp[h,k,hw]
theorem TV{i j:Nat}{x y:Oper}(hi:ops[i]? = some x)(d:ops[j]? = some y)(g:i<j)(hw:waits ops ops.size j i=false)(h:dU x.op=true)(k:iq y.op=true):Bn ops=true:=by
 unfold Bn;refine jy.2 ⟨j,eP.2 (fT.1 d).1,jy.2 ⟨i,eP.2 g,?_⟩⟩;rw[hi,d];simp[h,k,hw]
theorem TW{i j:Nat}{x y:Oper}(hi:ops[i]? = some x)(d:ops[j]? = some y)(g:i<j)(hw:waits ops ops.size j i=false)(h:jG x.op=true)(k:isVar y.op=true):mU ops=true:=by
 unfold mU;refine jy.2 ⟨j,eP.2 (fT.1 d).1,jy.2 ⟨i,eP.2 g,?_⟩⟩;rw[hi,d];simp[h,k,hw]
def qu(pf:FuncId→Bool)(ops:Array Oper):Bool :=
  agD ops &&
  (dG ops.size).all fun j=>(match ops[j]? with
    | some d=>(d.after.toList.all fun e => !GP .any e||e.on<j) &&
      ((dG j).all fun i => match ops[i]? with
        |some g=>waits ops ops.size j i||(g.apart ops d&&d.apart ops g&&Bs pf g d)
        |none=>true)
    |none=>true)
def qv(ops:Array Oper)(R:iI)(W:gR):Prop:=(∀ i id,(i,id)∈R→∀ e∈W,(i<e.1→waits ops ops.size e.1 i=false→id∉e.2.1∧id<e.2.2)∧(e.1<i→waits ops ops.size i e.1=false→id∉e.2.1∧id<e.2.2)) ∧
 (∀ e∈W,∀ e'∈W,e.1<e'.1→waits ops ops.size e'.1 e.1=false→∀ id∈e'.2.1,id∉e.2.1∧id<e.2.2) ∧
 ∀ e∈W,∀ e'∈W,e.1<e'.1→waits ops ops.size e'.1 e.1=false→∀ id∈e.2.1,id<e'.2.2
theorem TX{R:iI}{W:gR}(k:qv ops R W){i j:Nat}{x y:Oper}(hi:ops[i]? = some x)(h:ops[j]? = some y)(g:i<j)(hw:waits ops ops.size j i=false)(d:Bs pf x y=true):Bo pf ops R W i x j y:=by
 unfold Bs at d;simp only[vO]at d;rcases d with d|d|d|d|d
 ·exact .inl d
 ·split at d
  ·rename_i h1 B
   refine .inr (.inl ⟨h1,B,fun id hid e he h=>?_⟩);subst h;exact(k.1 i id hid e he).1 g hw
  ·rename_i h1 B
   refine .inr (.inr (.inl ⟨h1,B,fun id hid e he h=>?_⟩));subst h;exact(k.1 j id hid e he).2 g hw
  ·cases d
 ·simp only [aB] at d
  refine .inr (.inr (.inr (.inl ⟨d.1,d.2,?_⟩)));unfold lY;rw[TU hi h g hw d.1 d.2];rfl
 ·split at d
  ·rename_i h1
   simp only[aB]at d;refine .inr (.inr (.inr (.inr (.inl ⟨h1,d.1,d.2,TW hi h g hw d.1 d.2,fun e he u id hid e' q v=>?_⟩))));subst u v;exact k.2.1 e' q e he g hw id hid
  ·cases d
 ·simp only [aB] at d
  refine .inr (.inr (.inr (.inr (.inr ⟨d.1,d.2,?_,fun e he v id hid e' q u=>?_⟩))))
  ·unfold lY
   rw[TV hi h g hw d.1 d.2];simp
  ·subst v u
   exact⟨fun hm=>(k.2.1 e he e' q g hw id hm).1 hid,k.2.2 e he e' q g hw id hid⟩
theorem IN{R:iI}{W:gR}{s':St}(N:qu pf ops=true)(O:qv ops R W):∀(l:List Oper) (k:Nat) (listed:Array Bool) (s:St),l=ops.toList.drop k→oH ops listed→listed.size=ops.size →
  (∀ j,j<ops.size→(listed.getD j true=false↔k≤j))→qt P pf ops R W l k s s'→tg P pf ops R W s' l.length listed s
 | [],k,listed,s,u,_,I,hk,h=>by
  simp only[qt]at h;refine⟨?_,h⟩;apply agF.2;intro j d;obtain⟨h0,o,ho,_⟩:=mem_ready.1 d;have q:j<ops.size:=(fT.1 ho).1;have:=(hk j q).1 h0;have hlen:(ops.toList.drop k).length=0:=by rw[←u]; rfl
  simp at hlen;omega
 | o::l,k,listed,s,u,J,I,hk,h=>by
  obtain⟨v,H',hy,hst,hrest⟩:=h;have h0:ops[k]? = some o:=by
   have:(ops.toList.drop k)[0]? = some o:=by rw[←u]; rfl
   simpa using this
  have q:k<ops.size:=(fT.1 h0).1;simp only[qu,aB,cO,eP]at N;obtain⟨_,y⟩:=N;have V:∀ j,j<k→listed.getD j false=true:=by
   intro j d;have U:¬ (listed.getD j true=false):=fun e=>by have:=(hk j (by omega)).1 e; omega
   have:j<listed.size:=by omega
   simp[this]at U⊢;exact U
  have B:k∈j7 .any ops listed:=by
   refine mem_ready.2 ⟨(hk k q).2 (aG _),o,h0,fun e he hb=>?_⟩;have:=y k q;rw[h0]at this;simp only[aB,cO]at this;have h1:=this.1 e (by simpa using he);simp only[hb,GS,zW,decide_eq_true_eq]at h1;exact V e.on h1
  refine TT h0 l.length listed s v H' J ?_ B hy hst ?_
  ·intro j oj d hjk hun M
   have g:j<ops.size:=(fT.1 d).1;have hkj:k≤j:=(hk j g).1 hun;have:=y j g;rw[d]at this;simp only[aB,cO,eP]at this;have h1:=this.2 k (by omega);rw[h0]at h1;simp only[M,zW,aB]at h1;exact⟨h1.1.1,h1.1.2,TX O h0 d (by omega) M h1.2⟩
  ·refine IN (by simp only [qu, aB, cO, eP]; exact ⟨‹_›, y⟩) O l (k + 1) _ _ ?_ (wT J B) (by simpa using I) ?_ hrest
   ·rw[←n4,←u]; rfl
   ·intro j g
    by_cases e:k=j
    ·subst e
     have:k<listed.size:=by omega
     simp[this]
    ·rw [getD_set_ne true e, hk j g]
     omega
theorem TY{R:iI}{W:gR}{id:Nat}{s s':St}{E:Env}{a:Act}{Q:Exit→Act→World→Prop}(hm:P.follows .mixedOrders=true)(u:qu pf ops=true)(v:qv ops R W)(d:bN s E a)
  (h:qt P pf ops R W ops.toList 0 s s') (y:∀ g w',eI E s' g w'→Q .normal g w'):∀ ro:Option Nat,(Code.region id ops true).wpIn (fz ro) 0 P Q a E.w:=by
 intro ro;have q:bN s { E with w:={ E.w with drawn:=E.w.drawn+1 } } a:=⟨d.H,du (Env.iD (Ext.drawn E.w _)) _ d.fr,we d.heap (Env.iD (Ext.drawn E.w _)) d.defers,d.heap.ext (Ext.drawn E.w _)⟩
 refine wpIn_region_any hm (wR (pf:=pf) _ _ s { E with w:={ E.w with drawn:=E.w.drawn+1 } } a q ?_ (fun g w' B=>y g w' (eI.after (Env.iD (Ext.drawn E.w _)) B)) ro);have:=Br _ _ _ (IN (P:=P) (s':=s') u v ops.toList 0 (mG ops.size false) s (by simp) (by
  intro j k;exfalso;rcases iV j ops.size with h'|h'
  ·simp[h']at k
  ·simp[GR (xs:=mG ops.size false) (by simpa using h')]at k) (by simp) (by intro j k; simp[k]) h)
 simpa using this
end Go.AL
