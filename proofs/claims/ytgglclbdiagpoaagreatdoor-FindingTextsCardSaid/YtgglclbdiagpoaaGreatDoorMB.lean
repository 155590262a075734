/-
 What is proved here: every operation that the logic knows,put together,with calls; what an operation leaves. No program in sight; no condition.
-/
import Derived.Test.YtgglclbdiagpoaaGreatDoorMA
set_option linter.all false
open Array renaming ext'→gg,getElem?_eq_some_iff→iF,getElem?_eq_none→xC,setIfInBounds_comm→ahQ,replicate→pz
open Bool renaming and_eq_true→ar,or_eq_true→BS,not_true→BT,false_or→fp
open Classical renaming byContradiction→ahS
open Decidable renaming byContradiction→xE
open Function renaming comp_def→Sz
open Go.Builtin renaming len_→Sy
open Go.Call renaming operands→tY
open Go.Op renaming operands→fe
open Go.Oper renaming wpIn→pr,semAt_eq→pt,apart_spec→IU
open Go.Region renaming wanted→SA,binds→IT,noSelect→ahP,ready→kU
open Go.Result renaming andThen_ok→bP
open Go.Sem renaming run_bind→bT,run_pure→fc
open Go.Value.slice renaming injEq→j0
open List renaming range→er,length_cons→cw,getElem?_append_left→cQ,getElem?_set_self→bk,getElem?_set_ne→aV,all_eq_true→bO,drop_drop→ph,map_map→j5,replicate→bU,mem_cons_self→cH,nodup_cons→nL,set_comm→mu,map_congr_left→pv,any_eq_true→jz,eq_nil_iff_forall_not_mem→ahR,mem_range→gF,set_append_left→IV
open Nat renaming le_refl→aH,lt_of_lt_of_le→dy,lt_or_ge→h_
open Option renaming map_some→dL
open Option.some renaming injEq→aX,inj→gh
namespace Go.AL
open Go
variable [Dr]
def yq(x:Operand):Bool:=x matches .const _
def CL:AV→AV→Option AV
 |.lit (.int k a),.lit (.int _ b)=>some (.lit (.int k (if b>a then b else a)))
 |_,_=>none
def CM:AV→AV→Option AV
 |.lit (.int k a),.lit (.int _ b)=>some (.lit (.int k (if b<a then b else a)))
 |_,_=>none
def rF(f:AV→AV→Option AV):AV→List AV→Option AV
 |x,[]=>some x
 | x,y::l=>match f x y with
  |some z=>rF f z l
  |none=>none
def Ul:List AV→Option AV
 | []=>none
 |x::rest=>rF CL x rest
def Um:List AV→Option AV
 | []=>none
 |x::rest=>rF CM x rest
def CN(k:SK)(x:AV):Option AV :=
 match k,x with
 |.str,.lit (.string s)=>some (.int s.size)
 |.slice _ _ _,.lit (.string _)=>none
 | .slice _ _ _,x=>match xY x with
  |some n=>some (.int n)
  |none=>none
 |_,_=>none
def CO(P:Program)(b:Builtin)(tys:List TypeId)(args:List AV):Option AV :=
 match b with
 | .len=>match tys[0]?,args[0]? with
  |some t,some x=>CN (cr P t) x
  |_,_=>none
 |.max=>Ul args
 |.min=>Um args
 | .cap=>match tys,args with
  | t::_,.lit (.slice none 0 0)::_=>match cr P t with
   |.slice _ _ _=>some (.int 0)
   |_=>none
  |_,_=>none
 |_=>none
def CP(r:Operand→AV)(fn:Fn)(first caps:Array Operand):Option AV :=
 match fn with
 |.func f=>if first.toList.isEmpty then some (.clo f (caps.toList.map r)) else none
 |_=>none
def CQ(P:Program)(r:Operand→AV)(c:Call):Option AV :=
 match c.callee with
 |.builtin b=>CO P b c.argTypes.toList (c.args.toList.map r)
 |_=>none
def iu(P:Program)(r:Operand→AV):Op→Option AV
 |.move x | .assign x=>some (r x)
 | .pick c a b=>match r c with
  |.lit (.bool t)=>some (bif t then r a else r b)
  |_=>none
 | .extract t i=>match r t with
  |.tuple vs=>vs[i]?
  |_=>none
 | .field t x f=>match ra P t f with
  |some k=>Cl k (r x)
  |none=>none
 | .fieldAddr t x f=>match ra P t f with
  |some k=>B_ k (r x)
  |none=>none
 |.indexAddr t x i=>lJ (cr P t) (r x) (r i)
 |.index t x i=>nT (cr P t) (r x) (r i)
 |.binOp op t x y _=>jf P op t (yq x||yq y) (r x) (r y)
 |.unOp op _ x=>rr op (r x)
 |.convert s d x=>ru P s d (r x)
 |.build t parts=>Cn P t (parts.toList.map fun p=>(p.1,r p.2))
 |.buildSlice t n parts=>rB P t n (parts.toList.map fun p=>(p.1,r p.2))
 |.slice t x lo hi mx=>k8 P t (r x) (lo.map r) (hi.map r) (mx.map r)
 |.makeFunc fn first caps=>CP r fn first caps
 | .nilCheck x=>match r x with
  |.ptr id ad k row col=>some (.ptr id ad k row col)
  |.cptr cells=>some (.cptr cells)
  |.clo f caps=>some (.clo f caps)
  |_=>none
 | .makeInterface t _=>match P.underlying t with
  |some (.interface _)=>none
  |some _=>some .ifc
  |none=>none
 |.call c=>CQ P r c
 |_=>none
theorem pQ{E:Env}{r:Operand→AV}{ρ:Operand→Value}(h:∀ x,rel E (r x) (ρ x)):∀(l:List Operand),ae E (l.map r) (l.map ρ)
 | []=>by simp[ae]
 |x::l=>by simp only[List.map_cons,ae]; exact⟨h x,pQ h l⟩
theorem CR{E:Env}{r:Operand→AV}{ρ:Operand→Value}(h:∀ x,rel E (r x) (ρ x))(o:Option Operand):nR E (o.map r) (o.map ρ):=by
 cases o with
 |none=>simp[nR]
 |some x=>simpa[nR]using h x
def gr(E:Env)(v:AV)(u:Value)(w':World):Prop:=Ext E.w w'∧rel { E with w:=w' } v u
theorem gr.same{E:Env}{v:AV}{u:Value}(h:rel E v u):gr E v u E.w:=⟨Ext.refl _,h⟩
theorem ke{P:Program}{s:Sem Value}{w w':World}{u:Value}(h:s.run P w=.ok u w'):(do pure (Next.value (← s)):Sem Next).run P w=.ok (.value u) w':=by
 simp[h]
theorem CS{P:Program}{E:Env}{f:AV→AV→Option AV}{g:Value→Value→Sem Value}
  (t:∀ x y c d z,f x y=some z→rel E x c→rel E y d→∃ u,(g c d).run P E.w=.ok u E.w∧rel E z u) :
  ∀(rest:List AV) (x:AV) (c:Value) (cs:List Value) (v:AV),rel E x c→ae E rest cs→rF f x rest=some v →
   ∃ u,(cs.foldlM g c).run P E.w=.ok u E.w∧rel E v u
 | [],x,c,cs,v,q,k,h=>by
  cases cs with
  |nil=>simp[rF]at h; subst h; exact⟨c,rfl,q⟩
  |cons _ _=>simp[ae]at k
 | y::rest,x,c,cs,v,q,k,h=>by
  cases cs with
  |nil=>simp[ae]at k
  | cons d cs =>
   simp only[ae]at k;simp only[rF]at h;split at h
   ·rename_i z B
    obtain⟨u,g1,g2⟩:=t x y c d z B q k.1;obtain⟨I,g3,g4⟩:=CS t rest z u cs v g2 k.2 h;exact⟨I,by simp only[List.foldlM_cons,bT,g1,bP]; exact g3,g4⟩
   ·cases h
theorem Un{P:Program}{E:Env}(x y:AV)(c d:Value)(z:AV)(h:CL x y=some z)(g:rel E x c)(k:rel E y d) :
  ∃ u,(Builtin.max2 c d).run P E.w=.ok u E.w∧rel E z u:=by
 unfold CL at h;split at h
 ·cases h
  simp only[rel]at g k;subst g; subst k;exact⟨_,rfl,by simp[rel]⟩
 ·cases h
theorem Uo{P:Program}{E:Env}(x y:AV)(c d:Value)(z:AV)(h:CM x y=some z)(g:rel E x c)(k:rel E y d) :
  ∃ u,(Builtin.min2 c d).run P E.w=.ok u E.w∧rel E z u:=by
 unfold CM at h;split at h
 ·cases h
  simp only[rel]at g k;subst g; subst k;exact⟨_,rfl,by simp[rel]⟩
 ·cases h
theorem Up{P:Program}{E:Env}{b:Builtin}{tys:Array TypeId}{ty:TypeId}{consts:Array Bool}{args:List AV}{cargs:Array Value}{v:AV}
  (h:CO P b tys.toList args=some v) (d:ae E args cargs.toList):∃ u,(builtin b tys ty consts cargs).run P E.w=.ok (.value u) E.w∧rel E v u:=by
 cases b<;>simp only[CO]at h<;>try cases h
 case len =>
  split at h
  case h_2=>cases h
  rename_i t x B N;obtain⟨c,I,g⟩:=mL d N;have q:tys[0]? = some t:=by simpa using B
  have y:cargs[0]? = some c:=by simpa using I
  unfold CN at h;split at h
  ·rename_i s hk
   cases h;simp only[rel]at g;subst g;refine⟨goInt s.size,?_,by simp[rel,goInt]⟩;simp[builtin,Sy,q,y,Sem.a_ (pG hk)]
  ·cases h
  ·rename_i e sz J hk M
   split at h
   ·rename_i n z
    cases h;obtain⟨hu,_⟩:=gH hk;rcases Te z g with⟨s,rfl,_⟩|⟨base,cap,rfl⟩
    ·exfalso
     unfold xY at z;split at z
     ·rename_i s'
      exact M s' rfl
     all_goals first
      |(simp[rel,dG]at g; done)
      |cases z
    ·refine ⟨goInt n, ?_, by simp [rel, goInt]⟩
     simp[builtin,Sy,q,y,Sem.a_ hu]
   ·cases h
  ·cases h
 case max =>
  cases args with
  |nil=>cases h
  | cons x rest =>
   cases k:cargs.toList with
   |nil=>rw[k]at d; simp[ae]at d
   | cons c cs =>
    rw[k]at d;simp only[ae]at d;obtain⟨u,g1,g2⟩:=CS (P:=P) Un rest x c cs v d.1 d.2 h;refine⟨u,?_,g2⟩;simp[builtin,Builtin.max_,k,g1]
 case min =>
  cases args with
  |nil=>cases h
  | cons x rest =>
   cases k:cargs.toList with
   |nil=>rw[k]at d; simp[ae]at d
   | cons c cs =>
    rw[k]at d;simp only[ae]at d;obtain⟨u,g1,g2⟩:=CS (P:=P) Uo rest x c cs v d.1 d.2 h;refine⟨u,?_,g2⟩;simp[builtin,Builtin.min_,k,g1]
 case cap =>
  split at h
  case h_2=>cases h
  rename_i t O as B;obtain⟨c,I,g⟩:=mL (i:=0) d rfl;have q:tys[0]? = some t:=by
   have:tys.toList[0]? = some t:=by rw[B]; rfl
   simpa using this
  have y:cargs[0]? = some c:=by simpa using I
  simp only[rel]at g;subst g;split at h
  ·rename_i e sz J hk
   cases h;obtain⟨hu,_⟩:=gH hk;refine⟨goInt 0,?_,by simp[rel,goInt]⟩;simp[builtin,Builtin.cap_,q,y,Sem.a_ hu]
  ·cases h
theorem Uq{P:Program}{E:Env}(HE:aq E){r:Operand→AV}{ρ:Operand→Value}(g:∀ x,rel E (r x) (ρ x)){o:Oper}{v:AV}(h:iu P r o.op=some v) :
  ∃ u w',(execOp ρ o).run P E.w=.ok (.value u) w'∧gr E v u w':=by
 obtain⟨dst,op,type,pos,after,guard⟩:=o;have same:∀{s:Sem Value},(∃ u,s.run P E.w=.ok u E.w∧rel E v u)→∃ u w',(do pure (Next.value (← s)):Sem Next).run P E.w=.ok (.value u) w'∧gr E v u w':=by
  rintro s ⟨u,g1,g2⟩;exact⟨u,E.w,ke g1,gr.same g2⟩
 cases op<;>simp only[iu]at h<;>try cases h
 case move x=>exact⟨ρ x,E.w,rfl,gr.same (g x)⟩
 case assign x=>exact⟨ρ x,E.w,rfl,gr.same (g x)⟩
 case pick c a b =>
  split at h
  ·rename_i t I
   cases h;have z:=g c;rw[I]at z;simp only[rel]at z;refine⟨if t then ρ a else ρ b,E.w,?_,?_⟩
   ·simp[execOp,z,asBool]
   ·cases t
    ·exact gr.same (g b)
    ·exact gr.same (g a)
  ·cases h
 case build t parts =>
  obtain⟨u,g1,g2⟩:=Tt (E:=E) (cparts:=parts.toList.map fun p=>(p.1,ρ p.2)) h (by simp) (by
   simp only[j5];have:=pQ g (parts.toList.map (·.2));simpa[j5,Sz]using this)
  have e:(parts.toList.map fun p=>(p.1,ρ p.2)).toArray=parts.map fun(i,x)=>(i,ρ x):=by
   apply gg; simp
  rw[e]at g1;exact same ⟨u,g1,g2⟩
 case buildSlice t n parts =>
  obtain⟨u,w',g1,g2,g3⟩:=TK HE (cparts:=parts.toList.map fun p=>(p.1,ρ p.2)) h (by simp) (by
   simp only[j5];have:=pQ g (parts.toList.map (·.2));simpa[j5,Sz]using this)
  have e:(parts.toList.map fun p=>(p.1,ρ p.2)).toArray=parts.map fun(i,x)=>(i,ρ x):=by
   apply gg; simp
  rw[e]at g1;exact⟨u,w',ke g1,g2,g3⟩
 case nilCheck x =>
  have q:=g x;split at h
  ·rename_i id ad k row col he
   cases h;rw[he]at q;have B:=q;simp only[rel]at B;obtain⟨⟨b,o,z⟩,_⟩:=B;exact⟨ρ x,E.w,by simp[execOp,z],gr.same q⟩
  ·rename_i cells he
   cases h;rw[he]at q;have B:=q;simp only[rel]at B;obtain⟨_,b,o,z,_⟩:=B;exact⟨ρ x,E.w,by simp[execOp,z],gr.same q⟩
  ·rename_i f caps he
   cases h;rw[he]at q;have B:=q;simp only[rel]at B;obtain⟨cs,z,_⟩:=B;exact⟨ρ x,E.w,by simp[execOp,z],gr.same q⟩
  ·cases h
 case binOp op t x y _ =>
  refine same (To (x:=x) (y:=y) (fun hk=>?_) h (g x) (g y));cases x<;>cases y<;>first|rfl|exact hk
 case unOp op _ x=>exact same (Tp h (g x))
 case convert s d x=>exact same (Tq h (g x))
 case makeInterface t x =>
  split at h
  ·cases h
  ·rename_i d J hu
   cases h;refine same ⟨.iface t (ρ x),?_,by simp only[rel]; exact⟨_,_,rfl⟩⟩;simp only[Instr.makeInterface,bT,Sem.a_ hu,bP];cases d<;>first|rfl|(exact(J _ hu).elim)|(exact(J _ rfl).elim)
  ·cases h
 case makeFunc fn first caps =>
  cases fn<;>simp only[CP]at h<;>try cases h
  rename_i f;split at h
  ·rename_i N
   cases h;refine⟨.func (.func f) (first.map ρ) (caps.map ρ),E.w,rfl,gr.same ?_⟩;simp only[rel];refine⟨caps.map ρ,?_,by simpa using pQ g caps.toList⟩;have:first=#[]:=by
    apply gg;simpa using N
   simp[this]
  ·cases h
 case slice t x lo hi mx=>exact same (Tk h (g x) (CR g lo) (CR g hi) (CR g mx))
 case fieldAddr t x f =>
  split at h
  ·rename_i k hk; exact same (Tg hk h (g x))
  ·cases h
 case field t x f =>
  split at h
  ·rename_i k hk; exact same (Ts hk h (g x))
  ·cases h
 case indexAddr t x i=>exact same (Th HE h (g x) (g i))
 case index t x i=>exact same (Tr h (g x) (g i))
 case extract t i =>
  split at h
  ·rename_i vs I
   have q:=g t;rw[I]at q;simp only[rel]at q;obtain⟨cs,z,O⟩:=q;obtain⟨u,g1,g2⟩:=mL O h;refine same ⟨u,?_,g2⟩;have M:cs[i]? = some u:=by simpa using g1
   simp[Instr.extract,z,M]
  ·cases h
 case call c =>
  obtain⟨callee,args,argTypes⟩:=c;cases callee<;>simp only[CQ]at h<;>try cases h
  rename_i b;obtain⟨u,g1,g2⟩:=Up (P:=P) (E:=E) (b:=b) (tys:=argTypes) (ty:=type) (consts:=args.map fun | .const _=>true|_=>false) (cargs:=args.map ρ) h
   (by simpa using pQ g args.toList)
  exact⟨u,E.w,by simp only[execOp,resolve,bT,fc,bP,invoke]; exact g1,gr.same g2⟩
def yr(P:Program)(r:Operand→AV)(H:List ab)(c:Call):Option (AV × List ab) :=
 match c.callee with
 | .builtin .append=>match c.args.toList,c.argTypes.toList with
  | [s,x],[t,xt]=>match pL P t xt (r s) (r x) H with
   |some y=>some y
   |none=>ry P t xt (r s) (r x) H
  |_,_=>none
 | .builtin .clear=>match c.args.toList,c.argTypes.toList with
  | [x],[t]=>match uA P t (r x) H with
   |some H'=>some (.tuple [],H')
   |none=>none
  |_,_=>none
 | .builtin .delete=>match c.args.toList,c.argTypes.toList with
  | [x,k],t::_=>match uz P t (r x) (r k) H with
   |some H'=>some (.tuple [],H')
   |none=>none
  |_,_=>none
 |_=>none
def cW(P:Program)(r:Operand→AV)(H:List ab):Op→Option (AV × List ab)
 |.alloc t=>pJ P t H
 |.box _ x=>ye (r x) H
 | .store t a x=>match rA P t (r a) (r x) H with
  |some H'=>some (.undef,H')
  |none=>none
 |.makeSlice t l c=>uv P t (r l) (r c) H
 |.buildSlice t n parts=>uB P t n (parts.toList.map fun p=>(p.1,r p.2)) H
 |.range t x=>yg P t (r x) H
 |.next it isString=>yh (r it) isString H
 |.makeMap _ none=>some (.map H.length,H++[.map [] 0])
 | .mapUpdate t m k v=>match lP P t (r m) (r k) (r v) H with
  |some H'=>some (.undef,H')
  | none=>match pM P t (r m) (r k) (r v) H with
   |some H'=>some (.undef,H')
   | none=>match uE P t (r m) (r k) (r v) H with
    |some H'=>some (.undef,H')
    |none=>none
 | .insert t m k v=>match lP P t (r m) (r k) (r v) H with
  |some H'=>some (.undef,H')
  |none=>none
 | .lookup t m k false=>match fY P t (r m) (r k) false H with
  |some v=>some (v,H)
  |none=>uC P t (r m) (r k) H
 | .mapEntry t m k=>match ir P t (r m) (r k) H with
  |some y=>some y
  |none=>jg P t (r m) (r k) H
 | .entryStore _ m s x=>match ka (r m) (r s) (r x) H with
  |some H'=>some (.undef,H')
  | none=>match la (r m) (r s) (r x) H with
   |some H'=>some (.undef,H')
   |none=>none
 |.call c=>yr P r H c
 |_=>none
theorem cL.of_le{E:Env}{w':World}{H':List ab}(h1:aq { w:=w',H:=H',loc:=E.loc,X:=E.X })(d:E.le { w:=w',H:=H',loc:=E.loc,X:=E.X })(u:Value) :
  cL E .undef H' u w':=⟨E.loc,E.X.r,by simp[rel],h1,d⟩
theorem gr.toOp{E:Env}(HE:aq E){v:AV}{u:Value}{w':World}(h:gr E v u w'):cL E v E.H u w' :=
 ⟨E.loc,E.X.r,h.2,HE.ext h.1,Env.gl h.1⟩
theorem Ur{P:Program}{E:Env}(HE:aq E){r:Operand→AV}{ρ:Operand→Value}(d:∀ x,rel E (r x) (ρ x)){o:Oper}{v:AV}{H':List ab}
  (h:cW P r E.H o.op=some (v,H')) :
  ∃ n u w',(execOp ρ o).run P E.w=.ok n w'∧(n=.value u∨n=.skip∧u=undef)∧cL E v H' u w':=by
 obtain⟨dst,op,type,pos,after,guard⟩:=o;have same:∀{s:Sem Value},(∃ u w',s.run P E.w=.ok u w'∧cL E v H' u w') →
   ∃ n u w',(do pure (Next.value (← s)):Sem Next).run P E.w=.ok n w'∧(n=.value u∨n=.skip∧u=undef)∧cL E v H' u w':=by
  rintro s ⟨u,w',g1,g2⟩;exact⟨_,u,w',ke g1,.inl rfl,g2⟩
 cases op<;>simp only[cW]at h<;>try cases h
 case alloc t=>exact same (TC HE h)
 case box t x=>exact same (TH HE h (d x))
 case store t a x =>
  split at h
  ·rename_i H1 g
   cases h;obtain⟨w',g1,g2,g3⟩:=JG HE g (d a) (d x);exact⟨.skip,undef,w',by simp[execOp,g1],.inr ⟨rfl,rfl⟩,cL.of_le g2 g3 _⟩
  ·cases h
 case makeSlice t l c=>exact same (TJ HE h (d l) (d c))
 case buildSlice t n parts =>
  obtain⟨u,w',g1,g2⟩:=TX HE (cparts:=parts.toList.map fun p=>(p.1,ρ p.2)) h (by simp) (by
   simp only[j5];have:=pQ d (parts.toList.map (·.2));simpa[j5,Sz]using this)
  have e:(parts.toList.map fun p=>(p.1,ρ p.2)).toArray=parts.map fun(i,x)=>(i,ρ x):=by
   apply gg; simp
  rw[e]at g1;exact same ⟨u,w',g1,g2⟩
 case range t x=>exact same (TM HE h (d x))
 case next it isString=>exact same (TN HE h (d it))
 case makeMap t res =>
  cases res with
  |some _=>cases h
  | none =>
   cases h;exact same ⟨_,_,by simp[Instr.makeMap,newObj]; rfl,TP HE⟩
 case mapUpdate t m k x =>
  split at h
  ·rename_i H1 g
   cases h;obtain⟨w',g1,g2,g3⟩:=JY HE g (d m) (d k) (d x);exact⟨.skip,undef,w',by simp[execOp,g1],.inr ⟨rfl,rfl⟩,cL.of_le g2 g3 _⟩
  ·split at h
   ·rename_i H1 g
    cases h;obtain⟨w',g1,g2⟩:=T6 HE g (d m) (d k) (d x);exact⟨.skip,undef,w',by simp[execOp,g1],.inr ⟨rfl,rfl⟩,g2 _⟩
   ·split at h
    ·rename_i H1 g
     cases h;obtain⟨w',g1,g2,g3⟩:=Uh HE g (d m) (d k) (d x);exact⟨.skip,undef,w',by simp[execOp,g1],.inr ⟨rfl,rfl⟩,cL.of_le g2 g3 _⟩
    ·cases h
 case lookup t m k ok =>
  cases ok with
  |true=>cases h
  | false =>
   simp only[]at h;split at h
   ·rename_i v1 O
    cases h;obtain⟨u,g1,g2⟩:=JT HE O (d m) (d k);exact same ⟨u,_,g1,gr.toOp HE ⟨Ext.refl _,g2⟩⟩
   ·exact same (T5 HE h (d m) (d k))
 case mapEntry t m k =>
  split at h
  ·rename_i y z
   cases h;exact same (T_ HE z (d m) (d k))
  ·exact same (Ui HE h (d m) (d k))
 case entryStore t m s x =>
  split at h
  ·rename_i H1 g
   cases h;obtain⟨w',g1,g2⟩:=Ua (P:=P) (t:=t) HE g (d m) (d s) (d x);exact⟨.skip,undef,w',by simp[execOp,g1],.inr ⟨rfl,rfl⟩,g2 _⟩
  ·split at h
   ·rename_i H1 g
    cases h;obtain⟨w',g1,g2⟩:=Uk (P:=P) (t:=t) HE g (d m) (d s) (d x);exact⟨.skip,undef,w',by simp[execOp,g1],.inr ⟨rfl,rfl⟩,g2 _⟩
   ·cases h
 case insert t m k x =>
  split at h
  ·rename_i H1 g
   cases h;obtain⟨w',g1,g2,g3⟩:=JY HE g (d m) (d k) (d x);exact⟨.skip,undef,w',by simp[execOp,g1],.inr ⟨rfl,rfl⟩,cL.of_le g2 g3 _⟩
  ·cases h
 case call c =>
  obtain⟨callee,args,argTypes⟩:=c;unfold yr at h;split at h
  ·rename_i q
   simp only[]at q;subst q;simp only[]at h;split at h
   case h_2=>cases h
   rename_i s x t xt I J;have B:args=#[s,x]:=by apply gg; simpa using I
   have M:argTypes=#[t,xt]:=by apply gg; simpa using J
   subst B;subst M;split at h
   ·rename_i y z
    cases h;obtain⟨u,w',g1,g2⟩:=TW (P:=P) (ty:=type) HE z (d s) (d x);refine⟨.value u,u,w',?_,.inl rfl,g2⟩;simp[execOp,resolve,invoke,builtin,g1]
   ·obtain ⟨u, w', g1, g2⟩ := Tz (P := P) (ty := type) HE h (d s) (d x)
    refine⟨.value u,u,w',?_,.inl rfl,g2⟩;simp[execOp,resolve,invoke,builtin,g1]
  ·rename_i q
   simp only[]at q;subst q;simp only[]at h;split at h
   case h_2=>cases h
   rename_i x t I J;have B:args=#[x]:=by apply gg; simpa using I
   have M:argTypes=#[t]:=by apply gg; simpa using J
   subst B;subst M;split at h
   ·rename_i H1 z
    cases h;obtain⟨w',g1,g2,g3⟩:=TU (P:=P) (ty:=type) (tys:=#[t]) (cs:=#[ρ x]) HE z rfl rfl (d x);refine⟨.value (.tuple #[]),.tuple #[],w',?_,.inl rfl,E.loc,E.X.r,by simp[rel,ae],g2,g3⟩;simp[execOp,resolve,invoke,builtin,g1]
   ·cases h
  ·rename_i q
   simp only[]at q;subst q;simp only[]at h;split at h
   case h_2=>cases h
   rename_i x k t R I J;have B:args=#[x,k]:=by apply gg; simpa using I
   subst B;split at h
   ·rename_i H1 z
    cases h;have N:argTypes[0]? = some t:=by
     have:argTypes.toList[0]? = some t:=by rw[J]; rfl
     simpa using this
    obtain⟨w',g1,g2,g3⟩:=TS (P:=P) (ty:=type) (tys:=argTypes) (cs:=#[ρ x,ρ k]) HE z N rfl rfl (d x) (d k);refine⟨.value (.tuple #[]),.tuple #[],w',?_,.inl rfl,E.loc,E.X.r,by simp[rel,ae],g2,g3⟩;simp[execOp,resolve,invoke,builtin,g1]
   ·cases h
  ·cases h
def jI(P:Program)(f:FuncId)(args:List AV)(H:List ab)(Q:AV→List ab→Prop):Prop :=
 ∀(E:Env) (cargs:Array Value),E.H=H→aq E→ae E args cargs.toList →
  Calls P f cargs E.w fun e w'=>∃ c v H',e=.returned c∧Q v H'∧cL E v H' c w'
def mR(P:Program)(f:FuncId)(args:List AV)(v:AV):Prop:=∀ H,jI P f args H fun d H'=>d=v∧H'=H
theorem jI.mono{P:Program}{f:FuncId}{args:List AV}{H:List ab}{Q d:AV→List ab→Prop}(h:jI P f args H Q)(g:∀ v H',Q v H'→d v H'):jI P f args H d :=
 fun E cargs h1 k t=>(h E cargs h1 k t).mono fun _ _ ⟨c,v,H',e,q,r⟩=>⟨c,v,H',e,g v H' q,r⟩
def iv(P:Program)(f:FuncId):Bool :=
 match P.funcs[f]? with
 |some fn => !(fn.name == "runtime.NumGoroutine")&&fn.body.isSome
 |none=>false
theorem Kc{P:Program}{f:FuncId}(h:iv P f=true)(args:Array Value)(w:World):(callFunc f args).run P w=.ok (.enter f args) w:=by
 unfold iv at h;split at h
 ·rename_i fn d
  simp only[ar,Bool.not_eq_true']at h;have h1:fn.name ≠ "runtime.NumGoroutine" := by simpa using h.1
  have g:fn.body≠none:=fun e=>by rw[e]at h; simp at h
  simp[callFunc,d,h1,g]
 ·cases h
def CT(r:Operand→AV)(c:Call):Option (FuncId × List AV) :=
 match c.callee with
 | .value g=>match r g with
  |.clo f caps=>some (f,c.args.toList.map r++caps)
  |_=>none
 |_=>none
def iw(r:Operand→AV):Op→Option (FuncId × List AV)
 |.call c=>CT r c
 |_=>none
theorem Ke{P:Program}{E:Env}{r:Operand→AV}{ρ:Operand→Value}(k:∀ x,rel E (r x) (ρ x)){o:Oper}{f:FuncId}{args:List AV}
  (h:iw r o.op=some (f,args)) (hb:iv P f=true):∃ cargs:Array Value,(execOp ρ o).run P E.w=.ok (.enter f cargs) E.w∧ae E args cargs.toList:=by
 obtain⟨dst,op,type,pos,after,guard⟩:=o;cases op<;>simp only[iw]at h<;>try cases h
 rename_i c;obtain⟨callee,as,argTypes⟩:=c;cases callee<;>simp only[CT]at h<;>try cases h
 rename_i g;split at h
 case h_2=>cases h
 rename_i v caps q;cases h;have d:=k g;rw[q]at d;simp only[rel]at d;obtain⟨cs,t,u⟩:=d;refine⟨as.map ρ++cs,?_,?_⟩
 ·simp[execOp,resolve,t,Deferred.ofValue,invoke,Kc hb]
 ·simp only [Array.toList_append, Array.toList_map]
  exact mJ (pQ k as.toList) u
end Go.AL

namespace Go.AL
open Go
variable [Dr]
inductive Us where
 |pure|read|write
 deriving DecidableEq
def Ut(pf:FuncId→Bool)(c:Call):Bool :=
 match c.argTypes.toList with
 | [t]=>pf (t+1000000)
 |_=>false
def cO(pf:FuncId→Bool):Op→Us
 |.load ..=>.read
 |.lookup t _ _ _=>if pf (t+1500000) then .write else .read
 |.buildSlice t n _=>if pf (t+100000*n+2000000) then .write else .pure
 |.alloc .. | .box .. | .store .. | .makeSlice .. | .mapUpdate .. | .insert .. | .makeMap .. | .mapEntry .. | .entryStore .. | .range .. | .next .. | .entry ..=>.write
 |.go .. | .defer .. | .panic .. | .send .. | .recv .. | .select .. | .makeChan .. | .ready .. | .waits ..=>.write
 | .call c=>match c.callee with
  | .builtin .len=>match Ut pf c with
   |true=>.read
   |false=>.pure
  |.builtin .max | .builtin .min | .builtin .cap=>.pure
  |.value (.func f)=>if pf f then .pure else .write
  |_=>.write
 |_=>.pure
def nW(P:Program)(r:Operand→AV)(H:List ab)(c:Call):Option AV :=
 match c.callee,c.args.toList,c.argTypes.toList with
 | .builtin .len,[a],[t]=>match cZ P t,r a with
  | some _,.map id=>match H[id]? with
   |some (.map es _)=>some (.int es.length)
   |_=>none
  |_,_=>none
 |_,_,_=>none
theorem Uu{P:Program}{E:Env}(HE:aq E){r:Operand→AV}{ρ:Operand→Value}(B:∀ x,rel E (r x) (ρ x)){o:Oper}{c:Call}{v:AV}(ho:o.op=.call c)(h:nW P r E.H c=some v) :
  ∃ u,(execOp ρ o).run P E.w=.ok (.value u) E.w∧rel E v u:=by
 obtain⟨dst,op,type,pos,after,guard⟩:=o;subst ho;obtain⟨callee,args,argTypes⟩:=c;unfold nW at h;split at h
 case h_2=>cases h
 rename_i a t g d k;simp only[]at g d k;subst g;have y:args=#[a]:=by apply gg; simpa using d
 have z:argTypes=#[t]:=by apply gg; simpa using k
 subst y;subst z;split at h
 case h_2=>cases h
 rename_i p id I hid;split at h
 case h_2=>cases h
 rename_i es cl hH;cases h;have q:=B a;rw[hid]at q;obtain⟨b,n,ms,J,h1,M,N⟩:=rD HE hH q;obtain⟨U,V⟩:=p;have O:=(eE.1 N).1;have R:(getObj b).run P E.w=.ok (.map ms cl) E.w:=by simp[getObj,Sem.run,M]
 refine⟨goInt ms.size,?_,by simp[rel,goInt,O]⟩;simp only[execOp,resolve,bT,fc,bP,invoke];simp[builtin,Sy,Sem.a_ (fJ I),J,R]
def eV(P:Program)(r:Operand→AV)(H:List ab):Op→Option AV
 |.load t a=>j9 P t (r a) H
 | .lookup t m k ok=>match fY P t (r m) (r k) ok H with
  |some v=>some v
  |none=>jH P t (r m) (r k) ok H
 |.call c=>nW P r H c
 |_=>none
theorem Uv{P:Program}{E:Env}(HE:aq E){r:Operand→AV}{ρ:Operand→Value}(d:∀ x,rel E (r x) (ρ x)){o:Oper}{v:AV}(h:eV P r E.H o.op=some v) :
  ∃ u,(execOp ρ o).run P E.w=.ok (.value u) E.w∧rel E v u:=by
 obtain⟨dst,op,type,pos,after,guard⟩:=o;cases op<;>simp only[eV]at h<;>try cases h
 case load t a =>
  obtain⟨u,g1,g2⟩:=Jj HE h (d a);exact⟨u,ke g1,g2⟩
 case lookup t m k ok =>
  split at h
  ·rename_i v1 h1
   cases h;obtain⟨u,g1,g2⟩:=JT HE h1 (d m) (d k);exact⟨u,ke g1,g2⟩
  ·obtain ⟨u, g1, g2⟩ := Uf HE h (d m) (d k)
   exact⟨u,ke g1,g2⟩
 case call c=>exact Uu HE d rfl h
def cq(P:Program)(f:FuncId)(args:List AV)(H:List ab)(v:AV)(H':List ab):Prop:=jI P f args H fun v1 H1=>v1=v∧H1=H'
def bM(ops:Array Oper)(fr:List AV)(o:Oper):Option Bool :=
 match o.guard with
 |none=>some true
 | some (j,want)=>match (ops[j]?).bind (·.dst) with
  | some t=>match fr[t]? with
   |some (.lit (.bool b))=>some (b==want)
   |some (.tuple [])=>some false
   |_=>none
  |none=>none
def Uw(H:List ab)(v v1:AV)(H1:List ab):Prop :=
 ∃(id ad:Nat) (ks:List Kd) (rows:List (List G)),v=.vec ks.length id ad 0 rows.length∧H[id]? = some (.vec ks.length ad (rows.map (aK ks)))∧v1=.listF ks rows∧H1=H.set id .dead
theorem Kf{E:Env}(HE:aq E){id ad:Nat}{ks:List Kd}{rows:List (List G)} (hid:E.H[id]? = some (.vec ks.length ad (rows.map (aK ks)))) {c:Value} (h:rel E (.vec ks.length id ad 0 rows.length) c) :
  rel { w:=E.w,H:=E.H.set id .dead,loc:=E.loc.set id none,X:=E.X } (.listF ks rows) c:=by
 have hle:=Env.uj HE id;have ho:=HE.obj id _ hid;rw[jC];simp only[rel]at h⊢;obtain⟨⟨base,cap,rfl,v,_⟩,_,q⟩:=h;obtain⟨J,z⟩:=q ⟨_,hid,rfl⟩;have t:ff (rows.map (aK ks)):=by
  intro r h;obtain⟨g,_,rfl⟩:=List.mem_map.1 h;exact fW ks g
 refine⟨t,base,cap,by simp,by simpa using v,?_⟩;simp only[aR]at ho;rcases ho with⟨h1,u⟩|⟨b,mm,h1,u,q,_,B⟩
 ·exact .inl u
 ·obtain ⟨g1, o, g2, g3⟩ := z b mm h1
  by_cases hm:rows=[]
  ·subst hm; exact .inl rfl
  ·right
   have:0<rows.length:=by cases rows with|nil=>exact(hm rfl).elim|cons _ _=>simp
   simp at q;have ho:=g2 (by omega);simp at ho;subst ho;simp only[j0]at g3;refine⟨b,0,g3.1,⟨(HE.lt id b mm h1).1,?_,(HE.lt id b mm h1).2⟩,kY hle.toC _ t rfl B⟩;rintro(⟨j,I,d⟩|⟨l,k,I,d⟩)
   case inr=>exact HE.cN _ _ _ _ _ _ h1 d
   simp only[List.getElem?_set]at d;split at d
   ·split at d<;>cases d
   ·rename_i y
    exact y (HE.inj _ _ _ _ _ h1 d)
def rG(P:Program)(r:Operand→AV)(H:List ab)(v:AV)(H':List ab):Op→Prop
 |.store t a x=>∃ v1 H1,Uw H (r x) v1 H1∧rA P t (r a) v1 H1=some H'∧v=.undef
 |_=>False
theorem Ux{P:Program}{r r':Operand→AV}{H:List ab}{v:AV}{H':List ab}(o:Op)(h:∀ x∈o.operands,r x=r' x):rG P r H v H' o=rG P r' H v H' o:=by
 cases o<;>try rfl
 rename_i t a x;simp only[rG];rw[h a (by simp[fe]),h x (by simp[fe])]
theorem Uy{P:Program}{E:Env}(HE:aq E){r:Operand→AV}{ρ:Operand→Value}(d:∀ x,rel E (r x) (ρ x)){o:Oper}{v:AV}{H':List ab}(h:rG P r E.H v H' o.op) :
  ∃ w',(execOp ρ o).run P E.w=.ok .skip w'∧cL E v H' undef w':=by
 obtain⟨dst,op,type,pos,after,guard⟩:=o;cases op<;>try exact h.elim
 rename_i t a x;obtain⟨v1,H1,⟨id,ad,ks,rows,h1,g,rfl,rfl⟩,q,rfl⟩:=h;have k:=d x;rw[h1]at k;have hle:=Env.uj HE id;obtain⟨w',g1,g2,g3⟩:=JG (E:={ w:=E.w,H:=E.H.set id .dead,loc:=E.loc.set id none,X:=E.X }) (aq.drop HE id fun o ho=>by rw[g]at ho; cases ho; rfl) q (bK hle _ (d a)) (Kf HE g k);have g1:(Instr.storeAt t (ρ a) (ρ x)).run P E.w=.ok () w':=g1;exact⟨w',by simp[execOp,g1],E.loc.set id none,E.X.r,by simp[rel],g2,hle.trans g3⟩
def Yields(P:Program)(pf:FuncId→Bool)(ops:Array Oper)(o:Oper)(s:St)(v:AV)(H':List ab):Prop :=
 match bM ops s.fr o with
 |none=>False
 |some false=>v=.tuple []∧H'=s.H
 | some true=>match cO pf o.op with
  |.pure=>H'=s.H∧(iu P s.eval o.op=some v∨∃ f args,iw s.eval o.op=some (f,args)∧iv P f=true∧mR P f args v)
  |.read=>H'=s.H∧eV P s.eval s.H o.op=some v
  |.write=>(cW P s.eval s.H o.op=some (v,H')∨∃ f args,iw s.eval o.op=some (f,args)∧iv P f=true∧cq P f args s.H v H')∨(((∃ t id m,o.op=.alloc t∧nU P t id m s.H=some (v,H'))∨∃ t id,o.op=.makeMap t none∧pK id s.H=some (v,H'))∨rG P s.eval s.H v H' o.op)
def jJ(fr:List AV)(dst:Option Tmp)(v:AV):List AV :=
 match dst with
 |some d=>fr.set d v
 |none=>fr
def St.put(s:St)(dst:Option Tmp)(v:AV)(H':List ab):St:=⟨jJ s.fr dst v,H'⟩
theorem Kg{E:Env}:∀{as:List AV} {vs:List Value} {a:AV} {v:Value} (d:Nat),ae E as vs→rel E a v→ae E (as.set d a) (vs.set d v)
 | [],[],_,_,_,_,_=>by simp[ae]
 | [],_::_,_,_,_,h,_=>by simp[ae]at h
 |_::_,[],_,_,_,h,_=>by simp[ae]at h
 |_::as,_::vs,a,v,0,h,g=>by simp only[ae]at h; simp only[List.set_cons_zero,ae]; exact⟨g,h.2⟩
 |_::as,_::vs,a,v,d+1,h,g=>by simp only[ae]at h; simp only[List.set_cons_succ,ae]; exact⟨h.1,Kg d h.2 g⟩
theorem Kh{E E':Env}{s:St}{a:Act}(h:ae E s.fr a.tmps.toList)(hle:E.le E')(dst:Option Tmp){v:AV}{u:Value}(g:rel E' v u) :
  ae E' (jJ s.fr dst v) (a.put dst u).tmps.toList:=by
 have h':=dN hle _ h;cases dst with
 |none=>exact h'
 | some d =>
  simp only[jJ,Act.put,Array.toList_setIfInBounds];exact Kg d h' g
def fz(r:Option Nat):Fence:={ Fence.wide with round:=r }
theorem Ki{r:Option Nat}{n:Nat}{P:Program}{f:FuncId}{args:Array Value}{w:World}{R:Ending→World→Prop}(h:Calls P f args w R):CallsIn (fz r) n P f args w R:=(callsIn_wide (n:=n)).2 h
theorem put_defers(a:Act)(dst:Option Tmp)(v:Value):(a.put dst v).defers=a.defers:=by cases dst<;>rfl
theorem Kj{ops:Array Oper}{s:St}{E:Env}{a:Act}(h:cV s E a){o:Oper}{b:Bool}(hw:bM ops s.fr o=some b) :
  SA o (yielded ops a.tmps)=b:=by
 unfold bM at hw;unfold SA;cases g:o.guard with
 |none=>rw[g]at hw; simpa using hw
 | some q =>
  obtain⟨j,want⟩:=q;rw[g]at hw;simp only[]at hw⊢;split at hw
  case h_2=>cases hw
  rename_i t k;split at hw
  ·rename_i v hb
   cases hw;obtain⟨u,g1,g2⟩:=mL h.fr hb;simp only[rel]at g2;subst g2;have d:a.tmps[t]? = some (.bool v):=by simpa using g1
   simp[yielded,k,d]
  ·rename_i hb
   cases hw;obtain⟨u,g1,g2⟩:=mL h.fr hb;simp only[rel]at g2;obtain⟨cs,rfl,_⟩:=g2;have d:a.tmps[t]? = some (.tuple cs):=by simpa using g1
   simp[yielded,k,d]
  ·cases hw
def eW(E:Env)(s':St)(g:Act)(w':World):Prop :=
 ∃ d r',cV s' { w:=w',H:=s'.H,loc:=d,X:=E.X.re r' } g∧E.le { w:=w',H:=s'.H,loc:=d,X:=E.X.re r' }
theorem CU{P:Program}{pf:FuncId→Bool}{ops:Array Oper}{s:St}{E:Env}{a:Act}(g:cV s E a){i:Nat}{o:Oper}(hi:ops[i]? = some o){v:AV}{H':List ab}
  (d:Yields P pf ops o s v H') {K:Act→World→Prop} {Q:Exit→Act→World→Prop} (N:∀ J w',eW E (s.put o.dst v H') J w'→K J w') (ro:Option Nat):wpOpIn (fz ro) 0 P ops Q i K a E.w:=by
 have y:=g.eval;have hH:=g.H;have fin:∀{u:Value} {w':World},cL E v H' u w'→K (a.put o.dst u) w':=by
  rintro u w' ⟨M,r',h1,z,q⟩;exact N _ _ ⟨M,r',⟨rfl,Kh g.fr q o.dst h1,by rw[put_defers]; exact B9 g.heap q g.defers,z⟩,q⟩
 have pure':H'=s.H→∀{u:Value} {w':World},gr E v u w'→cL E v H' u w':=by
  intro e u w' B;have:=B.toOp g.heap;rw[hH,←e]at this;exact this
 have I:(fz ro).depth.isSome=true→1≤0:=fun h=>by cases h
 unfold wpOpIn;simp only[hi];unfold Yields at d;split at d
 ·cases d
 ·rename_i hw
  rw[Kj g hw];simp only[Bool.false_eq_true,if_false];obtain⟨rfl,e⟩:=d;refine⟨fun _ _=>trivial,fin ?_⟩;rw[e,←hH];exact⟨E.loc,E.X.r,by simp only[rel]; exact⟨#[],rfl,by simp[ae]⟩,g.heap,Env.le.refl E⟩
 ·rename_i hw
  rw[Kj g hw];simp only[if_true];split at d
  ·obtain ⟨e, d⟩ := d
   rcases d with d|⟨f,args,h1,z,q⟩
   ·have k : ∀ c, o.op ≠ .defer c := fun c e => by rw [e] at d; cases d
    obtain⟨u,w',g1,g2⟩:=Uq g.heap y d;unfold pr;rw[pt _ _ _ k,g1];exact⟨fun _ _=>trivial,fin (pure' e g2)⟩
   ·have k : ∀ c, o.op ≠ .defer c := fun c e => by rw [e] at h1; cases h1
    obtain⟨cargs,g1,g2⟩:=Ke y h1 z;unfold pr;rw[pt _ _ _ k,g1];refine⟨fun _ _=>trivial,I,Ki ((q s.H E cargs hH g.heap g2).mono ?_)⟩;rintro _ w' ⟨c,O,H1,rfl,⟨rfl,rfl⟩,B⟩;exact fin (by rw[e]; exact B)
  ·obtain ⟨e, d⟩ := d
   rw[←hH]at d;have k:∀ c,o.op≠.defer c:=fun c e=>by rw[e]at d; cases d
   obtain⟨u,g1,g2⟩:=Uv g.heap y d;unfold pr;rw[pt _ _ _ k,g1];exact⟨fun _ _=>trivial,fin (pure' e (gr.same g2))⟩
  ·rcases d with (d | ⟨f, args, h1, z, q⟩) | (⟨t, id, m, ho, d⟩ | ⟨t, id, ho, d⟩) | d
   ·have k : ∀ c, o.op ≠ .defer c := fun c e => by rw [e] at d; cases d
    rw[←hH]at d;obtain⟨n,u,w',g1,g2,g3⟩:=Ur g.heap y d;unfold pr;rw[pt _ _ _ k,g1];rcases g2 with rfl|⟨rfl,rfl⟩
    ·exact⟨fun _ _=>trivial,fin g3⟩
    ·exact⟨fun _ _=>trivial,fin g3⟩
   ·have k : ∀ c, o.op ≠ .defer c := fun c e => by rw [e] at h1; cases h1
    obtain⟨cargs,g1,g2⟩:=Ke y h1 z;unfold pr;rw[pt _ _ _ k,g1];refine⟨fun _ _=>trivial,I,Ki ((q E cargs hH g.heap g2).mono ?_)⟩;rintro _ w' ⟨c,O,H1,rfl,⟨rfl,rfl⟩,B⟩;exact fin B
   ·rw [← hH] at d
    obtain⟨u,w',g1,g2⟩:=TG g.heap d;unfold pr;obtain⟨dst,op,type,pos,after,guard⟩:=o;simp only[]at ho;subst ho;have g3:(execOp a.eval ⟨dst,.alloc t,type,pos,after,guard⟩).run P E.w=.ok (.value u) w':=ke g1;rw[pt _ _ _ (fun c e=>by cases e),g3];exact⟨fun _ _=>trivial,fin g2⟩
   ·rw [← hH] at d
    obtain⟨u,w',g1,g2⟩:=TR (P:=P) (t:=t) g.heap d;unfold pr;obtain⟨dst,op,type,pos,after,guard⟩:=o;simp only[]at ho;subst ho;have g3:(execOp a.eval ⟨dst,.makeMap t none,type,pos,after,guard⟩).run P E.w=.ok (.value u) w':=ke g1;rw[pt _ _ _ (fun c e=>by cases e),g3];exact⟨fun _ _=>trivial,fin g2⟩
   ·have k : ∀ c, o.op ≠ .defer c := fun c e => by rw [e] at d; exact d
    rw[←hH]at d;obtain⟨w',g1,g2⟩:=Uy g.heap y d;unfold pr;rw[pt _ _ _ k,g1];exact⟨fun _ _=>trivial,fin g2⟩
def jh(P:Program)(pf:FuncId→Bool)(ops:Array Oper):List Oper→St→St→Prop
 | [],s,s'=>s'=s
 |o::rest,s,s'=>∃ v H',Yields P pf ops o s v H'∧jh P pf ops rest (s.put o.dst v H') s'
theorem eW.after{E E':Env}{s':St}{d:Act}{w':World}(h:E.le E')(h':eW E' s' d w'):eW E s' d w':=by
 obtain⟨g,r',k,q⟩:=h';refine⟨g,r',?_,?_⟩
 ·rw[←XS.I_ h.X]; exact k
 ·rw[←XS.I_ h.X]; exact h.trans q
theorem eW.refl{s:St}{E:Env}{a:Act}(h:cV s E a):eW E s a E.w:=by
 obtain⟨w,H,loc,X⟩:=E;have:=h.H;simp only at this;subst this;exact⟨loc,X.r,h,Env.le.refl _⟩
theorem CV{P:Program}{pf:FuncId→Bool}{ops:Array Oper}{Q:Exit→Act→World→Prop}:∀(l:List Oper) (k:Nat) (s s':St) (E:Env) (a:Act),
  l=ops.toList.drop k→jh P pf ops l s s'→cV s E a→(∀ d w',eW E s' d w'→Q .normal d w')→∀ ro:Option Nat,wpOpsIn (fz ro) 0 P ops Q (List.range' k l.length) a E.w
 | [],k,s,s',E,a,_,h,g,q,ro=>by
  simp only[jh]at h;subst h;exact q _ _ (eW.refl g)
 | o::l,k,s,s',E,a,t,h,g,q,ro=>by
  obtain⟨v,H',B,u⟩:=h;simp only[cw,List.range'_succ];rw[wpOpsIn_cons];have hk:ops[k]? = some o:=by
   have:(ops.toList.drop k)[0]? = some o:=by rw[←t]; rfl
   simpa using this
  refine CU g hk B (fun d w' I=>?_) ro;obtain⟨y,r',h1,J⟩:=I;refine CV l (k+1) _ s' { w:=w',H:=H',loc:=y,X:=E.X.re r' } d ?_ u h1 (fun a2 M z=>q a2 M ?_) ro
  ·rw[←ph,←t]; rfl
  ·exact eW.after J z
/-! ### d in any order -/
def waits(ops:Array Oper):Nat→Nat→Nat→Bool
 |0,_,_=>false
 | n+1,j,i=>match ops[j]? with
  |some o=>o.after.toList.any fun e=>IT .any e&&(e.on==i||waits ops n e.on i)
  |none=>false
def d_:Op→Bool
 |.alloc _=>true
 |.makeMap _ none=>true
 |_=>false
def mS(pf:FuncId→Bool)(x y:Oper):Bool :=
 match cO pf x.op,cO pf y.op with
 |.pure,_|_,.pure | .read,.read=>true
 |.read,.write=>d_ y.op
 |_,_=>false
def rH(pf:FuncId→Bool)(ops:Array Oper):Bool :=
  ahP ops &&
  (er ops.size).all fun j=>(match ops[j]? with
    | some d=>(d.after.toList.all fun e => !IT .any e||e.on<j) &&
      ((er j).all fun i => match ops[i]? with
        |some g=>waits ops ops.size j i||(g.apart ops d&&d.apart ops g&&mS pf g d)
        |none=>true)
    |none=>true)
def rI(P:Program)(pf:FuncId→Bool)(ops:Array Oper)(i:Nat)(K:St→Prop)(s:St):Prop :=
 match ops[i]? with
 |none=>K s
 |some o=>∃ v H',Yields P pf ops o s v H'∧K (s.put o.dst v H')
def rJ(P:Program)(pf:FuncId→Bool)(ops:Array Oper)(s':St):Nat→Array Bool→St→Prop
 |0,listed,s=>kU .any ops listed=[]∧s=s'
 |fuel+1,listed,s=>(kU .any ops listed=[]→s=s')∧∀ i∈kU .any ops listed,rI P pf ops i (rJ P pf ops s' fuel (listed.setIfInBounds i true)) s
theorem yt{P:Program}{pf:FuncId→Bool}{ops:Array Oper}{s':St}{Q:Exit→Act→World→Prop}:∀(fuel:Nat) (listed:Array Bool) (s:St) (E:Env) (a:Act),
  cV s E a→rJ P pf ops s' fuel listed s→(∀ k w',eW E s' k w'→Q .normal k w')→∀ ro:Option Nat,wpAnyIn (fz ro) 0 P .any ops Q fuel listed a E.w
 |0,_,s,E,a,d,h,g,_=>⟨h.1,g _ _ (h.2▸eW.refl d)⟩
 | fuel+1,listed,s,E,a,d,h,g,ro=>by
  refine⟨fun h0=>g _ _ (h.1 h0▸eW.refl d),fun i hi=>?_⟩;have h1:=h.2 i hi;unfold rI at h1;cases ho:ops[i]? with
  | none =>
   rw[ho]at h1;unfold wpOpIn;simp only[ho];exact yt fuel _ s E a d h1 g ro
  | some o =>
   rw[ho]at h1;obtain⟨v,H',u,y⟩:=h1;refine CU d ho u (fun k w' z=>?_) ro;obtain⟨q,r',g1,g2⟩:=z;exact yt fuel _ _ { w:=w',H:=H',loc:=q,X:=E.X.re r' } k g1 y (fun a2 B t=>g a2 B (eW.after g2 t)) ro
theorem Uz{ops:Array Oper}{o:Oper}{t:Tmp}(h:Operand.tmp t∈o.op.operands):t∈o.looksAt ops :=
 List.mem_append_left _ (List.mem_filterMap.2 ⟨.tmp t,by simpa using h,rfl⟩)
theorem UA{fr:List AV}{d t:Nat}{v:AV}(h:d≠t):(fr.set d v).getD t .undef=fr.getD t .undef:=by
 simp[List.getD_eq_getElem?_getD,aV h]
theorem eval_put{ops:Array Oper}{s:St}{o:Oper}{dst:Option Tmp}{v:AV}{H':List ab}(h:∀ d,dst=some d→d∉o.looksAt ops){x:Operand}(k:x∈o.op.operands) :
  (s.put dst v H').eval x=s.eval x:=by
 cases dst with
 |none=>cases x<;>rfl
 | some d =>
  cases x with
  | tmp t =>
   have g:d≠t:=fun e=>h d rfl (e▸Uz k);simp only[St.eval,St.put,jJ];exact UA g
  |_=>rfl
theorem yu{ops:Array Oper}{fr:List AV}{o:Oper}{dst:Option Tmp}{v:AV}(h:∀ d,dst=some d→d∉o.looksAt ops) :
  bM ops (jJ fr dst v) o=bM ops fr o:=by
 cases dst with
 |none=>rfl
 | some d =>
  unfold bM;cases q:o.guard with
  |none=>rfl
  | some u =>
   obtain⟨g,want⟩:=u;simp only[];cases y:(ops[g]?).bind (·.dst)with
   |none=>rfl
   | some t =>
    have k:d≠t:=fun e=>h d rfl (by subst e; simp[Oper.looksAt,q,y]);simp only[jJ,aV k]
theorem UB(fr:List AV){x y:Option Tmp}(v u:AV)(h:∀ d,x=some d→y≠some d):jJ (jJ fr x v) y u=jJ (jJ fr y u) x v:=by
 cases x with
 |none=>rfl
 | some d =>
  cases y with
  |none=>rfl
  | some e =>
   have g:d≠e:=fun he=>h d rfl (he▸rfl);simp only[jJ];rw[mu _ _ g]
theorem Kk{P:Program}{r r':Operand→AV}(o:Op)(h:∀ x∈o.operands,r x=r' x):iu P r o=iu P r' o:=by
 cases o<;>simp only[iu]<;>simp only[fe]at h
 case build t ps =>
  have:(ps.toList.map fun p=>(p.1,r p.2))=ps.toList.map fun p=>(p.1,r' p.2):=pv fun p d=>by
   rw[h p.2 (by simp; exact⟨p.1,by simpa using d⟩)]
  rw[this]
 case buildSlice t n ps =>
  have:(ps.toList.map fun p=>(p.1,r p.2))=ps.toList.map fun p=>(p.1,r' p.2):=pv fun p d=>by
   rw[h p.2 (by simp; exact⟨p.1,by simpa using d⟩)]
  rw[this]
 case makeFunc fn first captured =>
  unfold CP;cases fn<;>try rfl
  have:(captured.toList.map r)=captured.toList.map r':=pv fun x g=>h x (by simp; right; simpa using g);simp only[this]
 case call c =>
  obtain⟨callee,args,argTypes⟩:=c;unfold CQ;cases callee<;>try rfl
  have:(args.toList.map r)=args.toList.map r':=pv fun x g=>h x (by simp[tY]; simpa using g);simp only[this]
 case slice t x lo hi mx=>cases lo<;>cases hi<;>cases mx<;>simp_all
 all_goals (first|rfl|(simp_all; done))
theorem Kl{P:Program}{r r':Operand→AV}{H:List ab}(o:Op)(h:∀ x∈o.operands,r x=r' x):eV P r H o=eV P r' H o:=by
 cases o<;>simp only[eV]<;>simp only[fe]at h
 case call c =>
  obtain⟨callee,args,argTypes⟩:=c;unfold nW;cases callee<;>try rfl
  split
  ·rename_i a t d ha g
   have hm:a∈args:=by
    have:a∈args.toList:=by rw[show args.toList=[a] from ha]; simp
    simpa using this
   have:r a=r' a:=h a (by simp[tY]; simpa using hm);simp only[this,d,ha,g]
  ·rfl
 all_goals (first|rfl|(simp_all; done))
theorem Km{P:Program}{r r':Operand→AV}{H:List ab}(o:Op)(h:∀ x∈o.operands,r x=r' x):cW P r H o=cW P r' H o:=by
  cases o<;>simp only[cW]<;>simp only[fe]at h
  case buildSlice t n ps =>
    have:(ps.toList.map fun p=>(p.1,r p.2))=ps.toList.map fun p=>(p.1,r' p.2):=pv fun p q=>by
      rw[h p.2 (by simp; exact⟨p.1,by simpa using q⟩)]
    rw[this]
  case call c =>
    obtain⟨callee,args,argTypes⟩:=c;unfold yr;cases callee<;>try rfl
    rename_i b;have d:∀ x,x∈args.toList→r x=r' x:=fun x u=>h x (by simp[tY]; simpa using u);cases b<;>try rfl
    all_goals simp only[]
    all_goals split
    all_goals first
      |rfl
      | (rename_i s x t xt ha g
         rw[d s (by rw[ha]; simp),d x (by rw[ha]; simp)])
      | (rename_i x t ha g
         rw[d x (by rw[ha]; simp)])
      | (rename_i x k t v ha g
         rw[d x (by rw[ha]; simp),d k (by rw[ha]; simp)])
  case makeMap t res=>cases res<;>rfl
  case lookup t m k ok =>
    cases ok with
    |true=>rfl
    |false=>simp only[h m (by simp),h k (by simp)]
  case mapEntry t m k=>simp only[h m (by simp),h k (by simp)]
  case entryStore t m s x=>simp only[h m (by simp),h s (by simp),h x (by simp)]
  all_goals (first|rfl|(simp_all; done))
theorem Kn{r r':Operand→AV}(o:Op)(h:∀ x∈o.operands,r x=r' x):iw r o=iw r' o:=by
 cases o<;>simp only[iw]<;>simp only[fe]at h
 rename_i c;obtain⟨callee,args,argTypes⟩:=c;unfold CT;cases callee<;>try rfl
 rename_i g;have d:r g=r' g:=h g (by simp[tY]);have k:(args.toList.map r)=args.toList.map r':=pv fun x q=>h x (by simp[tY]; right; simpa using q);simp only[d,k]
end Go.AL

namespace Go.AL
open Go
variable [Dr]
variable {P:Program} {pf:FuncId→Bool} {ops:Array Oper}
theorem ft{o:Oper}{s s1:St}{v:AV}{H':List ab}(hw:bM ops s1.fr o=bM ops s.fr o)(d:∀ x∈o.op.operands,s1.eval x=s.eval x)(hH:s1.H=s.H) :
  Yields P pf ops o s1 v H'↔Yields P pf ops o s v H':=by
 unfold Yields;rw[hw,hH,Kk o.op d,Kl o.op d,Km o.op d,Kn o.op d,Ux o.op d]
theorem uF{o:Oper}{s:St}{v:AV}{H':List ab}(d:cO pf o.op=.pure)(h:Yields P pf ops o s v H'):H'=s.H∧∀ H2,Yields P pf ops o ⟨s.fr,H2⟩ v H2:=by
 have key:∀ H2:List ab,∀ x∈o.op.operands,St.eval ⟨s.fr,H2⟩ x=s.eval x:=fun H2 x _=>by cases x<;>rfl
 unfold Yields at h;cases hw:bM ops s.fr o with
 |none=>rw[hw]at h; exact h.elim
 | some b =>
  rw[hw]at h;cases b with
  | false =>
   refine⟨h.2,fun H2=>?_⟩;unfold Yields;rw[show bM ops (St.mk s.fr H2).fr o=some false from hw];exact⟨h.1,rfl⟩
  | true =>
   simp only[d]at h;refine⟨h.1,fun H2=>?_⟩;unfold Yields;rw[show bM ops (St.mk s.fr H2).fr o=some true from hw];simp only[d];refine⟨trivial,?_⟩;rw[Kk o.op (key H2),Kn o.op (key H2)];exact h.2
theorem pR{o:Oper}{s:St}{v:AV}{H':List ab}(d:cO pf o.op=.read)(h:Yields P pf ops o s v H'):H'=s.H:=by
 unfold Yields at h;simp only[d]at h;split at h
 ·cases h
 ·exact h.2
 ·exact h.1
theorem UC{r:Operand→AV}{H:List ab}{x:ab}{v:AV}:∀{op:Op},eV P r H op=some v→eV P r (H++[x]) op=some v:=by
 have get:∀{i:Nat} {y:ab},H[i]? = some y→(H++[x])[i]? = some y:=by
  intro i y h;rw[cQ (List.getElem?_eq_some_iff.1 h).1];exact h
 intro op h;cases op<;>simp only[eV]at h⊢<;>try cases h
 case load t a =>
  unfold j9 at h⊢;split at h
  ·rename_i n agg u
   split at h
   ·exact h
   ·rename_i id ad w row col ha
    cases hi:H[id]? with
    |none=>rw[hi]at h; cases h
    |some y=>rw[hi]at h; rw[get hi]; exact h
   ·cases h
  ·cases h
 case lookup t m k ok =>
  split at h
  ·rename_i v1 h1
   cases h;have d:fY P t (r m) (r k) ok (H++[x])=some v:=by
    unfold fY at h1⊢;split at h1
    ·rename_i z B id hm q
     cases hi:H[id]? with
     |none=>rw[hi]at h1; cases h1
     |some y=>rw[hi]at h1; rw[get hi]; exact h1
    ·cases h1
   rw[d]
  ·obtain ⟨d, g⟩ := J_ (H2 := H ++ [x]) (fun i l es ms cl hi => get hi) h
   rw[g,d]
 case call c =>
  unfold nW at h⊢;split at h
  ·split at h
   ·rename_i id _ _
    cases hi:H[id]? with
    |none=>rw[hi]at h; cases h
    |some y=>rw[hi]at h; rw[get hi]; exact h
   ·cases h
  ·cases h
theorem UD{r:Operand→AV}{H:List ab}{id:Nat}{x y:ab}{v:AV}(hid:H[id]? = some y)(d:(∃ k,y=.vec k 0 [])∨y=.dX):∀{op:Op},eV P r H op=some v→eV P r (H.set id x) op=some v:=by
 have get:∀{i:Nat},i≠id→(H.set id x)[i]? = H[i]? := fun h=>aV (Ne.symm h);intro op h;cases op<;>simp only[eV]at h⊢<;>try cases h
 case load t a =>
  unfold j9 at h⊢;split at h
  ·rename_i n agg z
   split at h
   ·exact h
   ·rename_i i ad w row col ha
    by_cases e:i=id
    ·subst e
     rw[hid]at h;rcases d with⟨k,rfl⟩|rfl<;>simp at h
    ·rw [get e]
     exact h
   ·cases h
  ·cases h
 case lookup t m k ok =>
  split at h
  ·rename_i v1 h1
   cases h;have g:fY P t (r m) (r k) ok (H.set id x)=some v:=by
    unfold fY at h1⊢;split at h1
    ·rename_i B I i hm u
     by_cases e:i=id
     ·subst e
      rw[hid]at h1;rcases d with⟨k,rfl⟩|rfl<;>simp at h1
     ·rw [get e]
      exact h1
    ·cases h1
   rw[g]
  ·obtain ⟨g,q⟩:=J_ (H2:=H.set id x) (fun i l es ms cl hi=>by
    have e:i≠id:=fun e=>by
     rw[e,hid]at hi;rcases d with⟨k,rfl⟩|rfl<;>cases hi
    rw[get e];exact hi) h
   rw[q,g]
 case call c =>
  unfold nW at h⊢;split at h
  ·split at h
   ·rename_i i _ _
    by_cases e:i=id
    ·subst e
     rw[hid]at h;rcases d with⟨k,rfl⟩|rfl<;>simp at h
    ·rw [get e]
     exact h
   ·cases h
  ·cases h
theorem Ko{P:Program}{t:TypeId}{id:Nat}{m:List (Option (List Kd))}{H H':List ab}{v:AV}(h:nU P t id m H=some (v,H')) :
  ∃ z k,dZ P t=some z∧H[id]? = some (.vec k 0 [])∧k=z.length∧v=.ptr id 1 k 0 0∧H'=H.set id (.vec k 1 [dO m z]):=by
 unfold nU at h;split at h
 ·rename_i z k d hid
  split at h
  ·rename_i hk
   cases h;exact⟨z,k,d,hid,hk,rfl,rfl⟩
  ·cases h
 ·cases h
theorem Kp{P:Program}{t:TypeId}{id:Nat}{H:List ab}{z:List Value}{k:Nat} (m:List (Option (List Kd))) (d:dZ P t=some z) (hid:H[id]? = some (.vec k 0 [])) (hk:k=z.length) :
  nU P t id m H=some (.ptr id 1 k 0 0,H.set id (.vec k 1 [dO m z])):=by
 unfold nU;rw[d,hid];simp only[];rw[if_pos hk]
theorem Kq{q h:Oper}{s:St}{v u:AV}{O g:List ab}(h1:q.apart ops h=true)(_h2:h.apart ops q=true)(B:mS pf q h=true)
  (hi:Yields P pf ops q s v O) (R:Yields P pf ops h (s.put q.dst v O) u g) :
  ∃ Hj1,Yields P pf ops h s u Hj1∧Yields P pf ops q (s.put h.dst u Hj1) v g:=by
 obtain⟨a1,a2,a3⟩:=IU h1;have V:bM ops (s.put q.dst v O).fr h=bM ops s.fr h:=yu a1;have W:∀ H2,bM ops (s.put h.dst u H2).fr q=bM ops s.fr q:=fun H2=>yu a3;have ej:∀ x∈h.op.operands,(s.put q.dst v O).eval x=s.eval x:=fun x I=>eval_put a1 I;have ei:∀ H2,∀ x∈q.op.operands,(s.put h.dst u H2).eval x=s.eval x:=fun H2 x I=>eval_put a3 I;unfold mS at B;split at B
 ·-- q only computes
  rename_i M;obtain⟨J,g1⟩:=uF M hi;subst J;refine⟨g,(ft V ej rfl).1 R,?_⟩;exact(ft (s1:=s.put h.dst u g) (s:=⟨s.fr,g⟩) (W g) (fun x I=>by rw[ei g x I]; cases x<;>rfl) rfl).2 (g1 g)
 ·-- h only computes
  rename_i N _;obtain⟨J,g1⟩:=uF N R;have e1':g=O:=J;subst e1';refine⟨s.H,?_,?_⟩
  ·have := g1 s.H
   exact(ft (s1:=⟨(s.put q.dst v g).fr,s.H⟩) (s:=s) V (fun x I=>by
    have:=ej x I;cases x<;>exact this) rfl).1 this
  ·exact(ft (s1:=s.put h.dst u s.H) (s:=s) (W s.H) (ei s.H) rfl).2 hi
 ·rename_i M N
  have J:=pR M hi;subst J;have e2:=pR N R;have e2':g=s.H:=e2;subst e2';exact⟨s.H,(ft V ej rfl).1 R,(ft (s1:=s.put h.dst u s.H) (s:=s) (W s.H) (ei s.H) rfl).2 hi⟩
 ·rename_i M N
  have J:=pR M hi;subst J;have d:=(ft V ej rfl).1 R;refine⟨g,d,?_⟩;have hpush:g=s.H∨(∃ x,g=s.H++[x])∨∃ id y x,s.H[id]? = some y∧((∃ k,y=.vec k 0 [])∨y=.dX)∧g=s.H.set id x:=by
   unfold Yields at d;simp only[N]at d;split at d
   ·exact d.elim
   ·exact .inl d.2
   ·rcases d with (d | ⟨f, args, h1, _⟩) | (⟨t, id, m, ho, hv⟩ | ⟨t, id, ho, hv⟩) | U
    ·unfold d_ at B
     split at B
     ·rename_i t ho
      rw[ho]at d;simp only[cW,pJ]at d;split at d
      ·split at d
       ·cases d; exact .inr (.inl ⟨_,rfl⟩)
       ·cases d
      ·split at d
       ·cases d; exact .inr (.inl ⟨_,rfl⟩)
       ·cases d
     ·rename_i t ho
      rw[ho]at d;simp only[cW]at d;cases d;exact .inr (.inl ⟨_,rfl⟩)
     ·cases B
    ·unfold d_ at B
     split at B
     ·rename_i t ho
      rw[ho]at h1;cases h1
     ·rename_i t ho
      rw[ho]at h1;cases h1
     ·cases B
    ·obtain ⟨z, k, _, h2, _, _, h3⟩ := Ko hv
     exact .inr (.inr ⟨id,_,_,h2,.inl ⟨k,rfl⟩,h3⟩)
    ·obtain ⟨h1, _, h3⟩ := CE hv
     exact .inr (.inr ⟨id,_,_,h1,.inr rfl,h3⟩)
    ·unfold d_ at B
     split at B
     ·rename_i t ho
      rw[ho]at U;exact U.elim
     ·rename_i t ho
      rw[ho]at U;exact U.elim
     ·cases B
  refine(ft (s1:=s.put h.dst u g) (s:=⟨s.fr,g⟩) (W g) (fun x I=>by rw[ei g x I]; cases x<;>rfl) rfl).2 ?_;have key:∀ H2:List ab,St.eval ⟨s.fr,H2⟩=s.eval:=fun H2=>by funext x; cases x<;>rfl
  unfold Yields at hi⊢;simp only[M]at hi⊢;cases hw:bM ops s.fr q with
  |none=>rw[hw]at hi; exact hi.elim
  | some b =>
   rw[hw]at hi;cases b with
   |false=>exact⟨hi.1,by simp⟩
   | true =>
    refine⟨by simp,?_⟩;rw[key];rcases hpush with rfl|⟨x,rfl⟩|⟨id,y,x,hid,hy,rfl⟩
    ·exact hi.2
    ·exact UC hi.2
    ·exact UD hid hy hi.2
 ·cases B
def CW(ops:Array Oper)(listed:Array Bool)(j:Nat):Prop :=
 ∀ o,ops[j]? = some o→∀ e∈o.after,IT .any e=true→listed.getD e.on false=true
def pS(ops:Array Oper)(listed:Array Bool):Prop:=∀ j,listed.getD j false=true→CW ops listed j
theorem CX{listed:Array Bool}(d:pS ops listed):∀(n j i:Nat),CW ops listed j→waits ops n j i=true→listed.getD i false=true
 |0,_,_,_,h=>by simp[waits]at h
 | n+1,j,i,k,h=>by
  unfold waits at h;split at h
  ·rename_i o ho
   rw[jz]at h;obtain⟨e,he,hb⟩:=h;simp only[ar,BS,beq_iff_eq]at hb;have g:=k o ho e (by simpa using he) hb.1;rcases hb.2 with rfl|hw
   ·exact g
   ·exact CX d n e.on i (d _ g) hw
  ·cases h
theorem CY{listed:Array Bool}{j:Nat}(h:j∈kU .any ops listed):CW ops listed j:=by
 obtain⟨_,o,ho,g⟩:=mem_ready.1 h;intro o' d;rw[ho]at d;cases d;exact g
theorem yv{listed:Array Bool}(g:pS ops listed){j:Nat}(q:j∈kU .any ops listed):pS ops (listed.setIfInBounds j true):=by
 intro k hk o ho e he hb;by_cases d:j=k
 ·subst d
  exact getD_set_true (CY q o ho e he hb)
 ·have:listed.getD k false=true:=by
   have h:=hk;simp[Array.getElem?_setIfInBounds_ne d]at h;simpa using h
  exact getD_set_true (g k this o ho e he hb)
theorem Kr(s:St)(x y:Option Tmp)(v u:AV)(H1 H2 g:List ab)(h:∀ d,x=some d→y≠some d):(s.put x v H1).put y u H2=(s.put y u g).put x v H2:=by
 simp only[St.put,UB s.fr v u h]
theorem Ks{listed:Array Bool}{i:Nat}(h:i∈kU .any ops listed):listed.getD i false=false:=by
 obtain⟨h0,_⟩:=mem_ready.1 h;rcases h_ i listed.size with h'|h'
 ·simp[h']at h0⊢; exact h0
 ·simp[xC h']at h0
theorem UE{s':St}{i:Nat}{q:Oper}(hi:ops[i]? = some q):∀(fuel:Nat) (listed:Array Bool) (s:St) (v:AV) (H':List ab),pS ops listed →
  (∀ j g,ops[j]? = some g→j≠i→listed.getD j true=false→waits ops ops.size j i=false→q.apart ops g=true∧g.apart ops q=true∧mS pf q g=true) →
  i∈kU .any ops listed→Yields P pf ops q s v H'→rJ P pf ops s' fuel (listed.setIfInBounds i true) (s.put q.dst v H')→rJ P pf ops s' (fuel+1) listed s:=by
 intro fuel
 induction fuel with
 | zero =>
  intro listed s v H' _ _ t z H;refine⟨fun h=>(by rw[h]at t; cases t),fun j y=>?_⟩;by_cases d:j=i
  ·subst d
   unfold rI;simp only[hi];exact⟨v,H',z,H⟩
  ·have := ready_mono y d
   rw[H.1]at this;cases this
 | succ fuel ih =>
  intro listed s v H' M I t z H;refine⟨fun h=>(by rw[h]at t; cases t),fun j y=>?_⟩;by_cases d:j=i
  ·subst d
   unfold rI;simp only[hi];exact⟨v,H',z,H⟩
  ·have h1 := H.2 j (ready_mono y d)
   obtain⟨J,g,N,hall⟩:=mem_ready.1 y;unfold rI at h1⊢;simp only[N]at h1⊢;obtain⟨u,U,hyj,W⟩:=h1;have hnw:waits ops ops.size j i=false:=by
    cases hw:waits ops ops.size j i with
    |false=>rfl
    | true =>
     have:=CX M _ _ _ (CY y) hw;rw[Ks t]at this;cases this
   obtain⟨V,a2,a3⟩:=I j g N d J hnw;obtain⟨B,q1,q2⟩:=Kq V a2 a3 z hyj;refine⟨u,B,q1,?_⟩;refine ih (listed.setIfInBounds j true) (s.put g.dst u B) v U (yv M y) ?_ (ready_mono t (Ne.symm d)) q2 ?_
   ·intro k ok hk hki O hno
    refine I k ok hk hki ?_ hno;by_cases R:j=k
    ·subst R; exact J
    ·rw[getD_set_ne true R]at O; exact O
   ·rw [ahQ _ _ d]
    have:=Kr s q.dst g.dst v u H' U B (IU V).2.1;rw[←this];exact W
theorem Kt{s':St}(I:rH pf ops=true):∀(l:List Oper) (k:Nat) (listed:Array Bool) (s:St),l=ops.toList.drop k→pS ops listed→listed.size=ops.size →
  (∀ j,j<ops.size→(listed.getD j true=false↔k≤j))→jh P pf ops l s s'→rJ P pf ops s' l.length listed s
 | [],k,listed,s,t,_,z,hk,h=>by
  simp only[jh]at h;refine⟨?_,h.symm⟩;apply ahR.2;intro j d;obtain⟨h0,o,ho,_⟩:=mem_ready.1 d;have q:j<ops.size:=(iF.1 ho).1;have:=(hk j q).1 h0;have hlen:(ops.toList.drop k).length=0:=by rw[←t]; rfl
  simp at hlen;omega
 | o::l,k,listed,s,t,B,z,hk,h=>by
  obtain⟨v,H',U,N⟩:=h;have h0:ops[k]? = some o:=by
   have:(ops.toList.drop k)[0]? = some o:=by rw[←t]; rfl
   simpa using this
  have q:k<ops.size:=(iF.1 h0).1;simp only[rH,ar,bO,gF]at I;obtain⟨_,u⟩:=I;have M:∀ j,j<k→listed.getD j false=true:=by
   intro j d;have J:¬ (listed.getD j true=false):=fun e=>by have:=(hk j (by omega)).1 e; omega
   have:j<listed.size:=by omega
   simp[this]at J⊢;exact J
  have y:k∈kU .any ops listed:=by
   refine mem_ready.2 ⟨(hk k q).2 (aH _),o,h0,fun e he hb=>?_⟩;have:=u k q;rw[h0]at this;simp only[ar,bO]at this;have h1:=this.1 e (by simpa using he);simp only[hb,BT,fp,decide_eq_true_eq]at h1;exact M e.on h1
  refine UE h0 l.length listed s v H' B ?_ y U ?_
  ·intro j oj d V O R
   have g:j<ops.size:=(iF.1 d).1;have W:k≤j:=(hk j g).1 O;have:=u j g;rw[d]at this;simp only[ar,bO,gF]at this;have h1:=this.2 k (by omega);rw[h0]at h1;simp only[R,fp,ar]at h1;exact⟨h1.1.1,h1.1.2,h1.2⟩
  ·refine Kt (by simp only [rH, ar, bO, gF]; exact ⟨‹_›, u⟩) l (k + 1) _ _ ?_ (yv B y) (by simpa using z) ?_ N
   ·rw[←ph,←t]; rfl
   ·intro j g
    by_cases e:k=j
    ·subst e
     have:k<listed.size:=by omega
     simp[this]
    ·rw [getD_set_ne true e, hk j g]
     omega
theorem UF{id:Nat}{s s':St}{E:Env}{a:Act}{Q:Exit→Act→World→Prop}(hm:P.follows .mixedOrders=true)(t:rH pf ops=true)(d:cV s E a)
  (h:jh P pf ops ops.toList s s') (u:∀ g w',eW E s' g w'→Q .normal g w'):∀ ro:Option Nat,(Code.region id ops true).wpIn (fz ro) 0 P Q a E.w:=by
 intro ro;have q:cV s { E with w:={ E.w with drawn:=E.w.drawn+1 } } a:=⟨d.H,dN (Env.gl (Ext.drawn E.w _)) _ d.fr,B9 d.heap (Env.gl (Ext.drawn E.w _)) d.defers,d.heap.ext (Ext.drawn E.w _)⟩
 refine wpIn_region_any hm (yt (pf:=pf) _ _ s { E with w:={ E.w with drawn:=E.w.drawn+1 } } a q ?_ (fun g w' v=>u g w' (eW.after (Env.gl (Ext.drawn E.w _)) v)) ro);have:=Kt (P:=P) (s':=s') t ops.toList 0 (pz ops.size false) s (by simp) (by
  intro j k;exfalso;rcases h_ j ops.size with h'|h'
  ·simp[h']at k
  ·simp[xC (xs:=pz ops.size false) (by simpa using h')]at k) (by simp) (by intro j k; simp[k]) h
 simpa using this
theorem UG{id:Nat}{s s':St}{E:Env}{a:Act}{Q:Exit→Act→World→Prop}(g:cV s E a)
  (h:jh P pf ops ops.toList s s') (k:∀ d w',eW E s' d w'→Q .normal d w'):∀ ro:Option Nat,(Code.region id ops false).wpIn (fz ro) 0 P Q a E.w:=by
 intro ro;refine wpIn_region ?_;have:=CV (Q:=Q) ops.toList 0 s s' E a (by simp) h g k ro;rw[List.range_eq_range'];simpa using this
end Go.AL

namespace Go.AL
open Go
variable [Dr]
inductive bW where
 |normal
 |exit (id:Nat)
 |ret
 deriving DecidableEq
def bW.toExit:bW→Exit
 |.normal=>.normal
 |.exit id=>.exit id
 |.ret=>.ret
structure Env.eX (m:Nat) (E E':Env):Prop where
 past:∀ id,id<m→E.past id 0→E'.past id 0
 size:E.w.heap.size≤E'.w.heap.size
 same:∀ b,b<E.w.heap.size→¬ E.own b→E'.w.heap[b]? = E.w.heap[b]?
 own:∀ b,b<E.w.heap.size→¬ E.own b→¬ E'.own b
 live:∀ id,id<m→E.past id 0→E'.live id 0→E.live id 0∧E'.loc[id]? = E.loc[id]?
 X:∀ b,b<E.w.heap.size→(E'.X b↔E.X b)∧(E'.X.z b↔E.X.z b)
 rl:∀ l h,h<(E.X.r l).length→h<(E'.X.r l).length∧∀ q,(E'.X.r l)[h]? = some (some q)→(E.X.r l)[h]? = some (some q)
 env:dC E.w E'.w
 grow:∀ id,id<m→∀ l o,E.H[id]? = some o→o.db=some l→E'.live id 0→(∃ t,E'.X.r l=E.X.r l++t)∧∃ o',E'.H[id]? = some o'∧o'.db=some l
theorem Env.le.toM{m:Nat}{E E':Env}(h:E.le E'):E.eX m E':=⟨fun id _ d=>h.past id 0 d,h.size,h.same,h.own,fun id _ d g=>h.live id 0 d g,fun b _=>by rw[show E'.X.x=E.X.x from h.X.1,show E'.X.z=E.X.z from h.X.2]; exact⟨Iff.rfl,Iff.rfl⟩,h.rl,h.env,fun id _ l o h1 k q=>h.grow id l o h1 k q⟩
def Ku(H:List ab):Prop:=∀ o∈H,o.aF = some 0
theorem Env.eX.full{m:Nat}{E E':Env}(h:E.eX m E')(hX:E'.X.x=E.X.x∧E'.X.z=E.X.z)(hm:E.H.length≤m)(k:Ku E.H):E.le E':=by
 have key:∀ id ad,E.past id ad→id<m∧ad=0:=by
  rintro id ad ⟨o,ho,q⟩;have h1:=aL ho;have g:=q.2 0 (k o (List.mem_of_getElem? ho));exact⟨by omega,by omega⟩
 refine⟨fun id ad d=>?_,h.size,h.same,h.own,fun id ad d t=>?_,hX,h.rl,h.env,fun id l o h1 g u=>h.grow id (dy (aL h1) hm) l o h1 g u⟩
 ·obtain ⟨h1, rfl⟩ := key id ad d
  exact h.past id h1 d
 ·obtain ⟨h1, rfl⟩ := key id ad d
  exact h.live id h1 d t
theorem Env.eX.trans{m:Nat}{E E' z:Env}(h:E.eX m E')(h':E'.eX m z):E.eX m z where
 past:=fun id hi g=>h'.past id hi (h.past id hi g)
 size:=Nat.le_trans h.size h'.size
 same:=fun b hb ho=>by rw[h'.same b (dy hb h.size) (h.own b hb ho),h.same b hb ho]
 own:=fun b hb ho=>h'.own b (dy hb h.size) (h.own b hb ho)
 live:=fun id hi hid M=>by
  obtain⟨k,a2⟩:=h'.live id hi (h.past id hi hid) M;obtain⟨b1,u⟩:=h.live id hi hid k;exact⟨b1,by rw[a2,u]⟩
 X:=fun b hb=>by
  have h1:=h'.X b (dy hb h.size);have d:=h.X b hb;exact⟨h1.1.trans d.1,h1.2.trans d.2⟩
 rl:=fun l i hi=>by
  obtain⟨k,a2⟩:=h.rl l i hi;obtain⟨b1,u⟩:=h'.rl l i k;exact⟨b1,fun q N=>a2 q (u q N)⟩
 env:=h.env.trans h'.env
 grow:=fun id hi l o h1 d y=>by
  have g:E.past id 0:=⟨o,h1,ab.BZ d,fun v y=>Nat.zero_le _⟩
  obtain⟨B,_⟩:=h'.live id hi (h.past id hi g) y;obtain⟨⟨t,O⟩,o',g1,g2⟩:=h.grow id hi l o h1 d B;obtain⟨⟨t',I⟩,J,g3,g4⟩:=h'.grow id hi l o' g1 g2 y;exact⟨⟨t++t',by rw[I,O,List.append_assoc]⟩,J,g3,g4⟩
def eF(m:Nat)(E:Env)(s':St)(g:Act)(w':World):Prop :=
 ∃ d X',cV s' { w:=w',H:=s'.H,loc:=d,X:=X' } g∧E.eX m { w:=w',H:=s'.H,loc:=d,X:=X' }
theorem eW.toM{m:Nat}{E:Env}{s':St}{a:Act}{w:World}(h:eW E s' a w):eF m E s' a w:=let ⟨loc,r,h1,d⟩:=h; ⟨loc,E.X.re r,h1,d.toM⟩
theorem eF.after{m:Nat}{E E':Env}{s':St}{d:Act}{w':World}(h:E.eX m E')(h':eF m E' s' d w'):eF m E s' d w':=by
 obtain⟨g,X',h1,k⟩:=h';exact⟨g,X',h1,h.trans k⟩
theorem eF.refl{m:Nat}{s:St}{E:Env}{a:Act}(h:cV s E a):eF m E s a E.w:=(eW.refl h).toM
def g_:Code→Bool
 |.seq a b=>g_ a&&g_ b
 |.cond _ a b=>g_ a&&g_ b
 |.block _ c=>g_ c
 |.loop c=>g_ c
 |.scope c=>g_ c
 |.rangeFunc ..=>false
 |_=>true
def fu(ro:Option Nat)(c:Code):Prop:=ro=none∨g_ c=true
theorem fu.seq1{ro:Option Nat}{a b:Code}(h:fu ro (.seq a b)):fu ro a:=h.imp id fun h=>by
 have h:(g_ a&&g_ b)=true:=h;exact(ar _ _▸h).1
theorem fu.Kv{ro:Option Nat}{a b:Code}(h:fu ro (.seq a b)):fu ro b:=h.imp id fun h=>by
 have h:(g_ a&&g_ b)=true:=h;exact(ar _ _▸h).2
theorem fu.cond{ro:Option Nat}{o:Operand}{a b:Code}(t:Bool)(h:fu ro (.cond o a b)):fu ro (if t then a else b):=h.imp id fun h=>by
 have h:(g_ a&&g_ b)=true:=h;cases t
 ·exact(ar _ _▸h).2
 ·exact(ar _ _▸h).1
theorem fu.block{ro:Option Nat}{i:Nat}{a:Code}(h:fu ro (.block i a)):fu ro a:=h
theorem fu.loop{ro:Option Nat}{a:Code}(h:fu ro (.loop a)):fu ro a:=h
theorem UH(c:Code):fu none c:=.inl rfl
def dA(P:Program)(m:Nat)(c:Code)(s:St)(x:bW)(s':St):Prop :=
 ∀(ro:Option Nat),fu ro c→∀(E:Env) (a:Act),cV s E a→c.wpIn (fz ro) 0 P (fun e d g=>e=x.toExit∧eF m E s' d g) a E.w
def bq(m:Nat)(s s':St):Prop:=∀(E:Env) (a:Act),cV s E a→eF m E s' a E.w
theorem bq.refl{m:Nat}(s:St):bq m s s:=fun _ _ h=>eF.refl h
theorem bq.trans{m:Nat}{s s1 s2:St}(h:bq m s s1)(h':bq m s1 s2):bq m s s2:=fun E a d=>by
 obtain⟨loc,X,h1,g⟩:=h E a d;exact eF.after g (h' _ a h1)
theorem eF.weaken{m:Nat}{E:Env}{s s':St}{a:Act}{w:World}(h:eF m E s a w)(hle:bq m s s'):eF m E s' a w:=by
 obtain⟨loc,X,h1,d⟩:=h;exact eF.after d (hle _ a h1)
section rules
variable {P:Program} {m:Nat} {s s' s1:St} {x:bW}
theorem rK{c:Code}(hle:bq m s s1)(h:dA P m c s1 x s'):dA P m c s x s':=fun ro ho E a d=>by
 obtain⟨loc,X,h1,g⟩:=hle E a d;exact wpIn_mono (h ro ho { w:=E.w,H:=s1.H,loc:=loc,X:=X } a h1) fun e t u ⟨k,q⟩=>⟨k,eF.after g q⟩
theorem rL{c:Code}(h:dA P m c s x s1)(hle:bq m s1 s'):dA P m c s x s':=fun ro ho E a d =>
 wpIn_mono (h ro ho E a d) fun _ _ _ ⟨g,k⟩=>⟨g,k.weaken hle⟩
theorem UI:dA P m .skip s .normal s:=fun _ _ _ _ d=>wpIn_skip ⟨rfl,eF.refl d⟩
theorem UJ:dA P m .ret s .ret s:=fun _ _ _ _ d=>wpIn_ret ⟨rfl,eF.refl d⟩
theorem UK{id:Nat}:dA P m (.exit id) s (.exit id) s:=fun _ _ _ _ d=>wpIn_exit ⟨rfl,eF.refl d⟩
theorem UL{pf:FuncId→Bool}{id:Nat}{ops:Array Oper}{draw:Bool}(hm:P.follows .mixedOrders=true)(k:draw=true→rH pf ops=true)(h:jh P pf ops ops.toList s s') :
  dA P m (.region id ops draw) s .normal s':=fun ro ho E a g=>by
 cases draw with
 |false=>exact UG g h (fun q w' d=>⟨rfl,d.toM⟩) ro
 |true=>exact UF hm (k rfl) g h (fun q w' d=>⟨rfl,d.toM⟩) ro
theorem Kw{c d:Code}(h:dA P m c s .normal s1)(h':dA P m d s1 x s'):dA P m (.seq c d) s x s':=fun ro ho E a g =>
 wpIn_seq (wpIn_mono (h ro ho.seq1 E a g) fun e k B ⟨q,t⟩=>by
  subst q;obtain⟨loc,X,u,v⟩:=t;exact wpIn_mono (h' ro ho.Kv _ k u) fun _ _ _ ⟨y,z⟩=>⟨y,eF.after v z⟩)
theorem Kx{c d:Code}(h:dA P m c s x s')(k:x≠.normal):dA P m (.seq c d) s x s':=fun ro ho E a q =>
 wpIn_seq (wpIn_mono (h ro ho.seq1 E a q) fun e u v ⟨t,g⟩=>by
  subst t;cases x with
  |normal=>exact(k rfl).elim
  |exit id=>exact⟨rfl,g⟩
  |ret=>exact⟨rfl,g⟩)
theorem Ky{o:Operand}{c d:Code}{b:Bool}(hb:s.eval o=.lit (.bool b))(h:dA P m (if b then c else d) s x s'):dA P m (.cond o c d) s x s':=fun ro ho E a g=>by
 have:=g.eval o;rw[hb]at this;simp only[rel]at this;exact wpIn_cond this (h ro (ho.cond b) E a g)
def bW.inBlock(id:Nat):bW→bW
 |.exit i=>if i=id then .normal else .exit i
 |x=>x
theorem UM{id:Nat}{c:Code}(h:dA P m c s x s'):dA P m (.block id c) s (x.inBlock id) s':=fun ro ho E a g =>
 wpIn_block (wpIn_mono (h ro ho E a g) fun e q t ⟨k,d⟩=>by
  subst k;cases x with
  |normal=>exact⟨rfl,d⟩
  | exit i =>
   simp only[bW.toExit,Exit.inBlock,bW.inBlock];split
   ·exact⟨rfl,d⟩
   ·exact⟨rfl,d⟩
  |ret=>exact⟨rfl,d⟩)
def CZ(P:Program)(m:Nat)(c:Code):Nat→St→bW→St→Prop
 |0,s,x,s'=>x≠.normal∧dA P m c s x s'
 |n+1,s,x,s'=>∃ s1,dA P m c s .normal s1∧CZ P m c n s1 x s'
def kf(P:Program)(m:Nat)(c:Code)(s:St)(x:bW)(s':St):Prop:=∃ n,CZ P m c n s x s'
theorem kf.stop{c:Code}(h:dA P m c s x s')(d:x≠.normal):kf P m c s x s':=⟨0,d,h⟩
theorem kf.next{c:Code}(h:dA P m c s .normal s1)(h':kf P m c s1 x s'):kf P m c s x s':=let ⟨n,d⟩:=h'; ⟨n+1,s1,h,d⟩
theorem kf.pre{c:Code}(hle:bq m s s1)(h:kf P m c s1 x s'):kf P m c s x s':=by
 obtain⟨n,d⟩:=h;cases n with
 |zero=>exact⟨0,d.1,rK hle d.2⟩
 | succ n =>
  obtain⟨s2,h1,g⟩:=d;exact⟨n+1,s2,rK hle h1,g⟩
theorem Kz{c:Code}(h:kf P m c s x s'):dA P m (.loop c) s x s':=fun ro ho E a R b k cs J hb q=>by
 obtain⟨n,U⟩:=h;have key:∀(n:Nat) (s1:St) (d:Env) (a:Act),cV s1 d a→E.eX m d→CZ P m c n s1 x s' →
   ∃ e t w',(e=x.toExit∧eF m E s' t w')∧ArrivesIn (Machine.fenced P (fz ro)) P (lone (b.atR a (.code c::.inLoop c::k)) cs d.w) b k cs e t w':=by
  intro n
  induction n with
  | zero =>
   intro s1 d a z hle v;obtain⟨hx,y⟩:=v;obtain⟨e,B,M,⟨u,V⟩,g⟩:=y ro ho.loop d a z b (.inLoop c::k) cs J hb q;refine⟨e,B,M,⟨u,eF.after hle V⟩,?_⟩;subst u;exact .pass (x:=.inLoop c) rfl (fun _ _=>.inl (by cases x<;>simp_all[bW.toExit])) g
  | succ n W =>
   intro s1 d a z hle v;obtain⟨s2,y,N⟩:=v;obtain⟨e,B,M,⟨u,loc,X,h5,h6⟩,g⟩:=y ro ho.loop d a z b (.inLoop c::k) cs J hb q;subst u;obtain⟨e2,a2,w2,I,O⟩:=W s2 _ B h5 (hle.trans h6) N;exact⟨e2,a2,w2,I,.of_steps (StepsIn.trans g (.one (fenced_calm hb q rfl) stepR_inLoop)) O⟩
 obtain⟨e,t,w',I,g⟩:=key n s E a R (Env.le.refl E).toM U;exact⟨e,t,w',I,.of_steps (.one (fenced_calm hb q rfl) stepR_loop) g⟩
end rules
def yw(P:Program)(s:St):ResultVar→Option AV
 |.tmp t=>some (s.fr.getD t .undef)
 |.cell a t=>j9 P t (s.fr.getD a .undef) s.H
def rM(P:Program)(s:St):List ResultVar→Option (List AV)
 | []=>some []
 | r::rs=>match yw P s r,rM P s rs with
  |some v,some vs=>some (v::vs)
  |_,_=>none
def df:List AV→AV
 | [v]=>v
 |vs=>.tuple vs
def C0(tmps:Array Value):ResultVar→Sem Value
 |.tmp t=>pure (tmps.getD t undef)
 |.cell a t=>do loadVar t (← asAddr (tmps.getD a undef))
theorem UN{P:Program}{s:St}{E:Env}{a:Act}(g:cV s E a){r:ResultVar}{v:AV}(h:yw P s r=some v) :
  ∃ u,(C0 a.tmps r).run P E.w=.ok u E.w∧rel E v u:=by
 cases r with
 | tmp t =>
  simp only[yw,aX]at h;subst h;exact⟨_,rfl,g.eval (.tmp t)⟩
 | cell x t =>
  simp only[yw]at h;rw[←g.H]at h;have d:=g.eval (.tmp x);simp only[St.eval,Act.eval]at d;obtain⟨u,g1,g2⟩:=Jj g.heap h d;refine⟨u,?_,g2⟩;have q:∃ b o,a.tmps.getD x undef=.pointer (some ⟨b,o,none⟩):=by
   unfold j9 at h;split at h
   case h_2=>cases h
   split at h
   ·rename_i k
    rw[k]at d;simp only[rel]at d;obtain⟨_,b,o,e,_⟩:=d;exact⟨b,o,e⟩
   ·rename_i k
    rw[k]at d;simp only[rel]at d;obtain⟨⟨b,o,e⟩,_⟩:=d;exact⟨b,o,e⟩
   ·cases h
  obtain⟨b,o,e⟩:=q;show (do loadVar t (← asAddr (a.tmps.getD x undef)):Sem Value).run P E.w=.ok u E.w
  rw[e]at g1⊢;simpa[Instr.loadAt,Instr.sureAddr,asAddr]using g1
theorem KA{P:Program}{s:St}{E:Env}{a:Act}(d:cV s E a):∀(rs:List ResultVar) (vs:List AV),rM P s rs=some vs →
  ∃ us:List Value,(rs.mapM (C0 a.tmps)).run P E.w=.ok us E.w∧ae E vs us
 | [],vs,h=>by simp[rM]at h; subst h; exact⟨[],rfl,by simp[ae]⟩
 | r::rs,vs,h=>by
  simp only[rM]at h;split at h
  case h_2=>cases h
  rename_i v g h1 k;cases h;obtain⟨u,g1,g2⟩:=UN d h1;obtain⟨us,g3,g4⟩:=KA d rs g k;refine⟨u::us,?_,by simp only[ae]; exact⟨g2,g4⟩⟩;simp only[List.mapM_cons,bT];rw[g1];simp only[bP];rw[g3];rfl
theorem UO(fn:Func)(tmps:Array Value):results fn tmps=(do let vs ← fn.results.mapM (C0 tmps); pure (if h:vs.size=1 then vs[0] else .tuple vs)):=by
 unfold results;congr 1
def yx(args:List AV)(n:Nat):List AV:=args++bU (n-args.length) .undef
theorem KB{E:Env}:∀(vs:List Value),ae E (bU vs.length .undef) vs
 | []=>by simp[ae]
 |_::vs=>by simp only[cw,List.replicate_succ,ae,rel]; exact⟨trivial,KB vs⟩
structure kg (E E':Env):Prop where
 H:E'.H=E.H
 loc:E'.loc=E.loc
 size:E.w.heap.size≤E'.w.heap.size
 same:∀ b,b<E.w.heap.size→¬ E.X b→¬ E'.X b∧E'.w.heap[b]? = E.w.heap[b]?
 X:∀ b,E'.X b→b<E'.w.heap.size
 r:E'.X.r=E.X.r
theorem kg.own{E E':Env}(h:kg E E')(b:Nat):E'.own b↔E.own b:=by unfold Env.own Env.sat; rw[h.loc,h.r]
theorem kg.toC{E E':Env}(h:kg E E'):E.bD E' :=
 ⟨fun b hb=>⟨⟨dy hb.1 h.size,fun ho=>hb.2.1 ((h.own b).1 ho),(h.same b hb.1 hb.2.2).1⟩,(h.same b hb.1 hb.2.2).2⟩⟩
mutual
theorem KC{E E':Env}(h:kg E E'):∀(a:AV) {c:Value},rel E a c→rel E' a c
 |.undef,_,_=>by simp[rel]
 |.lit v,c,d=>by simpa only[rel]using d
 |.nils,c,d=>by simpa only[rel]using d
 |.list k rows,c,d=>fg h.toC _ (by simp[AV.closed]) d
 |.listF ks rows,c,d=>fg h.toC _ (by simp[AV.closed]) d
 | .agg cells,c,d=>by
  simp only[rel]at d⊢;obtain⟨cs,e,h1,g⟩:=d;exact⟨cs,e,h1,rN h cells g⟩
 | .tuple cells,c,d=>by
  simp only[rel]at d⊢;obtain⟨cs,e,g⟩:=d;exact⟨cs,e,rN h cells g⟩
 |.cptr cells,c,d=>fg h.toC _ (by simp[AV.closed]) d
 | .ptr id ad k row col,c,d=>by
  simp only[rel,Env.past,Env.live,h.H,h.loc]at d⊢;exact d
 | .vec k id ad off n,c,d=>by
  simp only[rel,Env.past,Env.live,h.H,h.loc]at d⊢;exact d
 | .map id,c,d=>by
  simp only[rel,Env.past,Env.live,h.H,h.loc]at d⊢;exact d
 | .clo f caps,c,d=>by
  simp only[rel]at d⊢;obtain⟨cs,e,g⟩:=d;exact⟨cs,e,rN h caps g⟩
 |.ifc,c,d=>by simpa only[rel]using d
 |.emptyS n,c,d=>by simpa only[rel]using d
 | .sub id l j,c,d=>by
  simp only[rel,Env.past,Env.live,Env.I',h.H,h.r]at d⊢;exact d
theorem rN{E E':Env}(h:kg E E'):∀(as:List AV) {vs:List Value},ae E as vs→ae E' as vs
 | [],[],_=>by simp[ae]
 | [],_::_,d=>by simp[ae]at d
 |_::_,[],d=>by simp[ae]at d
 | a::as,v::vs,d=>by
  simp only[ae]at d⊢;exact⟨KC h a d.1,rN h as d.2⟩
end
theorem aq.gI{E E':Env}(H:aq E)(h:kg E E'):aq E' where
 fh:=H.fh.bD h.toC
 len:=by rw[h.loc,h.H]; exact H.len
 inj:=by rw[h.loc]; exact H.inj
 lt:=fun i b m hi=>by
  rw[h.loc]at hi;have:=H.lt i b m hi;exact⟨dy this.1 h.size,(h.same b this.1 this.2).1⟩
 X:=h.X
 obj:=fun i o hi=>by
  rw[h.H]at hi;exact j6 (fun a _ d=>KC h a d) (by rw[h.loc]) (fun b n hb=>(h.same b (H.lt i b n hb).1 (H.lt i b n hb).2).2) (fun l _=>⟨by rw[h.r],fun k g m hk=>(h.same g (H.cn l k g m hk).1 (H.cn l k g m hk).2).2⟩) (H.obj i o hi)
 eS:=by rw[h.r]; exact H.eS
 cN:=by rw[h.r,h.loc]; exact H.cN
 cn:=fun l k b m hk=>by
  rw[h.r]at hk;have:=H.cn l k b m hk;exact⟨dy this.1 h.size,(h.same b this.1 this.2).1⟩
 uniq:=by rw[h.H]; exact H.uniq
 gk:=by rw[h.H,h.r]; exact H.gk
theorem cV.gI{s:St}{E E':Env}{a:Act}(d:cV s E a)(h:kg E E'){l:List Deferred}(hm:lI E'.w E'.X l):cV s E' { a with defers:=l } :=
 ⟨by rw[h.H]; exact d.H,rN h _ d.fr,hm,d.heap.gI h⟩
theorem KD{P:Program}{fn:Func}{tmps:Array Value}{R:Ending→World→Prop}:∀(l:List Deferred) (w:World) (X:XS),lI w X l →
  (∀ w',w'.heap.size=w.heap.size→(∀ b,w'.heap[b]? ≠ w.heap[b]? → X b∧X.z b)→dC w w'→∃ v,(results fn tmps).run P w'=.ok v w'∧R (.returned v) w')→LeavesInM (fz none) 0 P fn tmps R l .returning w
 | [],w,X,_,h=>h w rfl (fun b hb=>(hb rfl).elim) (dC.refl w)
 | d::l,w,X,hm,h=>by
  obtain⟨D,e,h1,u,y⟩:=hm.2 d cH;subst e;have M:D<w.heap.size:=(iF.1 h1).1;have g:∀ b,b≠D→(w.putObj D (.deferred none)).heap[b]? = w.heap[b]? := fun b hb=>World.putObj_heap_other hb;have t:(w.putObj D (.deferred none)).heap.size=w.heap.size:=by simp[World.putObj]
  refine⟨by simp,.inl ⟨D,_,rfl,run_takeDeferred h1,KD l _ X ⟨(nL.1 hm.1).2,fun d' k=>?_⟩ fun w' g1 g2 g3=>h w' (by rw[g1,t]) (fun b hb=>?_) (dC.trans ⟨rfl,rfl,rfl,by first|exact fun _=>aH _|exact fun _=>Nat.le_add_right _ _⟩ g3)⟩⟩
  ·obtain ⟨q, e', B, I, J⟩ := hm.2 d' (List.mem_cons_of_mem _ k)
   refine⟨q,e',?_,I,J⟩;rw[g q (fun e=>(nL.1 hm.1).1 (by rw[←e,←e']; exact k))];exact B
  ·by_cases e : b = D
   ·subst e
    exact⟨u,y⟩
   ·refine g2 b ?_
    rw[g b e];exact hb
theorem UP{P:Program}{f:FuncId}{fn:Func}{c:Code}{args:Array Value}{w:World}{R:Ending→World→Prop}(k:P.funcs[f]? = some fn)(hb:fn.body=some c)
  (h : c.wpIn (fz none) 0 P (fun e g d => (e = .normal ∨ e = .ret) ∧ ∃ X, lI d X g.defers ∧ ∀ w', w'.heap.size = d.heap.size → (∀ b, w'.heap[b]? ≠ d.heap[b]? → X b ∧ X.z b) → dC d w' → ∃ v, (results fn g.tmps).run P w' = .ok v w' ∧ R (.returned v) w')
   { tmps:=args++pz (fn.ntmps-args.size) undef,defers:=[] } w):Calls P f args w R:=by
 refine(callsIn_wide (n:=0)).1 (callsIn_of_wp_marks (F:=fz none) k hb trivial (wpIn_mono h fun e g d q=>?_));obtain⟨he,X,h1,t⟩:=q;have:=KD (P:=P) (fn:=fn) (tmps:=g.tmps) (R:=R) g.defers d X h1 t;rcases he with rfl|rfl
 ·exact this
 ·exact this
theorem UQ{m:Nat}{E:Env}{s':St}{g:List (Option (Nat × Nat))}{X':XS}{k:Act}{d w':World}(HE:aq E)(v:cV s' { w:=d,H:=s'.H,loc:=g,X:=X' } k)
  (hle:({ E with X:=⟨E.X.x,fun _=>False,E.X.r⟩ }:Env).eX m { w:=d,H:=s'.H,loc:=g,X:=X' }) (h1:w'.heap.size=d.heap.size) (q:∀ b,w'.heap[b]? ≠ d.heap[b]? → X' b∧X'.z b) (y:dC d w') :
  cV s' { w:=w',H:=s'.H,loc:=g,X:=E.X.re X'.r } { k with defers:=[] }∧E.eX m { w:=w',H:=s'.H,loc:=g,X:=E.X.re X'.r }:=by
 have u:∀ b,b<E.w.heap.size→w'.heap[b]? = d.heap[b]? := fun b hb=>ahS fun h=>((hle.X b hb).2.1 (q b h).2).elim;have B:E.w.heap.size≤d.heap.size:=hle.size;have gI:kg { w:=d,H:=s'.H,loc:=g,X:=X' } { w:=w',H:=s'.H,loc:=g,X:=E.X.re X'.r } :=
  ⟨rfl, rfl, by show d.heap.size ≤ w'.heap.size; omega, fun b hb t => ⟨fun he => t ((hle.X b (HE.X b he)).1.2 he), ahS fun h => t (q b h).1⟩, fun b hb => by
   have:=HE.X b hb;show b<w'.heap.size
   omega,rfl⟩
 refine⟨v.gI gI (Je _ _),⟨hle.past,by show E.w.heap.size≤w'.heap.size; omega,fun b hb ho=>?_,hle.own,hle.live,fun b _=>⟨Iff.rfl,Iff.rfl⟩,hle.rl,hle.env.trans y,hle.grow⟩⟩;show w'.heap[b]? = E.w.heap[b]?
 rw[u b hb];exact hle.same b hb ho
theorem UR{E:Env}(HE:aq E):kg E { E with X:=⟨E.X.x,fun _=>False,E.X.r⟩ }:=⟨rfl,rfl,aH _,fun b _ d=>⟨d,rfl⟩,HE.X,rfl⟩
theorem US{P:Program}{f:FuncId}{args:List AV}{v:AV}{H1:List ab}(h:cq P f args [] v H1)(ha:AV.bu args=true)(I:v.closed=true):mR P f args v:=by
 intro H E cargs hH HE y
 let E0:Env:={ w:=E.w,H:=[],loc:=[],X:=(E.X.or E.own).re eD }
 have g:∀ b,¬ E0.own b:=by rintro b (⟨id,c,hid⟩|⟨l,k,c,hk⟩); simp[E0]at hid; simp[E0,eD]at hk
 have hC:E.bD E0:=⟨fun b hb=>⟨⟨hb.1,g b,fun d=>d.elim hb.2.2 hb.2.1⟩,rfl⟩⟩
 have B:aq E0:=by
  refine⟨rfl,?_,?_,?_,?_,HE.fh.bD hC,fun l k l' k' b m n hk=>by simp[E0,eD]at hk,fun i b m l k n hi=>by simp[E0]at hi,fun l k b m hk=>by simp[E0,eD]at hk,fun i j o o' l hi=>by simp[E0]at hi,fun l _ k q hk=>by simp[E0,eD]at hk⟩
  ·intro i j b m n hi; simp[E0]at hi
  ·intro i b m hi; simp[E0]at hi
  ·rintro b (d | ho)
   ·exact HE.X b d
   ·exact(HE.xW ho).1
  ·intro i o hi; simp[E0]at hi
 refine(h E0 cargs rfl B (pE hC args ha y)).mono ?_;rintro _ w' ⟨c,u,H',rfl,⟨rfl,rfl⟩,z,r',g1,g2,g3⟩;have t:Ext E.w w':=⟨g3.size,fun b hb=>g3.same b hb (g b),g3.env⟩
 refine⟨c,u,H,rfl,⟨rfl,rfl⟩,E.loc,E.X.r,?_,?_,?_⟩
 ·rw [← hH]
  exact fg (E:={ w:=w',H:=H',loc:=z,X:=E0.X.re r' }) (E':={ w:=w',H:=E.H,loc:=E.loc,X:=E.X })
   ⟨fun b hb=>⟨⟨hb.1,fun ho=>hb.2.2 (Or.inr ho),fun d=>hb.2.2 (Or.inl d)⟩,rfl⟩⟩ u I g1
 ·rw[←hH]; exact HE.ext t
 ·rw[←hH]; exact Env.gl t
end Go.AL

namespace Go.AL
open Go
variable [Dr]
variable {P:Program} {pf:FuncId→Bool} {ops:Array Oper}
def lb(r:Operand→AV):Op→Option Nat
 | .load _ a=>match r a with
  |.ptr id _ _ _ _=>some id
  |_=>none
 | .lookup _ m _ _=>match r m with
  |.map id=>some id
  |.sub id _ _=>some id
  |_=>none
 | .call c=>match c.args.toList with
  | [a]=>match r a with
   |.map id=>some id
   |_=>none
  |_=>none
 |_=>none
theorem KE{r:Operand→AV}{H H2:List ab}:∀{op:Op},(∀ id,lb r op=some id→H2[id]? = H[id]?)→eV P r H2 op=eV P r H op:=by
 intro op h;cases op<;>simp only[eV]
 case load t a =>
  simp only[lb]at h;unfold j9;cases ha:r a with
  | ptr id ad w row col =>
   rw[ha]at h;have:=h id rfl;simp only[this]
  |_=>rfl
 case lookup t m k ok =>
  simp only[lb]at h;have d:jH P t (r m) (r k) ok H2=jH P t (r m) (r k) ok H:=Ug (fun id e=>by rw[e]at h; exact h id rfl) (fun id l j e=>by rw[e]at h; exact h id rfl);rw[d];have h1:fY P t (r m) (r k) ok H2=fY P t (r m) (r k) ok H:=by
   unfold fY;cases cZ P t with
   |none=>rfl
   | some p =>
    obtain⟨g,q⟩:=p;cases hm:r m with
    | map id =>
     rw[hm]at h;have:=h id rfl;simp only[this]
    |_=>rfl
  rw[h1]
 case call c =>
  simp only[lb]at h;unfold nW;split
  ·rename_i a t u ha v
   rw[ha]at h;simp only[]at h;cases cZ P t with
   |none=>rfl
   | some p =>
    cases hm:r a with
    | map id =>
     rw[hm]at h;have:=h id rfl;simp only[this]
    |_=>rfl
  ·rfl
theorem KF{r r':Operand→AV}(o:Op)(h:∀ x∈o.operands,r x=r' x):lb r o=lb r' o:=by
 cases o<;>simp only[lb]
 case load t a =>
  simp only[fe]at h;rw[h a (by simp)]
 case lookup t m k ok =>
  simp only[fe]at h;rw[h m (by simp)]
 case call c =>
  split
  ·rename_i a ha
   have:a∈(Op.call c).operands:=by
    show a∈c.operands
    have h1:a∈c.args:=by
     have:a∈c.args.toList:=by rw[ha]; simp
     simpa using this
    simp[tY,h1]
   rw[h a this]
  ·rfl
abbrev ix:=List (Nat × List Nat × Nat)
abbrev ji:=List (Nat × Nat)
def kept(W:ix)(j A:Nat):Prop:=∀ e∈W,e.1=j→A∉e.2.1∧A<e.2.2
def C1(ops:Array Oper):Bool :=
 (er ops.size).any fun j => (er j).any fun i => match ops[i]?, ops[j]? with
  |some x,some y=>d_ x.op&&d_ y.op && !waits ops ops.size j i
  |_,_=>false
def kh:Op→Bool
 | .call c=>match c.callee with
  |.value (.func _)=>true
  |_=>false
 |_=>false
def isVar:Op→Bool
 |.alloc _=>true
 |_=>false
theorem rO{op:Op}(h:isVar op=true):d_ op=true:=by
 unfold isVar at h;split at h
 ·rfl
 ·cases h
def nZ(ops:Array Oper):Bool :=
 (er ops.size).any fun j => (er j).any fun i => match ops[i]?, ops[j]? with
  |some x,some y=>kh x.op&&isVar y.op && !waits ops ops.size j i
  |_,_=>false
def iO:Op→Bool
 |.mapEntry ..=>true
 |.entryStore ..=>true
 |_=>false
def C2(ops:Array Oper):Bool :=
 (er ops.size).any fun j => (er j).any fun i => match ops[i]?, ops[j]? with
  |some x,some y=>d_ x.op&&iO y.op && !waits ops ops.size j i
  |_,_=>false
def mT(ops:Array Oper):Bool:=(C1 ops||nZ ops)||C2 ops
theorem KG{pf:FuncId→Bool}{op:Op}(h:iO op=true):cO pf op=.write:=by
 unfold iO at h;split at h
 ·rfl
 ·rfl
 ·cases h
theorem UT{op:Op}(h:iO op=true):d_ op=false:=by
 unfold iO at h;split at h
 ·rfl
 ·rfl
 ·cases h
theorem UU{op:Op}(h:iO op=true):kh op=false:=by
 unfold iO at h;split at h
 ·rfl
 ·rfl
 ·cases h
theorem mU{pf:FuncId→Bool}{op:Op}(h:d_ op=true):cO pf op=.write:=by
 unfold d_ at h;split at h
 ·rfl
 ·rfl
 ·cases h
theorem yy{pf:FuncId→Bool}{op:Op}{X:Prop}(h:cO pf op≠.write):d_ op=true→X:=fun ha=>(h (mU ha)).elim
theorem lQ{op:Op}(h:d_ op=true):kh op=false:=by
 unfold d_ at h;split at h
 ·rfl
 ·rfl
 ·cases h
def mV(σ:List (Nat × ab))(H:List ab):List ab:=σ.foldl (fun H p=>H.set p.1 p.2) H
def yz(W:ix)(j:Nat)(H:List ab)(σ:List (Nat × ab)):Prop:=∀ p∈σ,kept W j p.1∧∃ k r,H[p.1]? = some (.vec k 0 [])∧p.2=.vec k 1 r
def Step(P:Program)(pf:FuncId→Bool)(ops:Array Oper)(R:ji)(W:ix)(j:Nat)(o:Oper)(s:St)(v:AV)(H':List ab):Prop :=
 (cO pf o.op = .write → ∀ A, kept W j A → H'[A]? = s.H[A]?) ∧ (cO pf o.op = .read → bM ops s.fr o = some true → ∀ id, lb s.eval o.op = some id → (j, id) ∈ R) ∧
  (d_ o.op=true→mT ops=true→bM ops s.fr o=some true→H'.length=s.H.length∧∀ id,H'[id]? ≠ s.H[id]? → ∃ e∈W,e.1=j∧id∈e.2.1) ∧
  (kh o.op=true→nZ ops=true→cO pf o.op=.write→bM ops s.fr o=some true→∀ σ,yz W j s.H σ→Yields P pf ops o ⟨s.fr,mV σ s.H⟩ v (mV σ H'))
def KH(R:ji)(W:ix)(i j:Nat):Prop:=∀ id,(i,id)∈R→kept W j id
def C3(pf:FuncId→Bool)(ops:Array Oper)(R:ji)(W:ix)(i:Nat)(x:Oper)(j:Nat)(y:Oper):Prop :=
 mS pf x y=true∨(cO pf x.op=.read∧cO pf y.op=.write∧KH R W i j)∨(cO pf x.op=.write∧cO pf y.op=.read∧KH R W j i)∨(d_ x.op=true∧d_ y.op=true∧mT ops=true) ∨
  (cO pf x.op=.write∧kh x.op=true∧isVar y.op=true∧nZ ops=true∧∀ e∈W,e.1=j→∀ id∈e.2.1,kept W i id) ∨
  (d_ x.op=true∧iO y.op=true∧mT ops=true∧∀ e∈W,e.1=i→∀ id∈e.2.1,kept W j id)
theorem KJ{o:Oper}{s:St}{v:AV}{H':List ab}(ho:isVar o.op=true)(h:Yields P pf ops o s v H')(g:bM ops s.fr o=some true→H'.length=s.H.length) :
  (bM ops s.fr o = some false ∧ v = .tuple [] ∧ H' = s.H) ∨
   (bM ops s.fr o=some true∧∃ t id z k m,o.op=.alloc t∧dZ P t=some z∧s.H[id]? = some (.vec k 0 [])∧k=z.length∧v=.ptr id 1 k 0 0∧H'=s.H.set id (.vec k 1 [dO m z])):=by
 unfold Yields at h;cases hw:bM ops s.fr o with
 |none=>rw[hw]at h; exact h.elim
 | some b =>
  rw[hw]at h;cases b with
  |false=>exact .inl ⟨rfl,h.1,h.2⟩
  | true =>
   right;refine⟨rfl,?_⟩;simp only[mU (rO ho)]at h;have g:=g hw;rcases h with(h|⟨f,args,h1,_⟩)|(⟨t,id,m,d,u⟩|⟨t,id,d,u⟩)|q
   ·unfold isVar at ho
    split at ho
    ·rename_i t d
     rw[d]at h;simp only[cW,pJ]at h;split at h
     ·split at h
      ·cases h
       simp at g
      ·cases h
     ·split at h
      ·cases h
       simp at g
      ·cases h
    ·cases ho
   ·unfold isVar at ho
    split at ho
    ·rename_i t d
     rw[d]at h1;cases h1
    ·cases ho
   ·obtain ⟨z, k, h1, y, B, I, J⟩ := Ko u
    exact⟨t,id,z,k,m,d,h1,y,B,I,J⟩
   ·rw [d] at ho
    cases ho
   ·unfold isVar at ho
    split at ho
    ·rename_i t d
     rw[d]at q;exact q.elim
    ·cases ho
def jk(P:Program)(op:Op)(id:Nat)(y:ab)(v:AV)(x:ab):Prop :=
 (∃ t z k m,op=.alloc t∧dZ P t=some z∧k=z.length∧y=.vec k 0 []∧v=.ptr id 1 k 0 0∧x=.vec k 1 [dO m z])∨∃ t,op=.makeMap t none∧y=.dX∧v=.map id∧x=.map [] 0
theorem jk.ne{op g:Op}{id k:Nat}{y d x q:ab}{v t:AV}(h:jk P op id y v x)(h':jk P g k d t q):x≠d:=by
 rcases h with⟨_,_,_,_,_,_,_,_,_,rfl⟩|⟨_,_,_,_,rfl⟩<;>rcases h' with⟨_,_,_,_,_,_,_,rfl,_,_⟩|⟨_,_,rfl,_,_⟩<;>intro e<;>cases e
theorem C4{o:Oper}{s:St}{v:AV}{H':List ab}(ho:d_ o.op=true)(h:Yields P pf ops o s v H')(q:bM ops s.fr o=some true→H'.length=s.H.length) :
  (bM ops s.fr o = some false ∧ v = .tuple [] ∧ H' = s.H) ∨
   (bM ops s.fr o=some true∧∃ id y x,jk P o.op id y v x∧s.H[id]? = some y∧H'=s.H.set id x):=by
 cases g:isVar o.op with
 | true =>
  rcases KJ g h q with h|⟨h1,t,id,z,k,m,B,I,M,N,O,R⟩
  ·exact .inl h
  ·exact .inr ⟨h1,id,_,_,.inl ⟨t,z,k,m,B,I,N,rfl,O,rfl⟩,M,R⟩
 | false =>
  have hm:∃ t,o.op=.makeMap t none:=by
   unfold d_ at ho;split at ho
   ·rename_i t d
    rw[d]at g;cases g
   ·rename_i t d
    exact⟨t,d⟩
   ·cases ho
  obtain⟨t,d⟩:=hm;unfold Yields at h;cases hw:bM ops s.fr o with
  |none=>rw[hw]at h; exact h.elim
  | some b =>
   rw[hw]at h;cases b with
   |false=>exact .inl ⟨rfl,h.1,h.2⟩
   | true =>
    right;refine⟨rfl,?_⟩;simp only[mU ho]at h;have q:=q hw;rcases h with(h|⟨f,args,h1,_⟩)|(⟨t',id,m,u,g⟩|⟨t',id,u,g⟩)|J
    ·rw [d] at h
     simp only[cW]at h;cases h;simp at q
    ·rw [d] at h1
     cases h1
    ·rw [d] at u
     cases u
    ·obtain ⟨h1, B, I⟩ := CE g
     exact⟨id,_,_,.inr ⟨t,d,rfl,B,rfl⟩,h1,I⟩
    ·rw [d] at J
     exact J.elim
theorem KK{o:Oper}{s:St}{t:TypeId}{id k:Nat}{z:List Value}(hw:bM ops s.fr o=some true)(ho:o.op=.alloc t)(d:dZ P t=some z)(hid:s.H[id]? = some (.vec k 0 []))(hk:k=z.length) (m:List (Option (List Kd))) :
  Yields P pf ops o s (.ptr id 1 k 0 0) (s.H.set id (.vec k 1 [dO m z])):=by
 unfold Yields;rw[hw,ho];exact .inr (.inl (.inl ⟨t,id,m,rfl,Kp m d hid hk⟩))
theorem C5{o:Oper}{s:St}{id:Nat}{v:AV}{x y:ab}(hw:bM ops s.fr o=some true)(d:jk P o.op id y v x)(hid:s.H[id]? = some y):Yields P pf ops o s v (s.H.set id x):=by
 rcases d with⟨t,z,k,m,h1,g,h,rfl,rfl,rfl⟩|⟨t,h1,rfl,rfl,rfl⟩
 ·exact KK hw h1 g hid h m
 ·unfold Yields
  rw[hw,h1];exact .inr (.inl (.inr ⟨t,id,rfl,JU hid⟩))
def lf:ab→Bool
 |.aY ..=>false
 |.mm ..=>false
 |_=>true
theorem jk.no{op:Op}{id:Nat}{y x:ab}{v:AV}(h:jk P op id y v x):lf x=true∧lf y=true∧x≠.dead:=by
 rcases h with⟨_,_,_,_,_,_,_,rfl,_,rfl⟩|⟨_,_,rfl,_,rfl⟩
 ·exact⟨rfl,rfl,fun e=>by cases e⟩
 ·exact⟨rfl,rfl,fun e=>by cases e⟩
theorem UW{t:TypeId}{id:Nat}{k:AV}{H:List ab}{x:ab}(h:H[id]? = some x)(d:lf x=true):ir P t (.map id) k H=none∧jg P t (.map id) k H=none:=by
 unfold ir jg;cases cZ P t with
 |none=>exact⟨rfl,rfl⟩
 | some p =>
  simp only[h];cases x<;>first|exact⟨rfl,rfl⟩|cases d
theorem UX{t:TypeId}{id a:Nat}{k:AV}{H:List ab}{x:ab}(d:id≠a)(ha:a<H.length):ir P t (.map id) k (H.set a x)=(ir P t (.map id) k H).map fun p=>(p.1,p.2.set a x):=by
 unfold ir;cases cZ P t with
 |none=>rfl
 | some p =>
  simp only[aV (Ne.symm d),List.length_set];split
  ·split
   ·split
    ·split
     ·split
      ·simp only [dL]
       rw[IV _ _ (by simpa using ha),mu _ _ d]
      ·rfl
     ·simp only [dL]
      rw[IV _ _ (by simpa using ha),mu _ _ d]
     ·rfl
    ·rfl
   ·rfl
  ·rfl
theorem UY{t:TypeId}{id a:Nat}{k:AV}{H:List ab}{x:ab}(d:id≠a):jg P t (.map id) k (H.set a x)=(jg P t (.map id) k H).map fun p=>(p.1,p.2.set a x):=by
 unfold jg;cases cZ P t with
 |none=>rfl
 | some p =>
  simp only[aV (Ne.symm d)];split
  ·split
   ·split
    ·simp only [dL]
     rw[mu _ _ d]
    ·rfl
   ·rfl
  ·rfl
theorem UZ{t:TypeId}{id a:Nat}{k v:AV}{H H':List ab}(d:id≠a)(ha:a<H.length)(h:ir P t (.map id) k H=some (v,H')):H'[a]? = H[a]? := by
 unfold ir at h;split at h
 case h_2=>cases h
 rename_i he;cases he;split at h
 case h_2=>cases h
 split at h
 case h_2=>cases h
 split at h
 case h_2=>cases h
 split at h
 ·split at h
  ·cases h
   rw[cQ (by simpa using ha),aV d]
  ·cases h
 ·cases h
  rw[cQ (by simpa using ha),aV d]
 ·cases h
theorem U0{t:TypeId}{id a:Nat}{k v:AV}{H H':List ab}(d:id≠a)(h:jg P t (.map id) k H=some (v,H')):H'[a]? = H[a]? := by
 unfold jg at h;split at h
 case h_2=>cases h
 rename_i he;cases he;split at h
 case h_2=>cases h
 split at h
 case h_2=>cases h
 split at h
 ·cases h
  rw[aV d]
 ·cases h
theorem U1{m s v:AV}{a:Nat}{x y:ab}{H k:List ab}(u:H[a]? = some y)(z:lf x=true∧lf y=true∧x≠.dead)(h:ka m s v (H.set a x)=some k)(hk:k[a]? = some x) :
  ∃ H1,ka m s v H=some H1∧k=H1.set a x∧H1[a]? = some y:=by
 have t:=aL u;unfold ka at h⊢;split at h
 case h_2=>cases h
 rename_i id st w j ad off n;have d:id≠a:=fun e=>by
  subst e;rw[bk t]at h;obtain⟨h1,_⟩:=z;cases x<;>first|cases h|cases h1
 rw[aV (Ne.symm d)]at h;split at h
 case h_2=>cases h
 rename_i l w' es cl J I rows g1 g2;split at h
 case isFalse=>cases h
 rename_i B;split at h
 case h_2=>cases h
 rename_i i hi;split at h
 case h_2=>cases h
 rename_i key q bn hb;cases h;have g:j≠a:=fun e=>by
  subst e;rw[bk (by simpa using t)]at hk;exact z.2.2 (gh hk).symm
 rw[aV (Ne.symm g)]at g2;rw[g1,g2];simp only[if_pos B,hi,hb];refine⟨_,rfl,?_,?_⟩
 ·rw[mu _ _ (Ne.symm d),mu _ _ (Ne.symm g)]
 ·rw[aV g,aV d,u]
theorem U2{m s v:AV}{a:Nat}{x y:ab}{H k:List ab}(t:H[a]? = some y)(u:lf x=true∧lf y=true∧x≠.dead)(h:la m s v (H.set a x)=some k)(hk:k[a]? = some x) :
  ∃ H1,la m s v H=some H1∧k=H1.set a x∧H1[a]? = some y:=by
 have q:=aL t;unfold la at h⊢;split at h
 case h_2=>cases h
 rename_i id st j;have d:id≠a:=fun e=>by
  subst e;rw[bk q]at h;obtain⟨h1,_⟩:=u;cases x<;>first|cases h|cases h1
 rw[aV (Ne.symm d)]at h;split at h
 case h_2=>cases h
 rename_i l es ms cl z B g1 g2;split at h
 case h_2=>cases h
 rename_i i hi;split at h
 case h_2=>cases h
 rename_i key bn hb;cases h;have g:j≠a:=fun e=>by
  subst e;rw[bk (by simpa using q)]at hk;exact u.2.2 (gh hk).symm
 rw[aV (Ne.symm g)]at g2;rw[g1,g2];simp only[hi,hb];refine⟨_,rfl,?_,?_⟩
 ·rw[mu _ _ (Ne.symm d),mu _ _ (Ne.symm g)]
 ·rw[aV g,aV d,t]
theorem U3{m s v:AV}{a:Nat}{x y:ab}{H:List ab}(d:H[a]? = some y)(g:lf x=true∧lf y=true∧x≠.dead){H2:List ab}(hm:la m s v H=some H2):ka m s v H=none:=by
 unfold la at hm;split at hm
 case h_2=>cases hm
 rfl
theorem U4{op:Op}(I:iO op=true){r:Operand→AV}{H J:List ab}{a:Nat}{x y:ab}{u:AV}(d:H[a]? = some y)(q:lf x=true∧lf y=true∧x≠.dead)(h:cW P r (H.set a x) op=some (u,J))(hk:J[a]? = some x) :
  ∃ H1,cW P r H op=some (u,H1)∧J=H1.set a x∧H1[a]? = some y:=by
 have z:=aL d;unfold iO at I;split at I
 ·rename_i t m k
  simp only[cW]at h⊢;cases hm:r m with
  | map id =>
   rw[hm]at h;by_cases g:id=a
   ·subst g
    obtain⟨O,R⟩:=UW (P:=P) (t:=t) (k:=r k) (bk (a:=x) z) q.1;rw[O,R]at h;cases h
   ·rw [UX g z, UY g] at h
    cases he:ir P t (.map id) (r k) H with
    | some p =>
     rw[he]at h;simp only[dL]at h;obtain⟨p1,M⟩:=p;cases h;exact⟨M,rfl,rfl,by rw[UZ g z he,d]⟩
    | none =>
     rw[he]at h;simp only[Option.map_none]at h;cases B:jg P t (.map id) (r k) H with
     | some p =>
      rw[B]at h;simp only[dL]at h;obtain⟨p1,M⟩:=p;cases h;exact⟨M,rfl,rfl,by rw[U0 g B,d]⟩
     | none =>
      rw[B]at h;cases h
  | _ =>
   rw[hm]at h;unfold ir jg at h;cases N:cZ P t with
   |none=>rw[N]at h; cases h
   |some p=>rw[N]at h; cases h
 ·rename_i t m s v
  simp only[cW]at h⊢;cases he:ka (r m) (r s) (r v) (H.set a x)with
  | some H2 =>
   rw[he]at h;cases h;obtain⟨H1,g1,g2,g3⟩:=U1 d q he hk;rw[g1];exact⟨H1,rfl,g2,g3⟩
  | none =>
   rw[he]at h;cases hm:la (r m) (r s) (r v) (H.set a x)with
   |none=>rw[hm]at h; cases h
   | some H2 =>
    rw[hm]at h;cases h;obtain⟨H1,g1,g2,g3⟩:=U2 d q hm hk;rw[U3 d q g1,g1];exact⟨H1,rfl,g2,g3⟩
 ·cases I
theorem U5{o:Oper}{s:St}{u:AV}{q:List ab}(g:iO o.op=true)(h:Yields P pf ops o s u q)(hw:bM ops s.fr o=some true):cW P s.eval s.H o.op=some (u,q):=by
 unfold Yields at h;simp only[hw,KG g]at h;rcases h with(h|⟨f,args,h1,_⟩)|(⟨t,id,m,d,_⟩|⟨t,id,d,_⟩)|k
 ·exact h
 ·unfold iO at g
  split at g
  ·rename_i d
   rw[d]at h1;cases h1
  ·rename_i d
   rw[d]at h1;cases h1
  ·cases g
 ·rw [d] at g
  cases g
 ·rw [d] at g
  cases g
 ·unfold iO at g
  split at g
  ·rename_i d
   rw[d]at k;exact k.elim
  ·rename_i d
   rw[d]at k;exact k.elim
  ·cases g
theorem U6{R:ji}{W:ix}{i j:Nat}{y g:Oper}{s:St}{v u:AV}{J d:List ab}(h1:y.apart ops g=true)(h2:g.apart ops y=true)(hc:C3 pf ops R W i y j g)
  (hi:Yields P pf ops y s v J) (si:Step P pf ops R W i y s v J) (M:Yields P pf ops g (s.put y.dst v J) u d) (sj:Step P pf ops R W j g (s.put y.dst v J) u d) :
  ∃ Hj1,Yields P pf ops g s u Hj1∧Step P pf ops R W j g s u Hj1∧Yields P pf ops y (s.put g.dst u Hj1) v d∧Step P pf ops R W i y (s.put g.dst u Hj1) v d:=by
 obtain⟨a1,a2,a3⟩:=IU h1;have U:bM ops (s.put y.dst v J).fr g=bM ops s.fr g:=yu a1;have wi:∀ H2,bM ops (s.put g.dst u H2).fr y=bM ops s.fr y:=fun H2=>yu a3;have ej:∀ x∈g.op.operands,(s.put y.dst v J).eval x=s.eval x:=fun x hx=>eval_put a1 hx;have ei:∀ H2,∀ x∈y.op.operands,(s.put g.dst u H2).eval x=s.eval x:=fun H2 x hx=>eval_put a3 hx;have cj:=KF g.op ej;have ci:=fun H2=>KF y.op (ei H2);have evj:=Kl (P:=P) (H:=J) g.op ej;have readJ:cO pf g.op=.read→Step P pf ops R W j g s u s.H:=fun q=>⟨fun hw=>(by rw[q]at hw; cases hw),fun _ hw id hid=>sj.2.1 q (by rw[U]; exact hw) id (by rw[cj]; exact hid),yy (by rw[q]; simp),fun _ _ hw=>(by rw[q]at hw; cases hw)⟩
 have readI:cO pf y.op=.read→∀ H2 H3,Step P pf ops R W i y (s.put g.dst u H2) v H3:=fun q H2 H3=>⟨fun hw=>(by rw[q]at hw; cases hw),fun _ hw id hid=>si.2.1 q (by rw[wi]at hw; exact hw) id (by rw[ci]at hid; exact hid),yy (by rw[q]; simp),fun _ _ hw=>(by rw[q]at hw; cases hw)⟩
 have frj:∀{H2 H3:List ab} {v':AV},Yields P pf ops g ⟨(s.put y.dst v J).fr,H2⟩ v' H3→Yields P pf ops g ⟨s.fr,H2⟩ v' H3:=fun {H2 _ _} h=>(ft (s1:=⟨(s.put y.dst v J).fr,H2⟩) (s:=⟨s.fr,H2⟩) U (fun x hx=>by
  have:=ej x hx;cases x<;>exact this) rfl).1 h
 have fri:∀{H1 H2 H3:List ab} {v':AV},Yields P pf ops y ⟨s.fr,H2⟩ v' H3→Yields P pf ops y ⟨(s.put g.dst u H1).fr,H2⟩ v' H3:=fun {H1 H2 _ _} h=>(ft (s1:=⟨(s.put g.dst u H1).fr,H2⟩) (s:=⟨s.fr,H2⟩) (wi H1) (fun x hx=>by
  have:=ei H1 x hx;cases x<;>exact this) rfl).2 h
 have toJ:J=s.H→Step P pf ops R W j g s u d:=by
  intro e;subst e;exact⟨fun hw A N=>sj.1 hw A N,fun q hw id hid=>sj.2.1 q (by rw[U]; exact hw) id (by rw[cj]; exact hid),fun ha ht hw=>sj.2.2.1 ha ht (by rw[U]; exact hw),
   fun I hca hw hwa σ hσ=>frj (sj.2.2.2 I hca hw (by rw[U]; exact hwa) σ hσ)⟩
 have toI:d=J→Step P pf ops R W i y (s.put g.dst u s.H) v d:=by
  intro e;subst e;exact⟨fun hw A N=>si.1 hw A N,fun q hw id hid=>si.2.1 q (by rw[wi]at hw; exact hw) id (by rw[ci]at hid; exact hid),fun ha ht hw=>si.2.2.1 ha ht (by rw[wi]at hw; exact hw),
   fun I hca hw hwa σ hσ=>fri (si.2.2.2 I hca hw (by rw[wi]at hwa; exact hwa) σ hσ)⟩
 have old:mS pf y g=true→∃ Hj1,Yields P pf ops g s u Hj1∧Yields P pf ops y (s.put g.dst u Hj1) v d:=fun hc=>Kq h1 h2 hc hi M;cases z:cO pf y.op with
 | pure =>
  obtain⟨O,g1⟩:=uF z hi;subst O;refine⟨d,(ft U ej rfl).1 M,toJ rfl,
   (ft (s1:=s.put g.dst u d) (s:=⟨s.fr,d⟩) (wi d) (fun x hx=>by rw[ei d x hx]; cases x<;>rfl) rfl).2 (g1 d),⟨fun hw=>(by rw[z]at hw; cases hw),fun q=>(by rw[z]at q; cases q),yy (by rw[z]; simp),fun _ _ hw=>(by rw[z]at hw; cases hw)⟩⟩
 | read =>
  have O:=pR z hi;subst O;have hj':=(ft U ej rfl).1 M;refine⟨d,hj',toJ rfl,?_,readI z _ _⟩;have key:∀ H2:List ab,St.eval ⟨s.fr,H2⟩=s.eval:=fun H2=>by funext x; cases x<;>rfl
  have same:bM ops s.fr y=some true→eV P s.eval d y.op=eV P s.eval s.H y.op:=by
   intro hw;cases B:cO pf g.op with
   | pure =>
    have:=(uF B hj').1;rw[this]
   | read =>
    have:=pR B hj';rw[this]
   | write =>
    rcases hc with hc|⟨_,_,hap⟩|⟨hw',_,_⟩|⟨hw',_,_⟩|⟨hw',_⟩|⟨hw',_⟩
    ·obtain ⟨Hj1, q1, q2⟩ := old hc
     have q3:=(ft (s1:=s.put g.dst u Hj1) (s:=⟨s.fr,Hj1⟩) (wi Hj1) (fun x hx=>by rw[ei Hj1 x hx]; cases x<;>rfl) rfl).1 q2;have e2:d=Hj1:=pR z q3;subst e2;unfold Yields at q3 hi;simp only[z,hw]at q3 hi;rw[key]at q3;rw[q3.2,hi.2]
    ·exact KE fun id hid=>sj.1 B id (hap id (si.2.1 z hw id hid))
    ·rw [z] at hw'
     cases hw'
    ·rw [mU hw'] at z
     cases z
    ·rw [z] at hw'
     cases hw'
    ·rw [mU hw'] at z
     cases z
  refine(ft (s1:=s.put g.dst u d) (s:=⟨s.fr,d⟩) (wi d) (fun x hx=>by rw[ei d x hx]; cases x<;>rfl) rfl).2 ?_;unfold Yields at hi⊢;simp only[z]at hi⊢;cases hw:bM ops s.fr y with
  |none=>rw[hw]at hi; exact hi.elim
  | some b =>
   rw[hw]at hi;cases b with
   |false=>exact⟨hi.1,by simp⟩
   | true =>
    refine⟨by simp,?_⟩;rw[key,same hw];exact hi.2
 | write =>
  cases B:cO pf g.op with
  | pure =>
   obtain⟨O,g1⟩:=uF B M;have e1':d=J:=O;subst e1';refine⟨s.H,?_,⟨fun hw=>(by rw[B]at hw; cases hw),fun q=>(by rw[B]at q; cases q),yy (by rw[B]; simp),fun _ _ hw=>(by rw[B]at hw; cases hw)⟩,(ft (s1:=s.put g.dst u s.H) (s:=s) (wi s.H) (ei s.H) rfl).2 hi,toI rfl⟩;exact(ft (s1:=⟨(s.put y.dst v d).fr,s.H⟩) (s:=s) U (fun x hx=>by
    have:=ej x hx;cases x<;>exact this) rfl).1 (g1 s.H)
  | read =>
   have e2:=pR B M;have e2':d=J:=e2;subst e2';refine⟨s.H,?_,readJ B,(ft (s1:=s.put g.dst u s.H) (s:=s) (wi s.H) (ei s.H) rfl).2 hi,toI rfl⟩;have same:bM ops s.fr g=some true→eV P s.eval d g.op=eV P s.eval s.H g.op:=by
    intro hw;rcases hc with hc|⟨hr',_,_⟩|⟨_,_,hap⟩|⟨_,hr',_⟩|⟨_,_,hr',_⟩|⟨_,hr',_⟩
    ·unfold mS at hc
     rw[z,B]at hc;cases hc
    ·rw [z] at hr'
     cases hr'
    ·exact KE fun id hid=>si.1 z id (hap id (sj.2.1 B (by rw[U]; exact hw) id (by rw[cj]; exact hid)))
    ·rw [mU hr'] at B
     cases B
    ·rw [mU (rO hr')] at B
     cases B
    ·rw [KG hr'] at B
     cases B
   unfold Yields at M⊢;simp only[B]at M⊢;rw[U]at M;cases hw:bM ops s.fr g with
   |none=>rw[hw]at M; exact M.elim
   | some b =>
    rw[hw]at M;cases b with
    |false=>exact⟨M.1,by simp⟩
    | true =>
     refine⟨by simp,?_⟩;rw[←same hw,←evj];exact M.2
  | write =>
   rcases hc with hc|⟨hr',_,_⟩|⟨_,hr',_⟩|⟨hai,haj,htw⟩|⟨_,hvi,haj,hca,hap⟩|⟨hai,hqj,htw,hap⟩
   ·unfold mS at hc
    rw[z,B]at hc;cases hc
   ·rw [z] at hr'
    cases hr'
   ·rw [B] at hr'
    cases hr'
   ·-- two allocations, each in its own place
    have ck:∀{f:Option Bool},f=some true→f=some false→False:=fun h1 h2=>by rw[h1]at h2; cases h2
    rcases C4 hai hi (fun hw=>(si.2.2.1 hai htw hw).1)with⟨wi',rfl,O⟩|⟨wi',V,yi,xi,ni,z2,O⟩
    ·subst O
     refine⟨d,(ft U ej rfl).1 M,toJ rfl,?_,⟨fun _ A _=>rfl,fun q=>(by rw[z]at q; cases q),fun _ _ _=>⟨rfl,fun _ h=>(h rfl).elim⟩,fun I=>(by rw[lQ hai]at I; cases I)⟩⟩;unfold Yields;rw[wi,wi'];exact⟨rfl,rfl⟩
    ·rcases C4 haj M (fun hw => (sj.2.2.1 haj htw hw).1) with ⟨wj', rfl, e2⟩ | ⟨wj', t, yj, xj, nj, y2, e2⟩
     ·have e2' : d = J := e2
      subst e2';refine⟨s.H,?_,⟨fun _ A _=>rfl,fun q=>(by rw[B]at q; cases q),fun _ _ _=>⟨rfl,fun _ h=>(h rfl).elim⟩,fun I=>(by rw[lQ haj]at I; cases I)⟩,(ft (s1:=s.put g.dst (.tuple []) s.H) (s:=s) (wi s.H) (ei s.H) rfl).2 hi,toI rfl⟩;unfold Yields;rw[U]at wj';rw[wj'];exact⟨rfl,rfl⟩
     ·have e2' : d = J.set t xj := e2
      have y2':J[t]? = some yj:=y2;have hne:t≠V:=by
       intro e;subst e;rw[O,bk (aL z2)]at y2';exact jk.ne ni nj (gh y2')
      have y2s:s.H[t]? = some yj:=by rw[O,aV (Ne.symm hne)]at y2'; exact y2'
      have wjs:bM ops s.fr g=some true:=by rw[←U]; exact wj'
      have hjj:∀ A,kept W j A→A≠t:=by
       intro A N e;subst e;have h:=sj.1 B A N;have h':d[A]? = J[A]? := h;rw[e2',bk (aL y2'),y2']at h';exact jk.ne nj nj (gh h')
      have hii:∀ A,kept W i A→A≠V:=by
       intro A N e;subst e;have h:=si.1 z A N;rw[O,bk (aL z2),z2]at h;exact jk.ne ni ni (gh h)
      have hcomm:d=(s.H.set t xj).set V xi:=by rw[e2',O,mu _ _ (Ne.symm hne)]
      refine⟨s.H.set t xj,C5 wjs nj y2s,⟨fun _ A N=>aV (Ne.symm (hjj A N)),fun q=>(by rw[B]at q; cases q),fun _ _ _=>⟨by simp,fun id hne=>?_⟩,fun I=>(by rw[lQ haj]at I; cases I)⟩,?_,
       ⟨fun _ A N=>?_,fun q=>(by rw[z]at q; cases q),fun _ _ _=>⟨?_,fun id hne=>?_⟩,fun I=>(by rw[lQ hai]at I; cases I)⟩⟩
      ·have e : id = t := xE fun e => hne (aV (Ne.symm e))
       subst e;refine(sj.2.2.1 haj htw wj').2 id ?_;show d[id]? ≠ J[id]?
       rw[e2',bk (aL y2'),y2'];exact fun e=>jk.ne nj nj (gh e)
      ·rw [hcomm]
       refine C5 (s:=s.put g.dst u (s.H.set t xj)) (by rw[wi]; exact wi') ni ?_;show (s.H.set t _)[V]? = _
       rw[aV hne];exact z2
      ·show d[A]? = (s.H.set t _)[A]?
       rw[hcomm,aV (Ne.symm (hii A N))]
      ·show d.length = (s.H.set t _).length
       rw[hcomm];simp
      ·have e:id=V:=xE fun e=>hne (by
        show d[id]? = (s.H.set t _)[id]?
        rw[hcomm,aV (Ne.symm e)])
       subst e;refine(si.2.2.1 hai htw wi').2 id ?_;rw[O,bk (aL z2),z2];exact fun e=>jk.ne ni ni (gh e)
   ·-- a call, and an allocation in a place that it does not touch
    have hih:mT ops=true:=by
     unfold mT;rw[hca];simp
    rcases KJ haj M (fun hw=>(sj.2.2.1 (rO haj) hih hw).1)with⟨wj',rfl,e2⟩|⟨wj',tj,t,zj,kj,mj,oj',y1,y2,y3,rfl,e2⟩
    ·have e2' : d = J := e2
     subst e2';refine⟨s.H,?_,⟨fun _ A _=>rfl,fun q=>(by rw[B]at q; cases q),fun _ _ _=>⟨rfl,fun _ h=>(h rfl).elim⟩,fun I=>(by rw[lQ (rO haj)]at I; cases I)⟩,(ft (s1:=s.put g.dst (.tuple []) s.H) (s:=s) (wi s.H) (ei s.H) rfl).2 hi,toI rfl⟩;unfold Yields;rw[U]at wj';rw[wj'];exact⟨rfl,rfl⟩
    ·have e2' : d = J.set t (.vec kj 1 [dO mj zj]) := e2
     have y2':J[t]? = some (.vec kj 0 []):=y2;obtain⟨e,he,hej,hid⟩:=(sj.2.2.1 (rO haj) hih wj').2 t (by
      show d[t]? ≠ J[t]?
      rw[e2',bk (aL y2'),y2'];simp)
     have hk:=hap e he hej t hid;have y2s:s.H[t]? = some (.vec kj 0 []):=by rw[←si.1 z t hk]; exact y2'
     have wjs:bM ops s.fr g=some true:=by rw[←U]; exact wj'
     have hjj:∀ A,kept W j A→A≠t:=by
      intro A N e;subst e;have h:=sj.1 B A N;have h':d[A]? = J[A]? := h;rw[e2',bk (aL y2'),y2']at h';simp at h'
     have hfill:yz W i s.H [(t,.vec kj 1 [dO mj zj])]:=by
      intro p hp;rw[List.mem_singleton.1 hp];exact⟨hk,kj,_,y2s,rfl⟩
     have hcall:Yields P pf ops y ⟨s.fr,s.H.set t (.vec kj 1 [dO mj zj])⟩ v d∧(bM ops s.fr y=some true→∀ σ,yz W i (s.H.set t (.vec kj 1 [dO mj zj])) σ→Yields P pf ops y ⟨s.fr,mV σ (s.H.set t (.vec kj 1 [dO mj zj]))⟩ v (mV σ d)):=by
      cases hw:bM ops s.fr y with
      | none =>
       unfold Yields at hi;rw[hw]at hi;exact hi.elim
      | some b =>
       cases b with
       | false =>
        refine⟨?_,fun h=>by cases h⟩;unfold Yields at hi⊢;rw[hw]at hi;rw[show bM ops (St.mk s.fr (s.H.set t (.vec kj 1 [dO mj zj]))).fr y=some false from hw];refine⟨hi.1,?_⟩;show d=s.H.set t _
        rw[e2',hi.2]
       | true =>
        have h4:=si.2.2.2 hvi hca z hw;refine⟨?_,fun _ σ hσ=>?_⟩
        ·have := h4 _ hfill
         rw[e2'];exact this
        ·have:=h4 ((t,.vec kj 1 [dO mj zj])::σ) (by
          intro p hp;rcases List.mem_cons.1 hp with rfl|hp
          ·exact hfill _ cH
          ·obtain ⟨a2, k, r, a3, a4⟩ := hσ p hp
           refine⟨a2,k,r,?_,a4⟩;have hne:p.1≠t:=fun e=>by
            rw[e,bk (aL y2s)]at a3;simp at a3
           rwa [aV (Ne.symm hne)]at a3)
         rw[e2'];exact this
     refine⟨s.H.set t (.vec kj 1 [dO mj zj]),KK wjs oj' y1 y2s y3 mj,⟨fun _ A N=>aV (Ne.symm (hjj A N)),fun q=>(by rw[B]at q; cases q),fun _ _ _=>⟨by simp,fun id hne=>?_⟩,fun I=>(by rw[lQ (rO haj)]at I; cases I)⟩,fri (H1:=s.H.set t (.vec kj 1 [dO mj zj])) hcall.1,
      ⟨fun _ A N=>?_,fun q=>(by rw[z]at q; cases q),fun ha=>(by rw[lQ ha]at hvi; cases hvi),fun _ _ _ hwa σ hσ=>fri (H1:=s.H.set t (.vec kj 1 [dO mj zj])) (hcall.2 (by rw[wi]at hwa; exact hwa) σ hσ)⟩⟩
     ·have e : id = t := xE fun e => hne (aV (Ne.symm e))
      subst e;exact⟨_,he,hej,hid⟩
     ·show d[A]? = (s.H.set t _)[A]?
      have h1:J[A]? = s.H[A]? := si.1 z A N;by_cases e:A=t
      ·subst e
       rw[e2',bk (aL y2'),bk (aL y2s)]
      ·rw[e2',aV (Ne.symm e),aV (Ne.symm e),h1]
   ·-- an allocation in its place, and an operation that does not touch it
    rcases C4 hai hi (fun hw=>(si.2.2.1 hai htw hw).1)with⟨wi',rfl,O⟩|⟨wi',V,yi,xi,ni,z2,O⟩
    ·subst O
     refine⟨d,(ft U ej rfl).1 M,toJ rfl,?_,⟨fun _ A _=>rfl,fun q=>(by rw[z]at q; cases q),fun _ _ _=>⟨rfl,fun _ h=>(h rfl).elim⟩,fun I=>(by rw[lQ hai]at I; cases I)⟩⟩;unfold Yields;rw[wi,wi'];exact⟨rfl,rfl⟩
    ·have hii:∀ A,kept W i A→A≠V:=by
      intro A N e;subst e;have h:=si.1 z A N;rw[O,bk (aL z2),z2]at h;exact jk.ne ni ni (gh h)
     obtain⟨e,he,hei,hid⟩:=(si.2.2.1 hai htw wi').2 V (by
      rw[O,bk (aL z2),z2];exact fun e=>jk.ne ni ni (gh e))
     have hk:kept W j V:=hap e he hei V hid;have hHi:J[V]? = some xi:=by rw[O,bk (aL z2)]
     have hjk:d[V]? = some xi:=by rw[sj.1 B V hk]; exact hHi
     have hback:∃ H1,Yields P pf ops g s u H1∧d=H1.set V xi∧H1[V]? = some yi:=by
      cases hw:bM ops s.fr g with
      | none =>
       unfold Yields at M;rw[U,hw]at M;exact M.elim
      | some b =>
       cases b with
       | false =>
        unfold Yields at M;rw[U,hw]at M;refine⟨s.H,?_,?_,z2⟩
        ·unfold Yields
         rw[hw];exact⟨M.1,rfl⟩
        ·rw [M.2]
         exact O
       | true =>
        have h1:=U5 hqj M (by rw[U]; exact hw);have h2:cW P s.eval (s.H.set V xi) g.op=some (u,d):=by
         rw[←O];have:=Km (P:=P) (H:=J) g.op ej;rw[←this];exact h1
        obtain⟨H1,g1,g2,g3⟩:=U4 hqj z2 ni.no h2 hjk;refine⟨H1,?_,g2,g3⟩;unfold Yields;simp only[hw,B];exact .inl (.inl g1)
     obtain⟨H1,q1,q2,q3⟩:=hback;refine⟨H1,q1,⟨fun _ A N=>?_,fun q=>(by rw[B]at q; cases q),fun ha=>(by rw[UT hqj]at ha; cases ha),fun I=>(by rw[UU hqj]at I; cases I)⟩,?_,⟨fun _ A N=>?_,fun q=>(by rw[z]at q; cases q),fun _ _ _=>⟨?_,fun id hne=>?_⟩,fun I=>(by rw[lQ hai]at I; cases I)⟩⟩
     ·by_cases hA2 : A = V
      ·rw[hA2,q3,z2]
      ·have h3 : d[A]? = J[A]? := sj.1 B A N
       rw[q2,aV (Ne.symm hA2),O,aV (Ne.symm hA2)]at h3;exact h3
     ·rw [q2]
      exact C5 (s:=s.put g.dst u H1) (by rw[wi]; exact wi') ni q3
     ·show d[A]? = H1[A]?
      rw[q2,aV (Ne.symm (hii A N))]
     ·show d.length = H1.length
      rw[q2];simp
     ·have e2:id=V:=xE fun e2=>hne (by
       show d[id]? = H1[id]?
       rw[q2,aV (Ne.symm e2)])
      subst e2;exact⟨e,he,hei,hid⟩
def uG(P:Program)(pf:FuncId→Bool)(ops:Array Oper)(R:ji)(W:ix)(i:Nat)(K:St→Prop)(s:St):Prop :=
 match ops[i]? with
 |none=>K s
 |some o=>∃ v H',Yields P pf ops o s v H'∧Step P pf ops R W i o s v H'∧K (s.put o.dst v H')
def uH(P:Program)(pf:FuncId→Bool)(ops:Array Oper)(R:ji)(W:ix)(s':St):Nat→Array Bool→St→Prop
 |0,listed,s=>kU .any ops listed=[]∧s=s'
 |fuel+1,listed,s=>(kU .any ops listed=[]→s=s')∧∀ i∈kU .any ops listed,uG P pf ops R W i (uH P pf ops R W s' fuel (listed.setIfInBounds i true)) s
theorem C6{R:ji}{W:ix}{s':St}:∀(fuel:Nat) (listed:Array Bool) (s:St),uH P pf ops R W s' fuel listed s→rJ P pf ops s' fuel listed s
 |0,_,_,h=>h
 | fuel+1,listed,s,h=>by
  refine⟨h.1,fun i hi=>?_⟩;have h1:=h.2 i hi;unfold uG at h1;unfold rI;cases ho:ops[i]? with
  |none=>rw[ho]at h1; exact C6 fuel _ _ h1
  | some o =>
   rw[ho]at h1;obtain⟨v,H',g1,_,g2⟩:=h1;exact⟨v,H',g1,C6 fuel _ _ g2⟩
theorem U7{R:ji}{W:ix}{s':St}{i:Nat}{g:Oper}(hi:ops[i]? = some g):∀(fuel:Nat) (listed:Array Bool) (s:St) (v:AV) (H':List ab),pS ops listed →
  (∀ j q,ops[j]? = some q→j≠i→listed.getD j true=false→waits ops ops.size j i=false→g.apart ops q=true∧q.apart ops g=true∧C3 pf ops R W i g j q) →
  i∈kU .any ops listed→Yields P pf ops g s v H'→Step P pf ops R W i g s v H'→uH P pf ops R W s' fuel (listed.setIfInBounds i true) (s.put g.dst v H')→uH P pf ops R W s' (fuel+1) listed s:=by
 intro fuel
 induction fuel with
 | zero =>
  intro listed s v H' _ _ t B z H;refine⟨fun h=>(by rw[h]at t; cases t),fun j y=>?_⟩;by_cases d:j=i
  ·subst d
   unfold uG;simp only[hi];exact⟨v,H',B,z,H⟩
  ·have := ready_mono y d
   rw[H.1]at this;cases this
 | succ fuel ih =>
  intro listed s v H' N J t B z H;refine⟨fun h=>(by rw[h]at t; cases t),fun j y=>?_⟩;by_cases d:j=i
  ·subst d
   unfold uG;simp only[hi];exact⟨v,H',B,z,H⟩
  ·have h1 := H.2 j (ready_mono y d)
   obtain⟨M,q,O,hall⟩:=mem_ready.1 y;unfold uG at h1⊢;simp only[O]at h1⊢;obtain⟨u,Hj,hyj,hsj,hrest⟩:=h1;have hnw:waits ops ops.size j i=false:=by
    cases hw:waits ops ops.size j i with
    |false=>rfl
    | true =>
     have:=CX N _ _ _ (CY y) hw;rw[Ks t]at this;cases this
   obtain⟨a1,a2,a3⟩:=J j q O d M hnw;obtain⟨I,q1,q2,q3,q4⟩:=U6 a1 a2 a3 B z hyj hsj;refine⟨u,I,q1,q2,?_⟩;refine ih (listed.setIfInBounds j true) (s.put q.dst u I) v Hj (yv N y) ?_ (ready_mono t (Ne.symm d)) q3 q4 ?_
   ·intro k ok hk hki U hno
    refine J k ok hk hki ?_ hno;by_cases V:j=k
    ·subst V; exact M
    ·rw[getD_set_ne true V]at U; exact U
   ·rw [ahQ _ _ d]
    have:=Kr s g.dst q.dst v u H' Hj I (IU a1).2.1;rw[←this];exact hrest
def rP(P:Program)(pf:FuncId→Bool)(ops:Array Oper)(R:ji)(W:ix):List Oper→Nat→St→St→Prop
 | [],_,s,s'=>s=s'
 |o::l,j,s,s'=>∃ v H',Yields P pf ops o s v H'∧Step P pf ops R W j o s v H'∧rP P pf ops R W l (j+1) (s.put o.dst v H') s'
def C7(pf:FuncId→Bool)(x y:Oper):Bool :=
 mS pf x y||((match cO pf x.op,cO pf y.op with
  |.read,.write=>true
  |.write,.read=>true
  |_,_=>false)||((d_ x.op&&d_ y.op)||((match cO pf x.op with
  |.write=>kh x.op&&isVar y.op
  |_=>false)||(d_ x.op&&iO y.op))))
theorem U8{i j:Nat}{x y:Oper}(hi:ops[i]? = some x)(d:ops[j]? = some y)(g:i<j)(hw:waits ops ops.size j i=false)(h:d_ x.op=true)(k:d_ y.op=true):C1 ops=true:=by
 unfold C1;refine jz.2 ⟨j,gF.2 (iF.1 d).1,jz.2 ⟨i,gF.2 g,?_⟩⟩;rw[hi,d];simp[h,k,hw]
theorem U9{i j:Nat}{x y:Oper}(hi:ops[i]? = some x)(d:ops[j]? = some y)(g:i<j)(hw:waits ops ops.size j i=false)(h:d_ x.op=true)(k:iO y.op=true):C2 ops=true:=by
 unfold C2;refine jz.2 ⟨j,gF.2 (iF.1 d).1,jz.2 ⟨i,gF.2 g,?_⟩⟩;rw[hi,d];simp[h,k,hw]
theorem U_{i j:Nat}{x y:Oper}(hi:ops[i]? = some x)(d:ops[j]? = some y)(g:i<j)(hw:waits ops ops.size j i=false)(h:kh x.op=true)(k:isVar y.op=true):nZ ops=true:=by
 unfold nZ;refine jz.2 ⟨j,gF.2 (iF.1 d).1,jz.2 ⟨i,gF.2 g,?_⟩⟩;rw[hi,d];simp[h,k,hw]
def rQ(pf:FuncId→Bool)(ops:Array Oper):Bool :=
  ahP ops &&
  (er ops.size).all fun j=>(match ops[j]? with
    | some d=>(d.after.toList.all fun e => !IT .any e||e.on<j) &&
      ((er j).all fun i => match ops[i]? with
        |some g=>waits ops ops.size j i||(g.apart ops d&&d.apart ops g&&C7 pf g d)
        |none=>true)
    |none=>true)
def rR(ops:Array Oper)(R:ji)(W:ix):Prop:=(∀ i id,(i,id)∈R→∀ e∈W,(i<e.1→waits ops ops.size e.1 i=false→id∉e.2.1∧id<e.2.2)∧(e.1<i→waits ops ops.size i e.1=false→id∉e.2.1∧id<e.2.2)) ∧
 (∀ e∈W,∀ e'∈W,e.1<e'.1→waits ops ops.size e'.1 e.1=false→∀ id∈e'.2.1,id∉e.2.1∧id<e.2.2) ∧
 ∀ e∈W,∀ e'∈W,e.1<e'.1→waits ops ops.size e'.1 e.1=false→∀ id∈e.2.1,id<e'.2.2
theorem U'{R:ji}{W:ix}(k:rR ops R W){i j:Nat}{x y:Oper}(hi:ops[i]? = some x)(h:ops[j]? = some y)(g:i<j)(hw:waits ops ops.size j i=false)(d:C7 pf x y=true):C3 pf ops R W i x j y:=by
 unfold C7 at d;simp only[BS]at d;rcases d with d|d|d|d|d
 ·exact .inl d
 ·split at d
  ·rename_i h1 v
   refine .inr (.inl ⟨h1,v,fun id hid e he h=>?_⟩);subst h;exact(k.1 i id hid e he).1 g hw
  ·rename_i h1 v
   refine .inr (.inr (.inl ⟨h1,v,fun id hid e he h=>?_⟩));subst h;exact(k.1 j id hid e he).2 g hw
  ·cases d
 ·simp only [ar] at d
  refine .inr (.inr (.inr (.inl ⟨d.1,d.2,?_⟩)));unfold mT;rw[U8 hi h g hw d.1 d.2];rfl
 ·split at d
  ·rename_i h1
   simp only[ar]at d;refine .inr (.inr (.inr (.inr (.inl ⟨h1,d.1,d.2,U_ hi h g hw d.1 d.2,fun e he t id hid e' q u=>?_⟩))));subst t u;exact k.2.1 e' q e he g hw id hid
  ·cases d
 ·simp only [ar] at d
  refine .inr (.inr (.inr (.inr (.inr ⟨d.1,d.2,?_,fun e he u id hid e' q t=>?_⟩))))
  ·unfold mT
   rw[U9 hi h g hw d.1 d.2];simp
  ·subst u t
   exact⟨fun hm=>(k.2.1 e he e' q g hw id hm).1 hid,k.2.2 e he e' q g hw id hid⟩
theorem KL{R:ji}{W:ix}{s':St}(J:rQ pf ops=true)(M:rR ops R W):∀(l:List Oper) (k:Nat) (listed:Array Bool) (s:St),l=ops.toList.drop k→pS ops listed→listed.size=ops.size →
  (∀ j,j<ops.size→(listed.getD j true=false↔k≤j))→rP P pf ops R W l k s s'→uH P pf ops R W s' l.length listed s
 | [],k,listed,s,t,_,z,hk,h=>by
  simp only[rP]at h;refine⟨?_,h⟩;apply ahR.2;intro j d;obtain⟨h0,o,ho,_⟩:=mem_ready.1 d;have q:j<ops.size:=(iF.1 ho).1;have:=(hk j q).1 h0;have hlen:(ops.toList.drop k).length=0:=by rw[←t]; rfl
  simp at hlen;omega
 | o::l,k,listed,s,t,B,z,hk,h=>by
  obtain⟨v,H',hy,V,U⟩:=h;have h0:ops[k]? = some o:=by
   have:(ops.toList.drop k)[0]? = some o:=by rw[←t]; rfl
   simpa using this
  have q:k<ops.size:=(iF.1 h0).1;simp only[rQ,ar,bO,gF]at J;obtain⟨_,u⟩:=J;have O:∀ j,j<k→listed.getD j false=true:=by
   intro j d;have N:¬ (listed.getD j true=false):=fun e=>by have:=(hk j (by omega)).1 e; omega
   have:j<listed.size:=by omega
   simp[this]at N⊢;exact N
  have y:k∈kU .any ops listed:=by
   refine mem_ready.2 ⟨(hk k q).2 (aH _),o,h0,fun e he hb=>?_⟩;have:=u k q;rw[h0]at this;simp only[ar,bO]at this;have h1:=this.1 e (by simpa using he);simp only[hb,BT,fp,decide_eq_true_eq]at h1;exact O e.on h1
  refine U7 h0 l.length listed s v H' B ?_ y hy V ?_
  ·intro j oj d hjk hun I
   have g:j<ops.size:=(iF.1 d).1;have hkj:k≤j:=(hk j g).1 hun;have:=u j g;rw[d]at this;simp only[ar,bO,gF]at this;have h1:=this.2 k (by omega);rw[h0]at h1;simp only[I,fp,ar]at h1;exact⟨h1.1.1,h1.1.2,U' M h0 d (by omega) I h1.2⟩
  ·refine KL (by simp only [rQ, ar, bO, gF]; exact ⟨‹_›, u⟩) M l (k + 1) _ _ ?_ (yv B y) (by simpa using z) ?_ U
   ·rw[←ph,←t]; rfl
   ·intro j g
    by_cases e:k=j
    ·subst e
     have:k<listed.size:=by omega
     simp[this]
    ·rw [getD_set_ne true e, hk j g]
     omega
theorem Va{R:ji}{W:ix}{id:Nat}{s s':St}{E:Env}{a:Act}{Q:Exit→Act→World→Prop}(hm:P.follows .mixedOrders=true)(t:rQ pf ops=true)(u:rR ops R W)(d:cV s E a)
  (h:rP P pf ops R W ops.toList 0 s s') (v:∀ g w',eW E s' g w'→Q .normal g w'):∀ ro:Option Nat,(Code.region id ops true).wpIn (fz ro) 0 P Q a E.w:=by
 intro ro;have q:cV s { E with w:={ E.w with drawn:=E.w.drawn+1 } } a:=⟨d.H,dN (Env.gl (Ext.drawn E.w _)) _ d.fr,B9 d.heap (Env.gl (Ext.drawn E.w _)) d.defers,d.heap.ext (Ext.drawn E.w _)⟩
 refine wpIn_region_any hm (yt (pf:=pf) _ _ s { E with w:={ E.w with drawn:=E.w.drawn+1 } } a q ?_ (fun g w' y=>v g w' (eW.after (Env.gl (Ext.drawn E.w _)) y)) ro);have:=C6 _ _ _ (KL (P:=P) (s':=s') t u ops.toList 0 (pz ops.size false) s (by simp) (by
  intro j k;exfalso;rcases h_ j ops.size with h'|h'
  ·simp[h']at k
  ·simp[xC (xs:=pz ops.size false) (by simpa using h')]at k) (by simp) (by intro j k; simp[k]) h)
 simpa using this
end Go.AL
