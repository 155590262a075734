/-
 What is proved here: every operation that the logic knows,put together,with calls; what an operation leaves. No program in sight; no condition.
-/
import Derived.Test.YtopnkdaoanlaiaaGreatDoorMA
set_option linter.all false
open Array renaming ext'→eT,getElem?_eq_some_iff→eP,toList_append→r_,getElem?_eq_none→IV,setIfInBounds_comm→aiw,replicate→lX
open Bool renaming and_eq_true→aw,or_eq_true→lW,not_true→aiy,false_or→jF
open Classical renaming byContradiction→uR
open Decidable renaming byContradiction→IY
open Function renaming comp_def→Tg
open Go.Builtin renaming len_→Tf
open Go.Call renaming operands→uQ
open Go.Op renaming operands→f_
open Go.Oper renaming wpIn→p9,semAt_eq→nc,apart_spec→IU
open Go.Region renaming wanted→yg,binds→IT,noSelect→aiv,ready→kX
open Go.Result renaming andThen_ok→cB
open Go.Sem renaming run_bind→cf,run_pure→gR
open Go.Value.slice renaming injEq→j0
open List renaming range→fp,length_cons→di,getElem?_set_self→cr,getElem?_set_ne→bH,all_eq_true→dX,drop_drop→pZ,map_map→iK,replicate→cI,mem_cons_self→cZ,set_comm→Ti,map_congr_left→om,any_eq_true→jE,eq_nil_iff_forall_not_mem→aix,mem_range→ja,nodup_cons→jG
open Nat renaming le_refl→aI,lt_of_lt_of_le→dN,lt_or_ge→jZ
open Option.some renaming injEq→aT
namespace Go.AL
open Go
variable [Dr]
def mg(x:Operand):Bool:=x matches .const _
def Di:AV→AV→Option AV
 |.lit (.int k a),.lit (.int _ b)=>some (.lit (.int k (if b>a then b else a)))
 |_,_=>none
def Dj:AV→AV→Option AV
 |.lit (.int k a),.lit (.int _ b)=>some (.lit (.int k (if b<a then b else a)))
 |_,_=>none
def sK(f:AV→AV→Option AV):AV→List AV→Option AV
 |x,[]=>some x
 | x,y::l=>match f x y with
  |some z=>sK f z l
  |none=>none
def UJ:List AV→Option AV
 | []=>none
 |x::rest=>sK Di x rest
def UK:List AV→Option AV
 | []=>none
 |x::rest=>sK Dj x rest
def yW(k:SK)(x:AV):Option AV :=
 match k,x with
 |.str,.lit (.string s)=>some (.int s.size)
 |.slice _ _ _,.lit (.string _)=>none
 | .slice _ _ _,x=>match yy x with
  |some n=>some (.int n)
  |none=>none
 |_,_=>none
def Dk(P:Program)(b:Builtin)(tys:List TypeId)(args:List AV):Option AV :=
 match b with
 | .len=>match tys[0]?,args[0]? with
  |some t,some x=>yW (bY P t) x
  |_,_=>none
 |.max=>UJ args
 |.min=>UK args
 | .cap=>match tys,args with
  | t::_,.lit (.slice none 0 0)::_=>match bY P t with
   |.slice _ _ _=>some (.int 0)
   |_=>none
  |_,_=>none
 |_=>none
def Dl(r:Operand→AV)(fn:Fn)(first caps:Array Operand):Option AV :=
 match fn with
 |.func f=>if first.toList.isEmpty then some (.clo f (caps.toList.map r)) else none
 |_=>none
def Dm(P:Program)(r:Operand→AV)(c:Call):Option AV :=
 match c.callee with
 |.builtin b=>Dk P b c.argTypes.toList (c.args.toList.map r)
 |_=>none
def gU(P:Program)(r:Operand→AV):Op→Option AV
 |.move x | .assign x=>some (r x)
 | .pick c a b=>match r c with
  |.lit (.bool t)=>some (bif t then r a else r b)
  |_=>none
 | .extract t i=>match r t with
  |.tuple vs=>vs[i]?
  |_=>none
 | .field t x f=>match sn P t f with
  |some k=>CV k (r x)
  |none=>none
 | .fieldAddr t x f=>match sn P t f with
  |some k=>CK k (r x)
  |none=>none
 |.indexAddr t x i=>ka (bY P t) (r x) (r i)
 |.index t x i=>oH (bY P t) (r x) (r i)
 |.binOp op t x y _=>gD P op t (mg x||mg y) (r x) (r y)
 |.unOp op _ x=>sC op (r x)
 |.convert s d x=>sD P s d (r x)
 |.build t parts=>CX P t (parts.toList.map fun p=>(p.1,r p.2))
 |.buildSlice t n parts=>sI P t n (parts.toList.map fun p=>(p.1,r p.2))
 |.slice t x lo hi mx=>lf P t (r x) (lo.map r) (hi.map r) (mx.map r)
 |.makeFunc fn first caps=>Dl r fn first caps
 | .nilCheck x=>match r x with
  |.ptr id ae k row col=>some (.ptr id ae k row col)
  |.cptr cells=>some (.cptr cells)
  |.clo f caps=>some (.clo f caps)
  |_=>none
 | .makeInterface t _=>match P.underlying t with
  |some (.interface _)=>none
  |some _=>some .ifc
  |none=>none
 |.call c=>Dm P r c
 |_=>none
theorem qn{E:Env}{r:Operand→AV}{ρ:Operand→Value}(h:∀ x,rel E (r x) (ρ x)):∀(l:List Operand),ad E (l.map r) (l.map ρ)
 | []=>by simp[ad]
 |x::l=>by simp only[List.map_cons,ad]; exact⟨h x,qn h l⟩
theorem Dn{E:Env}{r:Operand→AV}{ρ:Operand→Value}(h:∀ x,rel E (r x) (ρ x))(o:Option Operand):oE E (o.map r) (o.map ρ):=by
 cases o with
 |none=>simp[oE]
 |some x=>simpa[oE]using h x
def gg(E:Env)(v:AV)(u:Value)(w':World):Prop:=Ext E.w w'∧rel { E with w:=w' } v u
theorem gg.same{E:Env}{v:AV}{u:Value}(h:rel E v u):gg E v u E.w:=⟨Ext.refl _,h⟩
theorem mh{P:Program}{s:Sem Value}{w w':World}{u:Value}(h:s.run P w=.ok u w'):(do pure (Next.value (← s)):Sem Next).run P w=.ok (.value u) w':=by
 simp[h]
theorem Dp{P:Program}{E:Env}{f:AV→AV→Option AV}{g:Value→Value→Sem Value}
  (q:∀ x y c d z,f x y=some z→rel E x c→rel E y d→∃ u,(g c d).run P E.w=.ok u E.w∧rel E z u) :
  ∀(rest:List AV) (x:AV) (c:Value) (cs:List Value) (v:AV),rel E x c→ad E rest cs→sK f x rest=some v →
   ∃ u,(cs.foldlM g c).run P E.w=.ok u E.w∧rel E v u
 | [],x,c,cs,v,k,hr,h=>by
  cases cs with
  |nil=>simp[sK]at h; subst h; exact⟨c,rfl,k⟩
  |cons _ _=>simp[ad]at hr
 | y::rest,x,c,cs,v,k,hr,h=>by
  cases cs with
  |nil=>simp[ad]at hr
  | cons d cs =>
   simp only[ad]at hr;simp only[sK]at h;split at h
   ·rename_i z A
    obtain⟨u,g1,g2⟩:=q x y c d z A k hr.1;obtain⟨B,g3,g4⟩:=Dp q rest z u cs v g2 hr.2 h;exact⟨B,by simp only[List.foldlM_cons,cf,g1,cB]; exact g3,g4⟩
   ·cases h
theorem UL{P:Program}{E:Env}(x y:AV)(c d:Value)(z:AV)(h:Di x y=some z)(g:rel E x c)(k:rel E y d) :
  ∃ u,(Builtin.max2 c d).run P E.w=.ok u E.w∧rel E z u:=by
 unfold Di at h;split at h
 ·cases h
  simp only[rel]at g k;subst g; subst k;exact⟨_,rfl,by simp[rel]⟩
 ·cases h
theorem UM{P:Program}{E:Env}(x y:AV)(c d:Value)(z:AV)(h:Dj x y=some z)(g:rel E x c)(k:rel E y d) :
  ∃ u,(Builtin.min2 c d).run P E.w=.ok u E.w∧rel E z u:=by
 unfold Dj at h;split at h
 ·cases h
  simp only[rel]at g k;subst g; subst k;exact⟨_,rfl,by simp[rel]⟩
 ·cases h
theorem UN{P:Program}{E:Env}{b:Builtin}{tys:Array TypeId}{ty:TypeId}{consts:Array Bool}{args:List AV}{cargs:Array Value}{v:AV}
  (h:Dk P b tys.toList args=some v) (hr:ad E args cargs.toList):∃ u,(builtin b tys ty consts cargs).run P E.w=.ok (.value u) E.w∧rel E v u:=by
 cases b<;>simp only[Dk]at h<;>try cases h
 case len =>
  split at h
  case h_2=>cases h
  rename_i t x B I;obtain⟨c,hc,d⟩:=np hr I;have k:tys[0]? = some t:=by simpa using B
  have q:cargs[0]? = some c:=by simpa using hc
  unfold yW at h;split at h
  ·rename_i s hk
   cases h;simp only[rel]at d;subst d;refine⟨goInt s.size,?_,by simp[rel,goInt]⟩;simp[builtin,Tf,k,q,Sem.bz (qh hk)]
  ·cases h
  ·rename_i e sz bK hk F
   split at h
   ·rename_i n A
    cases h;obtain⟨hu,_⟩:=gC hk;rcases TK A d with⟨s,rfl,_⟩|⟨base,cap,rfl⟩
    ·exfalso
     unfold yy at A;split at A
     ·rename_i s'
      exact F s' rfl
     all_goals first
      |(simp[rel,dC]at d; done)
      |cases A
    ·refine ⟨goInt n, ?_, by simp [rel, goInt]⟩
     simp[builtin,Tf,k,q,Sem.bz hu]
   ·cases h
  ·cases h
 case max =>
  cases args with
  |nil=>cases h
  | cons x rest =>
   cases g:cargs.toList with
   |nil=>rw[g]at hr; simp[ad]at hr
   | cons c cs =>
    rw[g]at hr;simp only[ad]at hr;obtain⟨u,g1,g2⟩:=Dp (P:=P) UL rest x c cs v hr.1 hr.2 h;refine⟨u,?_,g2⟩;simp[builtin,Builtin.max_,g,g1]
 case min =>
  cases args with
  |nil=>cases h
  | cons x rest =>
   cases g:cargs.toList with
   |nil=>rw[g]at hr; simp[ad]at hr
   | cons c cs =>
    rw[g]at hr;simp only[ad]at hr;obtain⟨u,g1,g2⟩:=Dp (P:=P) UM rest x c cs v hr.1 hr.2 h;refine⟨u,?_,g2⟩;simp[builtin,Builtin.min_,g,g1]
 case cap =>
  split at h
  case h_2=>cases h
  rename_i t J as B;obtain⟨c,hc,d⟩:=np (i:=0) hr rfl;have k:tys[0]? = some t:=by
   have:tys.toList[0]? = some t:=by rw[B]; rfl
   simpa using this
  have q:cargs[0]? = some c:=by simpa using hc
  simp only[rel]at d;subst d;split at h
  ·rename_i e sz bK hk
   cases h;obtain⟨hu,_⟩:=gC hk;refine⟨goInt 0,?_,by simp[rel,goInt]⟩;simp[builtin,Builtin.cap_,k,q,Sem.bz hu]
  ·cases h
theorem UO{P:Program}{E:Env}(HE:ar E){r:Operand→AV}{ρ:Operand→Value}(hr:∀ x,rel E (r x) (ρ x)){o:Oper}{v:AV}(h:gU P r o.op=some v) :
  ∃ u w',(execOp ρ o).run P E.w=.ok (.value u) w'∧gg E v u w':=by
 obtain⟨dst,op,type,pos,after,guard⟩:=o;have same:∀{s:Sem Value},(∃ u,s.run P E.w=.ok u E.w∧rel E v u)→∃ u w',(do pure (Next.value (← s)):Sem Next).run P E.w=.ok (.value u) w'∧gg E v u w':=by
  rintro s ⟨u,g1,g2⟩;exact⟨u,E.w,mh g1,gg.same g2⟩
 cases op<;>simp only[gU]at h<;>try cases h
 case move x=>exact⟨ρ x,E.w,rfl,gg.same (hr x)⟩
 case assign x=>exact⟨ρ x,E.w,rfl,gg.same (hr x)⟩
 case pick c a b =>
  split at h
  ·rename_i t A
   cases h;have hc:=hr c;rw[A]at hc;simp only[rel]at hc;refine⟨if t then ρ a else ρ b,E.w,?_,?_⟩
   ·simp[execOp,hc,asBool]
   ·cases t
    ·exact gg.same (hr b)
    ·exact gg.same (hr a)
  ·cases h
 case build t parts =>
  obtain⟨u,g1,g2⟩:=TZ (E:=E) (cparts:=parts.toList.map fun p=>(p.1,ρ p.2)) h (by simp) (by
   simp only[iK];have:=qn hr (parts.toList.map (·.2));simpa[iK,Tg]using this)
  have e:(parts.toList.map fun p=>(p.1,ρ p.2)).toArray=parts.map fun(i,x)=>(i,ρ x):=by
   apply eT; simp
  rw[e]at g1;exact same ⟨u,g1,g2⟩
 case buildSlice t n parts =>
  obtain⟨u,w',g1,g2,g3⟩:=Uh HE (cparts:=parts.toList.map fun p=>(p.1,ρ p.2)) h (by simp) (by
   simp only[iK];have:=qn hr (parts.toList.map (·.2));simpa[iK,Tg]using this)
  have e:(parts.toList.map fun p=>(p.1,ρ p.2)).toArray=parts.map fun(i,x)=>(i,ρ x):=by
   apply eT; simp
  rw[e]at g1;exact⟨u,w',mh g1,g2,g3⟩
 case nilCheck x =>
  have g:=hr x;split at h
  ·rename_i id ae k row col he
   cases h;rw[he]at g;have q:=g;simp only[rel]at q;obtain⟨⟨b,o,hc⟩,_⟩:=q;exact⟨ρ x,E.w,by simp[execOp,hc],gg.same g⟩
  ·rename_i cells he
   cases h;rw[he]at g;have q:=g;simp only[rel]at q;obtain⟨_,b,o,hc,_⟩:=q;exact⟨ρ x,E.w,by simp[execOp,hc],gg.same g⟩
  ·rename_i f caps he
   cases h;rw[he]at g;have q:=g;simp only[rel]at q;obtain⟨cs,hc,_⟩:=q;exact⟨ρ x,E.w,by simp[execOp,hc],gg.same g⟩
  ·cases h
 case binOp op t x y _ =>
  refine same (TU (x:=x) (y:=y) (fun hk=>?_) h (hr x) (hr y));cases x<;>cases y<;>first|rfl|exact hk
 case unOp op _ x=>exact same (TV h (hr x))
 case convert s d x=>exact same (TW h (hr x))
 case makeInterface t x =>
  split at h
  ·cases h
  ·rename_i d B hu
   cases h;refine same ⟨.iface t (ρ x),?_,by simp only[rel]; exact⟨_,_,rfl⟩⟩;simp only[Instr.makeInterface,cf,Sem.bz hu,cB];cases d<;>first|rfl|(exact(B _ hu).elim)|(exact(B _ rfl).elim)
  ·cases h
 case makeFunc fn first caps =>
  cases fn<;>simp only[Dl]at h<;>try cases h
  rename_i f;split at h
  ·rename_i I
   cases h;refine⟨.func (.func f) (first.map ρ) (caps.map ρ),E.w,rfl,gg.same ?_⟩;simp only[rel];refine⟨caps.map ρ,?_,by simpa using qn hr caps.toList⟩;have:first=#[]:=by
    apply eT;simpa using I
   simp[this]
  ·cases h
 case slice t x lo hi mx=>exact same (TQ h (hr x) (Dn hr lo) (Dn hr hi) (Dn hr mx))
 case fieldAddr t x f =>
  split at h
  ·rename_i k hk; exact same (TM hk h (hr x))
  ·cases h
 case field t x f =>
  split at h
  ·rename_i k hk; exact same (TY hk h (hr x))
  ·cases h
 case indexAddr t x i=>exact same (TN HE h (hr x) (hr i))
 case index t x i=>exact same (TX h (hr x) (hr i))
 case extract t i =>
  split at h
  ·rename_i vs A
   have g:=hr t;rw[A]at g;simp only[rel]at g;obtain⟨cs,hc,J⟩:=g;obtain⟨u,g1,g2⟩:=np J h;refine same ⟨u,?_,g2⟩;have F:cs[i]? = some u:=by simpa using g1
   simp[Instr.extract,hc,F]
  ·cases h
 case call c =>
  obtain⟨callee,args,argTypes⟩:=c;cases callee<;>simp only[Dm]at h<;>try cases h
  rename_i b;obtain⟨u,g1,g2⟩:=UN (P:=P) (E:=E) (b:=b) (tys:=argTypes) (ty:=type) (consts:=args.map fun | .const _=>true|_=>false) (cargs:=args.map ρ) h
   (by simpa using qn hr args.toList)
  exact⟨u,E.w,by simp only[execOp,resolve,cf,gR,cB,invoke]; exact g1,gg.same g2⟩
def yX(P:Program)(r:Operand→AV)(H:List af)(c:Call):Option (AV × List af) :=
 match c.callee with
 | .builtin .append=>match c.args.toList,c.argTypes.toList with
  | [s,x],[t,xt]=>match ql P t xt (r s) (r x) H with
   |some y=>some y
   |none=>sE P t xt (r s) (r x) H
  |_,_=>none
 | .builtin .clear=>match c.args.toList,c.argTypes.toList with
  | [x],[t]=>match vg P t (r x) H with
   |some H'=>some (.tuple [],H')
   |none=>none
  |_,_=>none
 | .builtin .delete=>match c.args.toList,c.argTypes.toList with
  | [x,k],t::_=>match vf P t (r x) (r k) H with
   |some H'=>some (.tuple [],H')
   |none=>none
  |_,_=>none
 |_=>none
def eH(P:Program)(r:Operand→AV)(H:List af):Op→Option (AV × List af)
 |.alloc t=>qk P t H
 |.box _ x=>yM (r x) H
 | .store t a x=>match sG P t (r a) (r x) H with
  |some H'=>some (.undef,H')
  |none=>none
 |.makeSlice t l c=>vc P t (r l) (r c) H
 |.buildSlice t n parts=>vh P t n (parts.toList.map fun p=>(p.1,r p.2)) H
 |.range t x=>yO P t (r x) H
 |.next it isString=>yP (r it) isString H
 |.makeMap _ none=>some (.map H.length,H++[.map [] 0])
 | .mapUpdate t m k v=>match oL P t (r m) (r k) (r v) H with
  |some H'=>some (.undef,H')
  | none=>match vk P t (r m) (r k) (r v) H with
   |some H'=>some (.undef,H')
   |none=>none
 | .insert t m k v=>match oL P t (r m) (r k) (r v) H with
  |some H'=>some (.undef,H')
  |none=>none
 | .lookup t m k false=>match ln P t (r m) (r k) false H with
  |some v=>some (v,H)
  |none=>vj P t (r m) (r k) H
 |.mapEntry t m k=>vm P t (r m) (r k) H
 | .entryStore _ m s x=>match vn (r m) (r s) (r x) H with
  |some H'=>some (.undef,H')
  |none=>none
 |.call c=>yX P r H c
 |_=>none
theorem dh.of_le{E:Env}{w':World}{H':List af}(h1:ar { w:=w',H:=H',loc:=E.loc,X:=E.X })(d:E.le { w:=w',H:=H',loc:=E.loc,X:=E.X })(u:Value) :
  dh E .undef H' u w':=⟨E.loc,E.X.r,by simp[rel],h1,d⟩
theorem gg.toOp{E:Env}(HE:ar E){v:AV}{u:Value}{w':World}(h:gg E v u w'):dh E v E.H u w' :=
 ⟨E.loc,E.X.r,h.2,HE.ext h.1,Env.gd h.1⟩
theorem UP{P:Program}{E:Env}(HE:ar E){r:Operand→AV}{ρ:Operand→Value}(hr:∀ x,rel E (r x) (ρ x)){o:Oper}{v:AV}{H':List af}
  (h:eH P r E.H o.op=some (v,H')) :
  ∃ n u w',(execOp ρ o).run P E.w=.ok n w'∧(n=.value u∨n=.skip∧u=undef)∧dh E v H' u w':=by
 obtain⟨dst,op,type,pos,after,guard⟩:=o;have same:∀{s:Sem Value},(∃ u w',s.run P E.w=.ok u w'∧dh E v H' u w') →
   ∃ n u w',(do pure (Next.value (← s)):Sem Next).run P E.w=.ok n w'∧(n=.value u∨n=.skip∧u=undef)∧dh E v H' u w':=by
  rintro s ⟨u,w',g1,g2⟩;exact⟨_,u,w',mh g1,.inl rfl,g2⟩
 cases op<;>simp only[eH]at h<;>try cases h
 case alloc t=>exact same (T_ HE h)
 case box t x=>exact same (Ue HE h (hr x))
 case store t a x =>
  split at h
  ·rename_i H1 d
   cases h;obtain⟨w',g1,g2,g3⟩:=JH HE d (hr a) (hr x);exact⟨.skip,undef,w',by simp[execOp,g1],.inr ⟨rfl,rfl⟩,dh.of_le g2 g3 _⟩
  ·cases h
 case makeSlice t l c=>exact same (Ug HE h (hr l) (hr c))
 case buildSlice t n parts =>
  obtain⟨u,w',g1,g2⟩:=Uu HE (cparts:=parts.toList.map fun p=>(p.1,ρ p.2)) h (by simp) (by
   simp only[iK];have:=qn hr (parts.toList.map (·.2));simpa[iK,Tg]using this)
  have e:(parts.toList.map fun p=>(p.1,ρ p.2)).toArray=parts.map fun(i,x)=>(i,ρ x):=by
   apply eT; simp
  rw[e]at g1;exact same ⟨u,w',g1,g2⟩
 case range t x=>exact same (Uj HE h (hr x))
 case next it isString=>exact same (Uk HE h (hr it))
 case makeMap t res =>
  cases res with
  |some _=>cases h
  | none =>
   cases h;exact same ⟨_,_,by simp[Instr.makeMap,newObj]; rfl,Un HE⟩
 case mapUpdate t m k x =>
  split at h
  ·rename_i H1 d
   cases h;obtain⟨w',g1,g2,g3⟩:=JW HE d (hr m) (hr k) (hr x);exact⟨.skip,undef,w',by simp[execOp,g1],.inr ⟨rfl,rfl⟩,dh.of_le g2 g3 _⟩
  ·split at h
   ·rename_i H1 d
    cases h;obtain⟨w',g1,g2⟩:=UC HE d (hr m) (hr k) (hr x);exact⟨.skip,undef,w',by simp[execOp,g1],.inr ⟨rfl,rfl⟩,g2 _⟩
   ·cases h
 case lookup t m k ok =>
  cases ok with
  |true=>cases h
  | false =>
   simp only[]at h;split at h
   ·rename_i v1 M
    cases h;obtain⟨u,g1,g2⟩:=JT HE M (hr m) (hr k);exact same ⟨u,_,g1,gg.toOp HE ⟨Ext.refl _,g2⟩⟩
   ·exact same (UB HE h (hr m) (hr k))
 case mapEntry t m k=>exact same (UH HE h (hr m) (hr k))
 case entryStore t m s x =>
  split at h
  ·rename_i H1 d
   cases h;obtain⟨w',g1,g2⟩:=UI (P:=P) (t:=t) HE d (hr m) (hr s) (hr x);exact⟨.skip,undef,w',by simp[execOp,g1],.inr ⟨rfl,rfl⟩,g2 _⟩
  ·cases h
 case insert t m k x =>
  split at h
  ·rename_i H1 d
   cases h;obtain⟨w',g1,g2,g3⟩:=JW HE d (hr m) (hr k) (hr x);exact⟨.skip,undef,w',by simp[execOp,g1],.inr ⟨rfl,rfl⟩,dh.of_le g2 g3 _⟩
  ·cases h
 case call c =>
  obtain⟨callee,args,argTypes⟩:=c;unfold yX at h;split at h
  ·rename_i g
   simp only[]at g;subst g;simp only[]at h;split at h
   case h_2=>cases h
   rename_i s x t xt A B;have q:args=#[s,x]:=by apply eT; simpa using A
   have I:argTypes=#[t,xt]:=by apply eT; simpa using B
   subst q;subst I;split at h
   ·rename_i y F
    cases h;obtain⟨u,w',g1,g2⟩:=Ut (P:=P) (ty:=type) HE F (hr s) (hr x);refine⟨.value u,u,w',?_,.inl rfl,g2⟩;simp[execOp,resolve,invoke,builtin,g1]
   ·obtain ⟨u, w', g1, g2⟩ := T7 (P := P) (ty := type) HE h (hr s) (hr x)
    refine⟨.value u,u,w',?_,.inl rfl,g2⟩;simp[execOp,resolve,invoke,builtin,g1]
  ·rename_i g
   simp only[]at g;subst g;simp only[]at h;split at h
   case h_2=>cases h
   rename_i x t A B;have q:args=#[x]:=by apply eT; simpa using A
   have I:argTypes=#[t]:=by apply eT; simpa using B
   subst q;subst I;split at h
   ·rename_i H1 F
    cases h;obtain⟨w',g1,g2,g3⟩:=Ur (P:=P) (ty:=type) (tys:=#[t]) (cs:=#[ρ x]) HE F rfl rfl (hr x);refine⟨.value (.tuple #[]),.tuple #[],w',?_,.inl rfl,E.loc,E.X.r,by simp[rel,ad],g2,g3⟩;simp[execOp,resolve,invoke,builtin,g1]
   ·cases h
  ·rename_i g
   simp only[]at g;subst g;simp only[]at h;split at h
   case h_2=>cases h
   rename_i x k t N A B;have q:args=#[x,k]:=by apply eT; simpa using A
   subst q;split at h
   ·rename_i H1 F
    cases h;have J:argTypes[0]? = some t:=by
     have:argTypes.toList[0]? = some t:=by rw[B]; rfl
     simpa using this
    obtain⟨w',g1,g2,g3⟩:=Up (P:=P) (ty:=type) (tys:=argTypes) (cs:=#[ρ x,ρ k]) HE F J rfl rfl (hr x) (hr k);refine⟨.value (.tuple #[]),.tuple #[],w',?_,.inl rfl,E.loc,E.X.r,by simp[rel,ad],g2,g3⟩;simp[execOp,resolve,invoke,builtin,g1]
   ·cases h
  ·cases h
def ff(P:Program)(f:FuncId)(args:List AV)(H:List af)(Q:AV→List af→Prop):Prop :=
 ∀(E:Env) (cargs:Array Value),E.H=H→ar E→ad E args cargs.toList →
  Calls P f cargs E.w fun e w'=>∃ c v H',e=.returned c∧Q v H'∧dh E v H' c w'
def cV(P:Program)(f:FuncId)(args:List AV)(v:AV):Prop:=∀ H,ff P f args H fun d H'=>d=v∧H'=H
theorem ff.mono{P:Program}{f:FuncId}{args:List AV}{H:List af}{Q d:AV→List af→Prop}(h:ff P f args H Q)(g:∀ v H',Q v H'→d v H'):ff P f args H d :=
 fun E cargs h1 k A=>(h E cargs h1 k A).mono fun _ _ ⟨c,v,H',e,q,r⟩=>⟨c,v,H',e,g v H' q,r⟩
def dE(P:Program)(f:FuncId):Bool :=
 match P.funcs[f]? with
 |some fn => !(fn.name == "runtime.NumGoroutine")&&fn.body.isSome
 |none=>false
theorem sM{P:Program}{f:FuncId}(h:dE P f=true)(args:Array Value)(w:World):(callFunc f args).run P w=.ok (.enter f args) w:=by
 unfold dE at h;split at h
 ·rename_i fn d
  simp only[aw,Bool.not_eq_true']at h;have h1:fn.name ≠ "runtime.NumGoroutine" := by simpa using h.1
  have g:fn.body≠none:=fun e=>by rw[e]at h; simp at h
  simp[callFunc,d,h1,g]
 ·cases h
def Dq(r:Operand→AV)(c:Call):Option (FuncId × List AV) :=
 match c.callee with
 | .value g=>match r g with
  |.clo f caps=>some (f,c.args.toList.map r++caps)
  |_=>none
 |_=>none
def eU(r:Operand→AV):Op→Option (FuncId × List AV)
 |.call c=>Dq r c
 |_=>none
theorem Ds{P:Program}{E:Env}{r:Operand→AV}{ρ:Operand→Value}(hr:∀ x,rel E (r x) (ρ x)){o:Oper}{f:FuncId}{args:List AV}
  (h:eU r o.op=some (f,args)) (k:dE P f=true):∃ cargs:Array Value,(execOp ρ o).run P E.w=.ok (.enter f cargs) E.w∧ad E args cargs.toList:=by
 obtain⟨dst,op,type,pos,after,guard⟩:=o;cases op<;>simp only[eU]at h<;>try cases h
 rename_i c;obtain⟨callee,as,argTypes⟩:=c;cases callee<;>simp only[Dq]at h<;>try cases h
 rename_i g;split at h
 case h_2=>cases h
 rename_i B caps q;cases h;have d:=hr g;rw[q]at d;simp only[rel]at d;obtain⟨cs,hc,A⟩:=d;refine⟨as.map ρ++cs,?_,?_⟩
 ·simp[execOp,resolve,hc,Deferred.ofValue,invoke,sM k]
 ·simp only [r_, Array.toList_map]
  exact jd (qn hr as.toList) A
end Go.AL

namespace Go.AL
open Go
variable [Dr]
inductive UQ where
 |pure|read|write
 deriving DecidableEq
def UR(pf:FuncId→Bool)(c:Call):Bool :=
 match c.argTypes.toList with
 | [t]=>pf (t+1000000)
 |_=>false
def cW(pf:FuncId→Bool):Op→UQ
 |.load ..=>.read
 |.lookup t _ _ _=>if pf (t+1500000) then .write else .read
 |.buildSlice t n _=>if pf (t+100000*n+2000000) then .write else .pure
 |.alloc .. | .box .. | .store .. | .makeSlice .. | .mapUpdate .. | .insert .. | .makeMap .. | .mapEntry .. | .entryStore .. | .range .. | .next .. | .entry ..=>.write
 |.go .. | .defer .. | .panic .. | .send .. | .recv .. | .select .. | .makeChan .. | .ready .. | .waits ..=>.write
 | .call c=>match c.callee with
  | .builtin .len=>match UR pf c with
   |true=>.read
   |false=>.pure
  |.builtin .max | .builtin .min | .builtin .cap=>.pure
  |.value (.func f)=>if pf f then .pure else .write
  |_=>.write
 |_=>.pure
def oO(P:Program)(r:Operand→AV)(H:List af)(c:Call):Option AV :=
 match c.callee,c.args.toList,c.argTypes.toList with
 | .builtin .len,[a],[t]=>match fe P t,r a with
  | some _,.map id=>match H[id]? with
   |some (.map es _)=>some (.int es.length)
   |_=>none
  |_,_=>none
 |_,_,_=>none
theorem US{P:Program}{E:Env}(HE:ar E){r:Operand→AV}{ρ:Operand→Value}(hr:∀ x,rel E (r x) (ρ x)){o:Oper}{c:Call}{v:AV}(F:o.op=.call c)(h:oO P r E.H c=some v) :
  ∃ u,(execOp ρ o).run P E.w=.ok (.value u) E.w∧rel E v u:=by
 obtain⟨dst,op,type,pos,after,guard⟩:=o;subst F;obtain⟨callee,args,argTypes⟩:=c;unfold oO at h;split at h
 case h_2=>cases h
 rename_i a t g d k;simp only[]at g d k;subst g;have A:args=#[a]:=by apply eT; simpa using d
 have B:argTypes=#[t]:=by apply eT; simpa using k
 subst A;subst B;split at h
 case h_2=>cases h
 rename_i p id I hid;split at h
 case h_2=>cases h
 rename_i es cl hH;cases h;have q:=hr a;rw[hid]at q;obtain⟨b,n,ms,J,h1,M,N⟩:=sJ HE hH q;obtain⟨U,W⟩:=p;have O:=(fF.1 N).1;have R:(getObj b).run P E.w=.ok (.map ms cl) E.w:=by simp[getObj,Sem.run,M]
 refine⟨goInt ms.size,?_,by simp[rel,goInt,O]⟩;simp only[execOp,resolve,cf,gR,cB,invoke];simp[builtin,Tf,Sem.bz (iN I),J,R]
def eV(P:Program)(r:Operand→AV)(H:List af):Op→Option AV
 |.load t a=>fN P t (r a) H
 |.lookup t m k ok=>ln P t (r m) (r k) ok H
 |.call c=>oO P r H c
 |_=>none
theorem UT{P:Program}{E:Env}(HE:ar E){r:Operand→AV}{ρ:Operand→Value}(hr:∀ x,rel E (r x) (ρ x)){o:Oper}{v:AV}(h:eV P r E.H o.op=some v) :
  ∃ u,(execOp ρ o).run P E.w=.ok (.value u) E.w∧rel E v u:=by
 obtain⟨dst,op,type,pos,after,guard⟩:=o;cases op<;>simp only[eV]at h<;>try cases h
 case load t a =>
  obtain⟨u,g1,g2⟩:=Jl HE h (hr a);exact⟨u,mh g1,g2⟩
 case lookup t m k ok =>
  obtain⟨u,g1,g2⟩:=JT HE h (hr m) (hr k);exact⟨u,mh g1,g2⟩
 case call c=>exact US HE hr rfl h
def cg(P:Program)(f:FuncId)(args:List AV)(H:List af)(v:AV)(H':List af):Prop:=ff P f args H fun v1 H1=>v1=v∧H1=H'
def bT(ops:Array Oper)(fr:List AV)(o:Oper):Option Bool :=
 match o.guard with
 |none=>some true
 | some (j,want)=>match (ops[j]?).bind (·.dst) with
  | some t=>match fr[t]? with
   |some (.lit (.bool b))=>some (b==want)
   |some (.tuple [])=>some false
   |_=>none
  |none=>none
def UU(H:List af)(v v1:AV)(H1:List af):Prop :=
 ∃(id ae:Nat) (ks:List Kd) (rows:List (List G)),v=.vec ks.length id ae 0 rows.length∧H[id]? = some (.vec ks.length ae (rows.map (aD ks)))∧v1=.listF ks rows∧H1=H.set id .dead
theorem J3{E:Env}(HE:ar E){id ae:Nat}{ks:List Kd}{rows:List (List G)} (hid:E.H[id]? = some (.vec ks.length ae (rows.map (aD ks)))) {c:Value} (hr:rel E (.vec ks.length id ae 0 rows.length) c) :
  rel { w:=E.w,H:=E.H.set id .dead,loc:=E.loc.set id none,X:=E.X } (.listF ks rows) c:=by
 have hle:=Env.uW HE id;have q:=HE.obj id _ hid;rw[jI];simp only[rel]at hr⊢;obtain⟨⟨base,cap,rfl,I,_⟩,_,A⟩:=hr;obtain⟨R,M⟩:=A ⟨_,hid,rfl⟩;have B:fa (rows.map (aD ks)):=by
  intro r hr;obtain⟨g,_,rfl⟩:=List.mem_map.1 hr;exact fL ks g
 refine⟨B,base,cap,by simp,by simpa using I,?_⟩;simp only[aO]at q;rcases q with⟨h1,F⟩|⟨b,mm,h1,F,A,_,N⟩
 ·exact .inl F
 ·obtain ⟨g1, o, g2, g3⟩ := M b mm h1
  by_cases hm:rows=[]
  ·subst hm; exact .inl rfl
  ·right
   have:0<rows.length:=by cases rows with|nil=>exact(hm rfl).elim|cons _ _=>simp
   simp at A;have q:=g2 (by omega);simp at q;subst q;simp only[j0]at g3;refine⟨b,0,g3.1,⟨(HE.lt id b mm h1).1,?_,(HE.lt id b mm h1).2⟩,k8 hle.toC _ B rfl N⟩;rintro(⟨j,O,d⟩|⟨l,k,O,d⟩)
   case inr=>exact HE.dj _ _ _ _ _ _ h1 d
   simp only[List.getElem?_set]at d;split at d
   ·split at d<;>cases d
   ·rename_i J
    exact J (HE.inj _ _ _ _ _ h1 d)
def sN(P:Program)(r:Operand→AV)(H:List af)(v:AV)(H':List af):Op→Prop
 |.store t a x=>∃ v1 H1,UU H (r x) v1 H1∧sG P t (r a) v1 H1=some H'∧v=.undef
 |_=>False
theorem UW{P:Program}{r r':Operand→AV}{H:List af}{v:AV}{H':List af}(o:Op)(h:∀ x∈o.operands,r x=r' x):sN P r H v H' o=sN P r' H v H' o:=by
 cases o<;>try rfl
 rename_i t a x;simp only[sN];rw[h a (by simp[f_]),h x (by simp[f_])]
theorem UX{P:Program}{E:Env}(HE:ar E){r:Operand→AV}{ρ:Operand→Value}(hr:∀ x,rel E (r x) (ρ x)){o:Oper}{v:AV}{H':List af}(h:sN P r E.H v H' o.op) :
  ∃ w',(execOp ρ o).run P E.w=.ok .skip w'∧dh E v H' undef w':=by
 obtain⟨dst,op,type,pos,after,guard⟩:=o;cases op<;>try exact h.elim
 rename_i t a x;obtain⟨v1,H1,⟨id,ae,ks,rows,h1,d,rfl,rfl⟩,q,rfl⟩:=h;have g:=hr x;rw[h1]at g;have hle:=Env.uW HE id;obtain⟨w',g1,g2,g3⟩:=JH (E:={ w:=E.w,H:=E.H.set id .dead,loc:=E.loc.set id none,X:=E.X }) (ar.drop HE id fun o k=>by rw[d]at k; cases k; rfl) q (cC hle _ (hr a)) (J3 HE d g);have g1:(Instr.storeAt t (ρ a) (ρ x)).run P E.w=.ok () w':=g1;exact⟨w',by simp[execOp,g1],E.loc.set id none,E.X.r,by simp[rel],g2,hle.trans g3⟩
def Yields(P:Program)(pf:FuncId→Bool)(ops:Array Oper)(o:Oper)(s:St)(v:AV)(H':List af):Prop :=
 match bT ops s.fr o with
 |none=>False
 |some false=>v=.tuple []∧H'=s.H
 | some true=>match cW pf o.op with
  |.pure=>H'=s.H∧(gU P s.eval o.op=some v∨∃ f args,eU s.eval o.op=some (f,args)∧dE P f=true∧cV P f args v)
  |.read=>H'=s.H∧eV P s.eval s.H o.op=some v
  |.write=>(eH P s.eval s.H o.op=some (v,H')∨∃ f args,eU s.eval o.op=some (f,args)∧dE P f=true∧cg P f args s.H v H')∨((∃ t id m,o.op=.alloc t∧oJ P t id m s.H=some (v,H'))∨sN P s.eval s.H v H' o.op)
def je(fr:List AV)(dst:Option Tmp)(v:AV):List AV :=
 match dst with
 |some d=>fr.set d v
 |none=>fr
def St.put(s:St)(dst:Option Tmp)(v:AV)(H':List af):St:=⟨je s.fr dst v,H'⟩
theorem vo{E:Env}:∀{as:List AV} {vs:List Value} {a:AV} {v:Value} (d:Nat),ad E as vs→rel E a v→ad E (as.set d a) (vs.set d v)
 | [],[],_,_,_,_,_=>by simp[ad]
 | [],_::_,_,_,_,h,_=>by simp[ad]at h
 |_::_,[],_,_,_,h,_=>by simp[ad]at h
 |_::as,_::vs,a,v,0,h,g=>by simp only[ad]at h; simp only[List.set_cons_zero,ad]; exact⟨g,h.2⟩
 |_::as,_::vs,a,v,d+1,h,g=>by simp only[ad]at h; simp only[List.set_cons_succ,ad]; exact⟨h.1,vo d h.2 g⟩
theorem Dt{E E':Env}{s:St}{a:Act}(h:ad E s.fr a.tmps.toList)(hle:E.le E')(dst:Option Tmp){v:AV}{u:Value}(g:rel E' v u) :
  ad E' (je s.fr dst v) (a.put dst u).tmps.toList:=by
 have h':=eM hle _ h;cases dst with
 |none=>exact h'
 | some d =>
  simp only[je,Act.put,Array.toList_setIfInBounds];exact vo d h' g
def fz(r:Option Nat):Fence:={ Fence.wide with round:=r }
theorem Du{r:Option Nat}{n:Nat}{P:Program}{f:FuncId}{args:Array Value}{w:World}{R:Ending→World→Prop}(h:Calls P f args w R):CallsIn (fz r) n P f args w R:=(callsIn_wide (n:=n)).2 h
theorem put_defers(a:Act)(dst:Option Tmp)(v:Value):(a.put dst v).defers=a.defers:=by cases dst<;>rfl
theorem J4{ops:Array Oper}{s:St}{E:Env}{a:Act}(h:bj s E a){o:Oper}{b:Bool}(hw:bT ops s.fr o=some b) :
  yg o (yielded ops a.tmps)=b:=by
 unfold bT at hw;unfold yg;cases k:o.guard with
 |none=>rw[k]at hw; simpa using hw
 | some A =>
  obtain⟨j,want⟩:=A;rw[k]at hw;simp only[]at hw⊢;split at hw
  case h_2=>cases hw
  rename_i t q;split at hw
  ·rename_i B g
   cases hw;obtain⟨u,g1,g2⟩:=np h.fr g;simp only[rel]at g2;subst g2;have d:a.tmps[t]? = some (.bool B):=by simpa using g1
   simp[yielded,q,d]
  ·rename_i g
   cases hw;obtain⟨u,g1,g2⟩:=np h.fr g;simp only[rel]at g2;obtain⟨cs,rfl,_⟩:=g2;have d:a.tmps[t]? = some (.tuple cs):=by simpa using g1
   simp[yielded,q,d]
  ·cases hw
def eW(E:Env)(s':St)(g:Act)(w':World):Prop :=
 ∃ d r',bj s' { w:=w',H:=s'.H,loc:=d,X:=E.X.re r' } g∧E.le { w:=w',H:=s'.H,loc:=d,X:=E.X.re r' }
theorem Dv{P:Program}{pf:FuncId→Bool}{ops:Array Oper}{s:St}{E:Env}{a:Act}(g:bj s E a){i:Nat}{o:Oper}(hi:ops[i]? = some o){v:AV}{H':List af}
  (d:Yields P pf ops o s v H') {K:Act→World→Prop} {Q:Exit→Act→World→Prop} (O:∀ J w',eW E (s.put o.dst v H') J w'→K J w') (ro:Option Nat):wpOpIn (fz ro) 0 P ops Q i K a E.w:=by
 have A:=g.eval;have hH:=g.H;have fin:∀{u:Value} {w':World},dh E v H' u w'→K (a.put o.dst u) w':=by
  rintro u w' ⟨N,r',h1,B,q⟩;exact O _ _ ⟨N,r',⟨rfl,Dt g.fr q o.dst h1,by rw[put_defers]; exact sr g.heap q g.defers,B⟩,q⟩
 have pure':H'=s.H→∀{u:Value} {w':World},gg E v u w'→dh E v H' u w':=by
  intro e u w' F;have:=F.toOp g.heap;rw[hH,←e]at this;exact this
 have I:(fz ro).depth.isSome=true→1≤0:=fun h=>by cases h
 unfold wpOpIn;simp only[hi];unfold Yields at d;split at d
 ·cases d
 ·rename_i hw
  rw[J4 g hw];simp only[Bool.false_eq_true,if_false];obtain⟨rfl,e⟩:=d;refine⟨fun _ _=>trivial,fin ?_⟩;rw[e,←hH];exact⟨E.loc,E.X.r,by simp only[rel]; exact⟨#[],rfl,by simp[ad]⟩,g.heap,Env.le.refl E⟩
 ·rename_i hw
  rw[J4 g hw];simp only[if_true];split at d
  ·obtain ⟨e, d⟩ := d
   rcases d with d|⟨f,args,h1,B,q⟩
   ·have k : ∀ c, o.op ≠ .defer c := fun c e => by rw [e] at d; cases d
    obtain⟨u,w',g1,g2⟩:=UO g.heap A d;unfold p9;rw[nc _ _ _ k,g1];exact⟨fun _ _=>trivial,fin (pure' e g2)⟩
   ·have k : ∀ c, o.op ≠ .defer c := fun c e => by rw [e] at h1; cases h1
    obtain⟨cargs,g1,g2⟩:=Ds A h1 B;unfold p9;rw[nc _ _ _ k,g1];refine⟨fun _ _=>trivial,I,Du ((q s.H E cargs hH g.heap g2).mono ?_)⟩;rintro _ w' ⟨c,R,H1,rfl,⟨rfl,rfl⟩,F⟩;exact fin (by rw[e]; exact F)
  ·obtain ⟨e, d⟩ := d
   rw[←hH]at d;have k:∀ c,o.op≠.defer c:=fun c e=>by rw[e]at d; cases d
   obtain⟨u,g1,g2⟩:=UT g.heap A d;unfold p9;rw[nc _ _ _ k,g1];exact⟨fun _ _=>trivial,fin (pure' e (gg.same g2))⟩
  ·rcases d with (d | ⟨f, args, h1, B, q⟩) | ⟨t, id, m, M, d⟩ | d
   ·have k : ∀ c, o.op ≠ .defer c := fun c e => by rw [e] at d; cases d
    rw[←hH]at d;obtain⟨n,u,w',g1,g2,g3⟩:=UP g.heap A d;unfold p9;rw[nc _ _ _ k,g1];rcases g2 with rfl|⟨rfl,rfl⟩
    ·exact⟨fun _ _=>trivial,fin g3⟩
    ·exact⟨fun _ _=>trivial,fin g3⟩
   ·have k : ∀ c, o.op ≠ .defer c := fun c e => by rw [e] at h1; cases h1
    obtain⟨cargs,g1,g2⟩:=Ds A h1 B;unfold p9;rw[nc _ _ _ k,g1];refine⟨fun _ _=>trivial,I,Du ((q E cargs hH g.heap g2).mono ?_)⟩;rintro _ w' ⟨c,R,H1,rfl,⟨rfl,rfl⟩,F⟩;exact fin F
   ·rw [← hH] at d
    obtain⟨u,w',g1,g2⟩:=Ud g.heap d;unfold p9;obtain⟨dst,op,type,pos,after,guard⟩:=o;simp only[]at M;subst M;have g3:(execOp a.eval ⟨dst,.alloc t,type,pos,after,guard⟩).run P E.w=.ok (.value u) w':=mh g1;rw[nc _ _ _ (fun c e=>by cases e),g3];exact⟨fun _ _=>trivial,fin g2⟩
   ·have k : ∀ c, o.op ≠ .defer c := fun c e => by rw [e] at d; exact d
    rw[←hH]at d;obtain⟨w',g1,g2⟩:=UX g.heap A d;unfold p9;rw[nc _ _ _ k,g1];exact⟨fun _ _=>trivial,fin g2⟩
def eO(P:Program)(pf:FuncId→Bool)(ops:Array Oper):List Oper→St→St→Prop
 | [],s,s'=>s'=s
 |o::rest,s,s'=>∃ v H',Yields P pf ops o s v H'∧eO P pf ops rest (s.put o.dst v H') s'
theorem eW.after{E E':Env}{s':St}{d:Act}{w':World}(h:E.le E')(h':eW E' s' d w'):eW E s' d w':=by
 obtain⟨g,r',k,q⟩:=h';refine⟨g,r',?_,?_⟩
 ·rw[←XS.Jd h.X]; exact k
 ·rw[←XS.Jd h.X]; exact h.trans q
theorem eW.refl{s:St}{E:Env}{a:Act}(h:bj s E a):eW E s a E.w:=by
 obtain⟨w,H,loc,X⟩:=E;have:=h.H;simp only at this;subst this;exact⟨loc,X.r,h,Env.le.refl _⟩
theorem Dw{P:Program}{pf:FuncId→Bool}{ops:Array Oper}{Q:Exit→Act→World→Prop}:∀(l:List Oper) (k:Nat) (s s':St) (E:Env) (a:Act),
  l=ops.toList.drop k→eO P pf ops l s s'→bj s E a→(∀ d w',eW E s' d w'→Q .normal d w')→∀ ro:Option Nat,wpOpsIn (fz ro) 0 P ops Q (List.range' k l.length) a E.w
 | [],k,s,s',E,a,_,h,g,q,ro=>by
  simp only[eO]at h;subst h;exact q _ _ (eW.refl g)
 | o::l,k,s,s',E,a,A,h,g,q,ro=>by
  obtain⟨v,H',J,B⟩:=h;simp only[di,List.range'_succ];rw[wpOpsIn_cons];have hk:ops[k]? = some o:=by
   have:(ops.toList.drop k)[0]? = some o:=by rw[←A]; rfl
   simpa using this
  refine Dv g hk J (fun d w' hc=>?_) ro;obtain⟨F,r',h1,M⟩:=hc;refine Dw l (k+1) _ s' { w:=w',H:=H',loc:=F,X:=E.X.re r' } d ?_ B h1 (fun a2 N I=>q a2 N ?_) ro
  ·rw[←pZ,←A]; rfl
  ·exact eW.after M I
def waits(ops:Array Oper):Nat→Nat→Nat→Bool
 |0,_,_=>false
 | n+1,j,i=>match ops[j]? with
  |some o=>o.after.toList.any fun e=>IT .any e&&(e.on==i||waits ops n e.on i)
  |none=>false
def ep:Op→Bool
 |.alloc _=>true
 |_=>false
def nt(pf:FuncId→Bool)(x y:Oper):Bool :=
 match cW pf x.op,cW pf y.op with
 |.pure,_|_,.pure | .read,.read=>true
 |.read,.write=>ep y.op
 |_,_=>false
def sO(pf:FuncId→Bool)(ops:Array Oper):Bool :=
  aiv ops &&
  (fp ops.size).all fun j=>(match ops[j]? with
    | some d=>(d.after.toList.all fun e => !IT .any e||e.on<j) &&
      ((fp j).all fun i => match ops[i]? with
        |some g=>waits ops ops.size j i||(g.apart ops d&&d.apart ops g&&nt pf g d)
        |none=>true)
    |none=>true)
def sP(P:Program)(pf:FuncId→Bool)(ops:Array Oper)(i:Nat)(K:St→Prop)(s:St):Prop :=
 match ops[i]? with
 |none=>K s
 |some o=>∃ v H',Yields P pf ops o s v H'∧K (s.put o.dst v H')
def sQ(P:Program)(pf:FuncId→Bool)(ops:Array Oper)(s':St):Nat→Array Bool→St→Prop
 |0,listed,s=>kX .any ops listed=[]∧s=s'
 |fuel+1,listed,s=>(kX .any ops listed=[]→s=s')∧∀ i∈kX .any ops listed,sP P pf ops i (sQ P pf ops s' fuel (listed.setIfInBounds i true)) s
theorem yY{P:Program}{pf:FuncId→Bool}{ops:Array Oper}{s':St}{Q:Exit→Act→World→Prop}:∀(fuel:Nat) (listed:Array Bool) (s:St) (E:Env) (a:Act),
  bj s E a→sQ P pf ops s' fuel listed s→(∀ k w',eW E s' k w'→Q .normal k w')→∀ ro:Option Nat,wpAnyIn (fz ro) 0 P .any ops Q fuel listed a E.w
 |0,_,s,E,a,d,h,g,_=>⟨h.1,g _ _ (h.2▸eW.refl d)⟩
 | fuel+1,listed,s,E,a,d,h,g,ro=>by
  refine⟨fun h0=>g _ _ (h.1 h0▸eW.refl d),fun i hi=>?_⟩;have h1:=h.2 i hi;unfold sP at h1;cases q:ops[i]? with
  | none =>
   rw[q]at h1;unfold wpOpIn;simp only[q];exact yY fuel _ s E a d h1 g ro
  | some o =>
   rw[q]at h1;obtain⟨v,H',F,I⟩:=h1;refine Dv d q F (fun k w' hc=>?_) ro;obtain⟨A,r',g1,g2⟩:=hc;exact yY fuel _ _ { w:=w',H:=H',loc:=A,X:=E.X.re r' } k g1 I (fun a2 J B=>g a2 J (eW.after g2 B)) ro
theorem UY{ops:Array Oper}{o:Oper}{t:Tmp}(h:Operand.tmp t∈o.op.operands):t∈o.looksAt ops :=
 List.mem_append_left _ (List.mem_filterMap.2 ⟨.tmp t,by simpa using h,rfl⟩)
theorem UZ{fr:List AV}{d t:Nat}{v:AV}(h:d≠t):(fr.set d v).getD t .undef=fr.getD t .undef:=by
 simp[List.getD_eq_getElem?_getD,bH h]
theorem eval_put{ops:Array Oper}{s:St}{o:Oper}{dst:Option Tmp}{v:AV}{H':List af}(h:∀ d,dst=some d→d∉o.looksAt ops){x:Operand}(k:x∈o.op.operands) :
  (s.put dst v H').eval x=s.eval x:=by
 cases dst with
 |none=>cases x<;>rfl
 | some d =>
  cases x with
  | tmp t =>
   have g:d≠t:=fun e=>h d rfl (e▸UY k);simp only[St.eval,St.put,je];exact UZ g
  |_=>rfl
theorem yZ{ops:Array Oper}{fr:List AV}{o:Oper}{dst:Option Tmp}{v:AV}(h:∀ d,dst=some d→d∉o.looksAt ops) :
  bT ops (je fr dst v) o=bT ops fr o:=by
 cases dst with
 |none=>rfl
 | some d =>
  unfold bT;cases q:o.guard with
  |none=>rfl
  | some A =>
   obtain⟨g,want⟩:=A;simp only[];cases B:(ops[g]?).bind (·.dst)with
   |none=>rfl
   | some t =>
    have k:d≠t:=fun e=>h d rfl (by subst e; simp[Oper.looksAt,q,B]);simp only[je,bH k]
theorem U0(fr:List AV){x y:Option Tmp}(v u:AV)(h:∀ d,x=some d→y≠some d):je (je fr x v) y u=je (je fr y u) x v:=by
 cases x with
 |none=>rfl
 | some d =>
  cases y with
  |none=>rfl
  | some e =>
   have g:d≠e:=fun he=>h d rfl (he▸rfl);simp only[je];rw[Ti _ _ g]
theorem J5{P:Program}{r r':Operand→AV}(o:Op)(h:∀ x∈o.operands,r x=r' x):gU P r o=gU P r' o:=by
 cases o<;>simp only[gU]<;>simp only[f_]at h
 case build t ps =>
  have:(ps.toList.map fun p=>(p.1,r p.2))=ps.toList.map fun p=>(p.1,r' p.2):=om fun p d=>by
   rw[h p.2 (by simp; exact⟨p.1,by simpa using d⟩)]
  rw[this]
 case buildSlice t n ps =>
  have:(ps.toList.map fun p=>(p.1,r p.2))=ps.toList.map fun p=>(p.1,r' p.2):=om fun p d=>by
   rw[h p.2 (by simp; exact⟨p.1,by simpa using d⟩)]
  rw[this]
 case makeFunc fn first captured =>
  unfold Dl;cases fn<;>try rfl
  have:(captured.toList.map r)=captured.toList.map r':=om fun x g=>h x (by simp; right; simpa using g);simp only[this]
 case call c =>
  obtain⟨callee,args,argTypes⟩:=c;unfold Dm;cases callee<;>try rfl
  have:(args.toList.map r)=args.toList.map r':=om fun x g=>h x (by simp[uQ]; simpa using g);simp only[this]
 case slice t x lo hi mx=>cases lo<;>cases hi<;>cases mx<;>simp_all
 all_goals (first|rfl|(simp_all; done))
theorem J6{P:Program}{r r':Operand→AV}{H:List af}(o:Op)(h:∀ x∈o.operands,r x=r' x):eV P r H o=eV P r' H o:=by
 cases o<;>simp only[eV]<;>simp only[f_]at h
 case call c =>
  obtain⟨callee,args,argTypes⟩:=c;unfold oO;cases callee<;>try rfl
  split
  ·rename_i a t hc d g
   have hm:a∈args:=by
    have:a∈args.toList:=by rw[show args.toList=[a] from d]; simp
    simpa using this
   have:r a=r' a:=h a (by simp[uQ]; simpa using hm);simp only[this,hc,d,g]
  ·rfl
 all_goals (first|rfl|(simp_all; done))
theorem U1{P:Program}{r r':Operand→AV}{H:List af}(o:Op)(h:∀ x∈o.operands,r x=r' x):eH P r H o=eH P r' H o:=by
  cases o<;>simp only[eH]<;>simp only[f_]at h
  case buildSlice t n ps =>
    have:(ps.toList.map fun p=>(p.1,r p.2))=ps.toList.map fun p=>(p.1,r' p.2):=om fun p A=>by
      rw[h p.2 (by simp; exact⟨p.1,by simpa using A⟩)]
    rw[this]
  case call c =>
    obtain⟨callee,args,argTypes⟩:=c;unfold yX;cases callee<;>try rfl
    rename_i b;have g:∀ x,x∈args.toList→r x=r' x:=fun x B=>h x (by simp[uQ]; simpa using B);cases b<;>try rfl
    all_goals simp only[]
    all_goals split
    all_goals first
      |rfl
      | (rename_i s x t xt d q
         rw[g s (by rw[d]; simp),g x (by rw[d]; simp)])
      | (rename_i x t d q
         rw[g x (by rw[d]; simp)])
      | (rename_i x k t F d q
         rw[g x (by rw[d]; simp),g k (by rw[d]; simp)])
  case makeMap t res=>cases res<;>rfl
  case lookup t m k ok =>
    cases ok with
    |true=>rfl
    |false=>simp only[h m (by simp),h k (by simp)]
  case mapEntry t m k=>simp only[h m (by simp),h k (by simp)]
  case entryStore t m s x=>simp only[h m (by simp),h s (by simp),h x (by simp)]
  all_goals (first|rfl|(simp_all; done))
theorem J7{r r':Operand→AV}(o:Op)(h:∀ x∈o.operands,r x=r' x):eU r o=eU r' o:=by
 cases o<;>simp only[eU]<;>simp only[f_]at h
 rename_i c;obtain⟨callee,args,argTypes⟩:=c;unfold Dq;cases callee<;>try rfl
 rename_i g;have d:r g=r' g:=h g (by simp[uQ]);have k:(args.toList.map r)=args.toList.map r':=om fun x q=>h x (by simp[uQ]; right; simpa using q);simp only[d,k]
end Go.AL

namespace Go.AL
open Go
variable [Dr]
variable {P:Program} {pf:FuncId→Bool} {ops:Array Oper}
theorem fG{o:Oper}{s s1:St}{v:AV}{H':List af}(hw:bT ops s1.fr o=bT ops s.fr o)(hr:∀ x∈o.op.operands,s1.eval x=s.eval x)(hH:s1.H=s.H) :
  Yields P pf ops o s1 v H'↔Yields P pf ops o s v H':=by
 unfold Yields;rw[hw,hH,J5 o.op hr,J6 o.op hr,U1 o.op hr,J7 o.op hr,UW o.op hr]
theorem vp{o:Oper}{s:St}{v:AV}{H':List af}(hc:cW pf o.op=.pure)(h:Yields P pf ops o s v H'):H'=s.H∧∀ d,Yields P pf ops o ⟨s.fr,d⟩ v d:=by
 have key:∀ d:List af,∀ x∈o.op.operands,St.eval ⟨s.fr,d⟩ x=s.eval x:=fun d x _=>by cases x<;>rfl
 unfold Yields at h;cases hw:bT ops s.fr o with
 |none=>rw[hw]at h; exact h.elim
 | some b =>
  rw[hw]at h;cases b with
  | false =>
   refine⟨h.2,fun d=>?_⟩;unfold Yields;rw[show bT ops (St.mk s.fr d).fr o=some false from hw];exact⟨h.1,rfl⟩
  | true =>
   simp only[hc]at h;refine⟨h.1,fun d=>?_⟩;unfold Yields;rw[show bT ops (St.mk s.fr d).fr o=some true from hw];simp only[hc];refine⟨trivial,?_⟩;rw[J5 o.op (key d),J7 o.op (key d)];exact h.2
theorem qo{o:Oper}{s:St}{v:AV}{H':List af}(hc:cW pf o.op=.read)(h:Yields P pf ops o s v H'):H'=s.H:=by
 unfold Yields at h;simp only[hc]at h;split at h
 ·cases h
 ·exact h.2
 ·exact h.1
theorem U2{r:Operand→AV}{H:List af}{x:af}{v:AV}:∀{op:Op},eV P r H op=some v→eV P r (H++[x]) op=some v:=by
 have get:∀{i:Nat} {y:af},H[i]? = some y→(H++[x])[i]? = some y:=by
  intro i y h;rw[List.getElem?_append_left (List.getElem?_eq_some_iff.1 h).1];exact h
 intro op h;cases op<;>simp only[eV]at h⊢<;>try cases h
 case load t a =>
  unfold fN at h⊢;split at h
  ·rename_i n agg g
   split at h
   ·exact h
   ·rename_i id ae w row col q
    cases hi:H[id]? with
    |none=>rw[hi]at h; cases h
    |some y=>rw[hi]at h; rw[get hi]; exact h
   ·cases h
  ·cases h
 case lookup t m k ok =>
  unfold ln at h⊢;split at h
  ·rename_i A B id hm d
   cases hi:H[id]? with
   |none=>rw[hi]at h; cases h
   |some y=>rw[hi]at h; rw[get hi]; exact h
  ·cases h
 case call c =>
  unfold oO at h⊢;split at h
  ·split at h
   ·rename_i id _ _
    cases hi:H[id]? with
    |none=>rw[hi]at h; cases h
    |some y=>rw[hi]at h; rw[get hi]; exact h
   ·cases h
  ·cases h
theorem U3{r:Operand→AV}{H:List af}{id k:Nat}{x:af}{v:AV}(hid:H[id]? = some (.vec k 0 [])):∀{op:Op},eV P r H op=some v→eV P r (H.set id x) op=some v:=by
 have get:∀{i:Nat},i≠id→(H.set id x)[i]? = H[i]? := fun h=>bH (Ne.symm h);intro op h;cases op<;>simp only[eV]at h⊢<;>try cases h
 case load t a =>
  unfold fN at h⊢;split at h
  ·rename_i n agg g
   split at h
   ·exact h
   ·rename_i i ae w row col q
    by_cases e:i=id
    ·subst e
     rw[hid]at h;simp at h
    ·rw [get e]
     exact h
   ·cases h
  ·cases h
 case lookup t m k ok =>
  unfold ln at h⊢;split at h
  ·rename_i A B i hm d
   by_cases e:i=id
   ·subst e
    rw[hid]at h;simp at h
   ·rw [get e]
    exact h
  ·cases h
 case call c =>
  unfold oO at h⊢;split at h
  ·split at h
   ·rename_i i _ _
    by_cases e:i=id
    ·subst e
     rw[hid]at h;simp at h
    ·rw [get e]
     exact h
   ·cases h
  ·cases h
theorem J8{P:Program}{t:TypeId}{id:Nat}{m:List (Option (List Kd))}{H H':List af}{v:AV}(h:oJ P t id m H=some (v,H')) :
  ∃ z k,eF P t=some z∧H[id]? = some (.vec k 0 [])∧k=z.length∧v=.ptr id 1 k 0 0∧H'=H.set id (.vec k 1 [dD m z]):=by
 unfold oJ at h;split at h
 ·rename_i z k d hid
  split at h
  ·rename_i hk
   cases h;exact⟨z,k,d,hid,hk,rfl,rfl⟩
  ·cases h
 ·cases h
theorem J9{P:Program}{t:TypeId}{id:Nat}{H:List af}{z:List Value}{k:Nat} (m:List (Option (List Kd))) (d:eF P t=some z) (hid:H[id]? = some (.vec k 0 [])) (hk:k=z.length) :
  oJ P t id m H=some (.ptr id 1 k 0 0,H.set id (.vec k 1 [dD m z])):=by
 unfold oJ;rw[d,hid];simp only[];rw[if_pos hk]
theorem J_{A q:Oper}{s:St}{v u:AV}{O d:List af}(h1:A.apart ops q=true)(_h2:q.apart ops A=true)(hc:nt pf A q=true)
  (hi:Yields P pf ops A s v O) (R:Yields P pf ops q (s.put A.dst v O) u d) :
  ∃ Hj1,Yields P pf ops q s u Hj1∧Yields P pf ops A (s.put q.dst u Hj1) v d:=by
 obtain⟨a1,a2,a3⟩:=IU h1;have U:bT ops (s.put A.dst v O).fr q=bT ops s.fr q:=yZ a1;have W:∀ F,bT ops (s.put q.dst u F).fr A=bT ops s.fr A:=fun F=>yZ a3;have Y:∀ x∈q.op.operands,(s.put A.dst v O).eval x=s.eval x:=fun x B=>eval_put a1 B;have ei:∀ F,∀ x∈A.op.operands,(s.put q.dst u F).eval x=s.eval x:=fun F x B=>eval_put a3 B;unfold nt at hc;split at hc
 ·-- A only computes
  rename_i J;obtain⟨I,g1⟩:=vp J hi;subst I;refine⟨d,(fG U Y rfl).1 R,?_⟩;exact(fG (s1:=s.put q.dst u d) (s:=⟨s.fr,d⟩) (W d) (fun x B=>by rw[ei d x B]; cases x<;>rfl) rfl).2 (g1 d)
 ·-- q only computes
  rename_i N _;obtain⟨I,g1⟩:=vp N R;have e1':d=O:=I;subst e1';refine⟨s.H,?_,?_⟩
  ·have := g1 s.H
   exact(fG (s1:=⟨(s.put A.dst v d).fr,s.H⟩) (s:=s) U (fun x B=>by
    have:=Y x B;cases x<;>exact this) rfl).1 this
  ·exact(fG (s1:=s.put q.dst u s.H) (s:=s) (W s.H) (ei s.H) rfl).2 hi
 ·rename_i J N
  have I:=qo J hi;subst I;have e2:=qo N R;have e2':d=s.H:=e2;subst e2';exact⟨s.H,(fG U Y rfl).1 R,(fG (s1:=s.put q.dst u s.H) (s:=s) (W s.H) (ei s.H) rfl).2 hi⟩
 ·rename_i J N
  have I:=qo J hi;subst I;have g:=(fG U Y rfl).1 R;refine⟨d,g,?_⟩;have hpush:d=s.H∨(∃ x,d=s.H++[x])∨∃ id k x,s.H[id]? = some (.vec k 0 [])∧d=s.H.set id x:=by
   unfold Yields at g;simp only[N]at g;split at g
   ·exact g.elim
   ·exact .inl g.2
   ·rcases g with (g | ⟨f, args, h1, _⟩) | ⟨t, id, m, M, hv⟩ | hst
    ·unfold ep at hc
     split at hc
     ·rename_i t M
      rw[M]at g;simp only[eH,qk]at g;split at g
      ·split at g
       ·cases g; exact .inr (.inl ⟨_,rfl⟩)
       ·cases g
      ·split at g
       ·cases g; exact .inr (.inl ⟨_,rfl⟩)
       ·cases g
     ·cases hc
    ·unfold ep at hc
     split at hc
     ·rename_i t M
      rw[M]at h1;cases h1
     ·cases hc
    ·obtain ⟨z, k, _, h2, _, _, h3⟩ := J8 hv
     exact .inr (.inr ⟨id,k,_,h2,h3⟩)
    ·unfold ep at hc
     split at hc
     ·rename_i t M
      rw[M]at hst;exact hst.elim
     ·cases hc
  refine(fG (s1:=s.put q.dst u d) (s:=⟨s.fr,d⟩) (W d) (fun x B=>by rw[ei d x B]; cases x<;>rfl) rfl).2 ?_;have key:∀ F:List af,St.eval ⟨s.fr,F⟩=s.eval:=fun F=>by funext x; cases x<;>rfl
  unfold Yields at hi⊢;simp only[J]at hi⊢;cases hw:bT ops s.fr A with
  |none=>rw[hw]at hi; exact hi.elim
  | some b =>
   rw[hw]at hi;cases b with
   |false=>exact⟨hi.1,by simp⟩
   | true =>
    refine⟨by simp,?_⟩;rw[key];rcases hpush with rfl|⟨x,rfl⟩|⟨id,k,x,hid,rfl⟩
    ·exact hi.2
    ·exact U2 hi.2
    ·exact U3 hid hi.2
 ·cases hc
def Dx(ops:Array Oper)(listed:Array Bool)(j:Nat):Prop :=
 ∀ o,ops[j]? = some o→∀ e∈o.after,IT .any e=true→listed.getD e.on false=true
def qp(ops:Array Oper)(listed:Array Bool):Prop:=∀ j,listed.getD j false=true→Dx ops listed j
theorem Dy{listed:Array Bool}(hc:qp ops listed):∀(n j i:Nat),Dx ops listed j→waits ops n j i=true→listed.getD i false=true
 |0,_,_,_,h=>by simp[waits]at h
 | n+1,j,i,k,h=>by
  unfold waits at h;split at h
  ·rename_i o q
   rw[jE]at h;obtain⟨e,he,d⟩:=h;simp only[aw,lW,beq_iff_eq]at d;have g:=k o q e (by simpa using he) d.1;rcases d.2 with rfl|hw
   ·exact g
   ·exact Dy hc n e.on i (hc _ g) hw
  ·cases h
theorem Dz{listed:Array Bool}{j:Nat}(h:j∈kX .any ops listed):Dx ops listed j:=by
 obtain⟨_,o,k,g⟩:=mem_ready.1 h;intro o' d;rw[k]at d;cases d;exact g
theorem y4{listed:Array Bool}(hc:qp ops listed){j:Nat}(A:j∈kX .any ops listed):qp ops (listed.setIfInBounds j true):=by
 intro k hk o g e he q;by_cases d:j=k
 ·subst d
  exact getD_set_true (Dz A o g e he q)
 ·have:listed.getD k false=true:=by
   have h:=hk;simp[Array.getElem?_setIfInBounds_ne d]at h;simpa using h
  exact getD_set_true (hc k this o g e he q)
theorem J'(s:St)(x y:Option Tmp)(v u:AV)(H1 g k:List af)(h:∀ d,x=some d→y≠some d):(s.put x v H1).put y u g=(s.put y u k).put x v g:=by
 simp only[St.put,U0 s.fr v u h]
theorem Ka{listed:Array Bool}{i:Nat}(h:i∈kX .any ops listed):listed.getD i false=false:=by
 obtain⟨h0,_⟩:=mem_ready.1 h;rcases jZ i listed.size with h'|h'
 ·simp[h']at h0⊢; exact h0
 ·simp[IV h']at h0
theorem U4{s':St}{i:Nat}{q:Oper}(hi:ops[i]? = some q):∀(fuel:Nat) (listed:Array Bool) (s:St) (v:AV) (H':List af),qp ops listed →
  (∀ j g,ops[j]? = some g→j≠i→listed.getD j true=false→waits ops ops.size j i=false→q.apart ops g=true∧g.apart ops q=true∧nt pf q g=true) →
  i∈kX .any ops listed→Yields P pf ops q s v H'→sQ P pf ops s' fuel (listed.setIfInBounds i true) (s.put q.dst v H')→sQ P pf ops s' (fuel+1) listed s:=by
 intro fuel
 induction fuel with
 | zero =>
  intro listed s v H' _ _ hr B H;refine⟨fun h=>(by rw[h]at hr; cases hr),fun j A=>?_⟩;by_cases d:j=i
  ·subst d
   unfold sP;simp only[hi];exact⟨v,H',B,H⟩
  ·have := ready_mono A d
   rw[H.1]at this;cases this
 | succ fuel ih =>
  intro listed s v H' M I hr B H;refine⟨fun h=>(by rw[h]at hr; cases hr),fun j A=>?_⟩;by_cases d:j=i
  ·subst d
   unfold sP;simp only[hi];exact⟨v,H',B,H⟩
  ·have h1 := H.2 j (ready_mono A d)
   obtain⟨J,g,N,hall⟩:=mem_ready.1 A;unfold sP at h1⊢;simp only[N]at h1⊢;obtain⟨u,U,hyj,Y⟩:=h1;have hnw:waits ops ops.size j i=false:=by
    cases hw:waits ops ops.size j i with
    |false=>rfl
    | true =>
     have:=Dy M _ _ _ (Dz A) hw;rw[Ka hr]at this;cases this
   obtain⟨W,a2,a3⟩:=I j g N d J hnw;obtain⟨F,q1,q2⟩:=J_ W a2 a3 B hyj;refine⟨u,F,q1,?_⟩;refine ih (listed.setIfInBounds j true) (s.put g.dst u F) v U (y4 M A) ?_ (ready_mono hr (Ne.symm d)) q2 ?_
   ·intro k ok hk hki O hno
    refine I k ok hk hki ?_ hno;by_cases R:j=k
    ·subst R; exact J
    ·rw[getD_set_ne true R]at O; exact O
   ·rw [aiw _ _ d]
    have:=J' s q.dst g.dst v u H' U F (IU W).2.1;rw[←this];exact Y
theorem Kb{s':St}(M:sO pf ops=true):∀(l:List Oper) (k:Nat) (listed:Array Bool) (s:St),l=ops.toList.drop k→qp ops listed→listed.size=ops.size →
  (∀ j,j<ops.size→(listed.getD j true=false↔k≤j))→eO P pf ops l s s'→sQ P pf ops s' l.length listed s
 | [],k,listed,s,A,_,I,hk,h=>by
  simp only[eO]at h;refine⟨?_,h.symm⟩;apply aix.2;intro j d;obtain⟨h0,o,W,_⟩:=mem_ready.1 d;have q:j<ops.size:=(eP.1 W).1;have:=(hk j q).1 h0;have hlen:(ops.toList.drop k).length=0:=by rw[←A]; rfl
  simp at hlen;omega
 | o::l,k,listed,s,A,J,I,hk,h=>by
  obtain⟨v,H',Y,O⟩:=h;have h0:ops[k]? = some o:=by
   have:(ops.toList.drop k)[0]? = some o:=by rw[←A]; rfl
   simpa using this
  have q:k<ops.size:=(eP.1 h0).1;simp only[sO,aw,dX,ja]at M;obtain⟨_,B⟩:=M;have N:∀ j,j<k→listed.getD j false=true:=by
   intro j d;have hn:¬ (listed.getD j true=false):=fun e=>by have:=(hk j (by omega)).1 e; omega
   have:j<listed.size:=by omega
   simp[this]at hn⊢;exact hn
  have F:k∈kX .any ops listed:=by
   refine mem_ready.2 ⟨(hk k q).2 (aI _),o,h0,fun e he hb=>?_⟩;have:=B k q;rw[h0]at this;simp only[aw,dX]at this;have h1:=this.1 e (by simpa using he);simp only[hb,aiy,jF,decide_eq_true_eq]at h1;exact N e.on h1
  refine U4 h0 l.length listed s v H' J ?_ F Y ?_
  ·intro j oj d hjk R U
   have g:j<ops.size:=(eP.1 d).1;have hkj:k≤j:=(hk j g).1 R;have:=B j g;rw[d]at this;simp only[aw,dX,ja]at this;have h1:=this.2 k (by omega);rw[h0]at h1;simp only[U,jF,aw]at h1;exact⟨h1.1.1,h1.1.2,h1.2⟩
  ·refine Kb (by simp only [sO, aw, dX, ja]; exact ⟨‹_›, B⟩) l (k + 1) _ _ ?_ (y4 J F) (by simpa using I) ?_ O
   ·rw[←pZ,←A]; rfl
   ·intro j g
    by_cases e:k=j
    ·subst e
     have:k<listed.size:=by omega
     simp[this]
    ·rw [getD_set_ne true e, hk j g]
     omega
theorem U5{id:Nat}{s s':St}{E:Env}{a:Act}{Q:Exit→Act→World→Prop}(hm:P.follows .mixedOrders=true)(A:sO pf ops=true)(d:bj s E a)
  (h:eO P pf ops ops.toList s s') (B:∀ g w',eW E s' g w'→Q .normal g w'):∀ ro:Option Nat,(Code.region id ops true).wpIn (fz ro) 0 P Q a E.w:=by
 intro ro;have q:bj s { E with w:={ E.w with drawn:=E.w.drawn+1 } } a:=⟨d.H,eM (Env.gd (Ext.drawn E.w _)) _ d.fr,sr d.heap (Env.gd (Ext.drawn E.w _)) d.defers,d.heap.ext (Ext.drawn E.w _)⟩
 refine wpIn_region_any hm (yY (pf:=pf) _ _ s { E with w:={ E.w with drawn:=E.w.drawn+1 } } a q ?_ (fun g w' hc=>B g w' (eW.after (Env.gd (Ext.drawn E.w _)) hc)) ro);have:=Kb (P:=P) (s':=s') A ops.toList 0 (lX ops.size false) s (by simp) (by
  intro j k;exfalso;rcases jZ j ops.size with h'|h'
  ·simp[h']at k
  ·simp[IV (xs:=lX ops.size false) (by simpa using h')]at k) (by simp) (by intro j k; simp[k]) h
 simpa using this
theorem Kc{id:Nat}{s s':St}{E:Env}{a:Act}{Q:Exit→Act→World→Prop}(g:bj s E a)
  (h:eO P pf ops ops.toList s s') (k:∀ d w',eW E s' d w'→Q .normal d w'):∀ ro:Option Nat,(Code.region id ops false).wpIn (fz ro) 0 P Q a E.w:=by
 intro ro;refine wpIn_region ?_;have:=Dw (Q:=Q) ops.toList 0 s s' E a (by simp) h g k ro;rw[List.range_eq_range'];simpa using this
end Go.AL

namespace Go.AL
open Go
variable [Dr]
inductive bk where
 |normal
 |exit (id:Nat)
 |ret
 deriving DecidableEq
def bk.toExit:bk→Exit
 |.normal=>.normal
 |.exit id=>.exit id
 |.ret=>.ret
structure Env.dx (m:Nat) (E E':Env):Prop where
 past:∀ id,id<m→E.past id 0→E'.past id 0
 size:E.w.heap.size≤E'.w.heap.size
 same:∀ b,b<E.w.heap.size→¬ E.own b→E'.w.heap[b]? = E.w.heap[b]?
 own:∀ b,b<E.w.heap.size→¬ E.own b→¬ E'.own b
 live:∀ id,id<m→E.past id 0→E'.live id 0→E.live id 0∧E'.loc[id]? = E.loc[id]?
 X:∀ b,b<E.w.heap.size→(E'.X b↔E.X b)∧(E'.X.z b↔E.X.z b)
 rl:∀ l h,h<(E.X.r l).length→h<(E'.X.r l).length∧∀ q,(E'.X.r l)[h]? = some (some q)→(E.X.r l)[h]? = some (some q)
 env:dq E.w E'.w
theorem Env.le.toM{m:Nat}{E E':Env}(h:E.le E'):E.dx m E':=⟨fun id _ d=>h.past id 0 d,h.size,h.same,h.own,fun id _ d g=>h.live id 0 d g,fun b _=>by rw[show E'.X.x=E.X.x from h.X.1,show E'.X.z=E.X.z from h.X.2]; exact⟨Iff.rfl,Iff.rfl⟩,h.rl,h.env⟩
def y5(H:List af):Prop:=∀ o∈H,o.aH = some 0
theorem Env.dx.full{m:Nat}{E E':Env}(h:E.dx m E')(k:E'.X.x=E.X.x∧E'.X.z=E.X.z)(hm:E.H.length≤m)(q:y5 E.H):E.le E':=by
 have key:∀ id ae,E.past id ae→id<m∧ae=0:=by
  rintro id ae ⟨o,g,A⟩;have h1:=aJ g;have F:=A 0 (q o (List.mem_of_getElem? g));exact⟨by omega,by omega⟩
 refine⟨fun id ae d=>?_,h.size,h.same,h.own,fun id ae d B=>?_,k,h.rl,h.env⟩
 ·obtain ⟨h1, rfl⟩ := key id ae d
  exact h.past id h1 d
 ·obtain ⟨h1, rfl⟩ := key id ae d
  exact h.live id h1 d B
theorem Env.dx.trans{m:Nat}{E E' B:Env}(h:E.dx m E')(h':E'.dx m B):E.dx m B where
 past:=fun id hi I=>h'.past id hi (h.past id hi I)
 size:=Nat.le_trans h.size h'.size
 same:=fun b d g=>by rw[h'.same b (dN d h.size) (h.own b d g),h.same b d g]
 own:=fun b d g=>h'.own b (dN d h.size) (h.own b d g)
 live:=fun id hi hid J=>by
  obtain⟨k,a2⟩:=h'.live id hi (h.past id hi hid) J;obtain⟨b1,A⟩:=h.live id hi hid k;exact⟨b1,by rw[a2,A]⟩
 X:=fun b d=>by
  have h1:=h'.X b (dN d h.size);have F:=h.X b d;exact⟨h1.1.trans F.1,h1.2.trans F.2⟩
 rl:=fun l i hi=>by
  obtain⟨k,a2⟩:=h.rl l i hi;obtain⟨b1,A⟩:=h'.rl l i k;exact⟨b1,fun q M=>a2 q (A q M)⟩
 env:=h.env.trans h'.env
def dt(m:Nat)(E:Env)(s':St)(g:Act)(w':World):Prop :=
 ∃ d X',bj s' { w:=w',H:=s'.H,loc:=d,X:=X' } g∧E.dx m { w:=w',H:=s'.H,loc:=d,X:=X' }
theorem eW.toM{m:Nat}{E:Env}{s':St}{a:Act}{w:World}(h:eW E s' a w):dt m E s' a w:=let ⟨loc,r,h1,d⟩:=h; ⟨loc,E.X.re r,h1,d.toM⟩
theorem dt.after{m:Nat}{E E':Env}{s':St}{d:Act}{w':World}(h:E.dx m E')(h':dt m E' s' d w'):dt m E s' d w':=by
 obtain⟨g,X',h1,k⟩:=h';exact⟨g,X',h1,h.trans k⟩
theorem dt.refl{m:Nat}{s:St}{E:Env}{a:Act}(h:bj s E a):dt m E s a E.w:=(eW.refl h).toM
def d_:Code→Bool
 |.seq a b=>d_ a&&d_ b
 |.cond _ a b=>d_ a&&d_ b
 |.block _ c=>d_ c
 |.loop c=>d_ c
 |.scope c=>d_ c
 |.rangeFunc ..=>false
 |_=>true
def fg(ro:Option Nat)(c:Code):Prop:=ro=none∨d_ c=true
theorem fg.seq1{ro:Option Nat}{a b:Code}(h:fg ro (.seq a b)):fg ro a:=h.imp id fun h=>by
 have h:(d_ a&&d_ b)=true:=h;exact(aw _ _▸h).1
theorem fg.y6{ro:Option Nat}{a b:Code}(h:fg ro (.seq a b)):fg ro b:=h.imp id fun h=>by
 have h:(d_ a&&d_ b)=true:=h;exact(aw _ _▸h).2
theorem fg.cond{ro:Option Nat}{o:Operand}{a b:Code}(t:Bool)(h:fg ro (.cond o a b)):fg ro (if t then a else b):=h.imp id fun h=>by
 have h:(d_ a&&d_ b)=true:=h;cases t
 ·exact(aw _ _▸h).2
 ·exact(aw _ _▸h).1
theorem fg.block{ro:Option Nat}{i:Nat}{a:Code}(h:fg ro (.block i a)):fg ro a:=h
theorem fg.loop{ro:Option Nat}{a:Code}(h:fg ro (.loop a)):fg ro a:=h
theorem y7(c:Code):fg none c:=.inl rfl
def bU(P:Program)(m:Nat)(c:Code)(s:St)(x:bk)(s':St):Prop :=
 ∀(ro:Option Nat),fg ro c→∀(E:Env) (a:Act),bj s E a→c.wpIn (fz ro) 0 P (fun e d g=>e=x.toExit∧dt m E s' d g) a E.w
def bL(m:Nat)(s s':St):Prop:=∀(E:Env) (a:Act),bj s E a→dt m E s' a E.w
theorem bL.refl{m:Nat}(s:St):bL m s s:=fun _ _ h=>dt.refl h
theorem bL.trans{m:Nat}{s s1 s2:St}(h:bL m s s1)(h':bL m s1 s2):bL m s s2:=fun E a d=>by
 obtain⟨loc,X,h1,g⟩:=h E a d;exact dt.after g (h' _ a h1)
theorem dt.weaken{m:Nat}{E:Env}{s s':St}{a:Act}{w:World}(h:dt m E s a w)(hle:bL m s s'):dt m E s' a w:=by
 obtain⟨loc,X,h1,d⟩:=h;exact dt.after d (hle _ a h1)
section rules
variable {P:Program} {m:Nat} {s s' s1:St} {x:bk}
theorem sR{c:Code}(hle:bL m s s1)(h:bU P m c s1 x s'):bU P m c s x s':=fun ro d E a g=>by
 obtain⟨loc,X,h1,k⟩:=hle E a g;exact wpIn_mono (h ro d { w:=E.w,H:=s1.H,loc:=loc,X:=X } a h1) fun e B F ⟨q,A⟩=>⟨q,dt.after k A⟩
theorem qs{c:Code}(h:bU P m c s x s1)(hle:bL m s1 s'):bU P m c s x s':=fun ro d E a g =>
 wpIn_mono (h ro d E a g) fun _ _ _ ⟨k,q⟩=>⟨k,q.weaken hle⟩
theorem U6:bU P m .skip s .normal s:=fun _ _ _ _ d=>wpIn_skip ⟨rfl,dt.refl d⟩
theorem U7:bU P m .ret s .ret s:=fun _ _ _ _ d=>wpIn_ret ⟨rfl,dt.refl d⟩
theorem U8{id:Nat}:bU P m (.exit id) s (.exit id) s:=fun _ _ _ _ d=>wpIn_exit ⟨rfl,dt.refl d⟩
theorem U9{pf:FuncId→Bool}{id:Nat}{ops:Array Oper}{draw:Bool}(hm:P.follows .mixedOrders=true)(g:draw=true→sO pf ops=true)(h:eO P pf ops ops.toList s s') :
  bU P m (.region id ops draw) s .normal s':=fun ro q E a d=>by
 cases draw with
 |false=>exact Kc d h (fun k w' hc=>⟨rfl,hc.toM⟩) ro
 |true=>exact U5 hm (g rfl) d h (fun k w' hc=>⟨rfl,hc.toM⟩) ro
theorem sS{c d:Code}(h:bU P m c s .normal s1)(h':bU P m d s1 x s'):bU P m (.seq c d) s x s':=fun ro g E a k =>
 wpIn_seq (wpIn_mono (h ro g.seq1 E a k) fun e q N ⟨A,B⟩=>by
  subst A;obtain⟨loc,X,F,I⟩:=B;exact wpIn_mono (h' ro g.y6 _ q F) fun _ _ _ ⟨J,M⟩=>⟨J,dt.after I M⟩)
theorem Ke{c d:Code}(h:bU P m c s x s')(k:x≠.normal):bU P m (.seq c d) s x s':=fun ro q E a A =>
 wpIn_seq (wpIn_mono (h ro q.seq1 E a A) fun e F I ⟨B,g⟩=>by
  subst B;cases x with
  |normal=>exact(k rfl).elim
  |exit id=>exact⟨rfl,g⟩
  |ret=>exact⟨rfl,g⟩)
theorem Kf{o:Operand}{c d:Code}{b:Bool}(k:s.eval o=.lit (.bool b))(h:bU P m (if b then c else d) s x s'):bU P m (.cond o c d) s x s':=fun ro q E a g=>by
 have:=g.eval o;rw[k]at this;simp only[rel]at this;exact wpIn_cond this (h ro (q.cond b) E a g)
def bk.inBlock(id:Nat):bk→bk
 |.exit i=>if i=id then .normal else .exit i
 |x=>x
theorem DA{id:Nat}{c:Code}(h:bU P m c s x s'):bU P m (.block id c) s (x.inBlock id) s':=fun ro g E a k =>
 wpIn_block (wpIn_mono (h ro g E a k) fun e A B ⟨q,d⟩=>by
  subst q;cases x with
  |normal=>exact⟨rfl,d⟩
  | exit i =>
   simp only[bk.toExit,Exit.inBlock,bk.inBlock];split
   ·exact⟨rfl,d⟩
   ·exact⟨rfl,d⟩
  |ret=>exact⟨rfl,d⟩)
def sT(P:Program)(m:Nat)(c:Code):Nat→St→bk→St→Prop
 |0,s,x,s'=>x≠.normal∧bU P m c s x s'
 |n+1,s,x,s'=>∃ s1,bU P m c s .normal s1∧sT P m c n s1 x s'
def kn(P:Program)(m:Nat)(c:Code)(s:St)(x:bk)(s':St):Prop:=∃ n,sT P m c n s x s'
theorem kn.stop{c:Code}(h:bU P m c s x s')(d:x≠.normal):kn P m c s x s':=⟨0,d,h⟩
theorem kn.next{c:Code}(h:bU P m c s .normal s1)(h':kn P m c s1 x s'):kn P m c s x s':=let ⟨n,hn⟩:=h'; ⟨n+1,s1,h,hn⟩
theorem kn.pre{c:Code}(hle:bL m s s1)(h:kn P m c s1 x s'):kn P m c s x s':=by
 obtain⟨n,hn⟩:=h;cases n with
 |zero=>exact⟨0,hn.1,sR hle hn.2⟩
 | succ n =>
  obtain⟨s2,h1,d⟩:=hn;exact⟨n+1,s2,sR hle h1,d⟩
theorem Kg{c:Code}(h:kn P m c s x s'):bU P m (.loop c) s x s':=fun ro R E a hs b k cs O q hr=>by
 obtain⟨n,hn⟩:=h;have key:∀(n:Nat) (s1:St) (d:Env) (a:Act),bj s1 d a→E.dx m d→sT P m c n s1 x s' →
   ∃ e A w',(e=x.toExit∧dt m E s' A w')∧ArrivesIn (Machine.fenced P (fz ro)) P (lone (b.atR a (.code c::.inLoop c::k)) cs d.w) b k cs e A w':=by
  intro n
  induction n with
  | zero =>
   intro s1 d a J hle F;obtain⟨hx,I⟩:=F;obtain⟨e,M,U,⟨B,h4⟩,g⟩:=I ro R.loop d a J b (.inLoop c::k) cs O q hr;refine⟨e,M,U,⟨B,dt.after hle h4⟩,?_⟩;subst B;exact .pass (x:=.inLoop c) rfl (fun _ _=>.inl (by cases x<;>simp_all[bk.toExit])) g
  | succ n ih =>
   intro s1 d a J hle F;obtain⟨s2,I,W⟩:=F;obtain⟨e,M,U,⟨B,loc,X,h5,h6⟩,g⟩:=I ro R.loop d a J b (.inLoop c::k) cs O q hr;subst B;obtain⟨e2,a2,w2,N,Y⟩:=ih s2 _ M h5 (hle.trans h6) W;exact⟨e2,a2,w2,N,.of_steps (StepsIn.trans g (.one (fenced_calm q hr rfl) stepR_inLoop)) Y⟩
 obtain⟨e,A,w',N,g⟩:=key n s E a hs (Env.le.refl E).toM hn;exact⟨e,A,w',N,.of_steps (.one (fenced_calm q hr rfl) stepR_loop) g⟩
end rules
def y8(P:Program)(s:St):ResultVar→Option AV
 |.tmp t=>some (s.fr.getD t .undef)
 |.cell a t=>fN P t (s.fr.getD a .undef) s.H
def fP(P:Program)(s:St):List ResultVar→Option (List AV)
 | []=>some []
 | r::rs=>match y8 P s r,fP P s rs with
  |some v,some vs=>some (v::vs)
  |_,_=>none
def ct:List AV→AV
 | [v]=>v
 |vs=>.tuple vs
def DB(tmps:Array Value):ResultVar→Sem Value
 |.tmp t=>pure (tmps.getD t undef)
 |.cell a t=>do loadVar t (← asAddr (tmps.getD a undef))
theorem U_{P:Program}{s:St}{E:Env}{a:Act}(g:bj s E a){r:ResultVar}{v:AV}(h:y8 P s r=some v) :
  ∃ u,(DB a.tmps r).run P E.w=.ok u E.w∧rel E v u:=by
 cases r with
 | tmp t =>
  simp only[y8,aT]at h;subst h;exact⟨_,rfl,g.eval (.tmp t)⟩
 | cell x t =>
  simp only[y8]at h;rw[←g.H]at h;have d:=g.eval (.tmp x);simp only[St.eval,Act.eval]at d;obtain⟨u,g1,g2⟩:=Jl g.heap h d;refine⟨u,?_,g2⟩;have q:∃ b o,a.tmps.getD x undef=.pointer (some ⟨b,o,none⟩):=by
   unfold fN at h;split at h
   case h_2=>cases h
   split at h
   ·rename_i k
    rw[k]at d;simp only[rel]at d;obtain⟨_,b,o,e,_⟩:=d;exact⟨b,o,e⟩
   ·rename_i k
    rw[k]at d;simp only[rel]at d;obtain⟨⟨b,o,e⟩,_⟩:=d;exact⟨b,o,e⟩
   ·cases h
  obtain⟨b,o,e⟩:=q;show (do loadVar t (← asAddr (a.tmps.getD x undef)):Sem Value).run P E.w=.ok u E.w
  rw[e]at g1⊢;simpa[Instr.loadAt,Instr.sureAddr,asAddr]using g1
theorem vq{P:Program}{s:St}{E:Env}{a:Act}(d:bj s E a):∀(rs:List ResultVar) (vs:List AV),fP P s rs=some vs →
  ∃ us:List Value,(rs.mapM (DB a.tmps)).run P E.w=.ok us E.w∧ad E vs us
 | [],vs,h=>by simp[fP]at h; subst h; exact⟨[],rfl,by simp[ad]⟩
 | r::rs,vs,h=>by
  simp only[fP]at h;split at h
  case h_2=>cases h
  rename_i v g h1 k;cases h;obtain⟨u,g1,g2⟩:=U_ d h1;obtain⟨us,g3,g4⟩:=vq d rs g k;refine⟨u::us,?_,by simp only[ad]; exact⟨g2,g4⟩⟩;simp only[List.mapM_cons,cf];rw[g1];simp only[cB];rw[g3];rfl
theorem sU(fn:Func)(tmps:Array Value):results fn tmps=(do let vs ← fn.results.mapM (DB tmps); pure (if h:vs.size=1 then vs[0] else .tuple vs)):=by
 unfold results;congr 1
theorem U'{P:Program}{fn:Func}{s:St}{E:Env}{a:Act}(g:bj s E a){vs:List AV}(h:fP P s fn.results.toList=some vs) :
  ∃ u,(results fn a.tmps).run P E.w=.ok u E.w∧rel E (ct vs) u:=by
 obtain⟨us,g1,g2⟩:=vq g fn.results.toList vs h;refine⟨if h:us.toArray.size=1 then us.toArray[0] else .tuple us.toArray,?_,?_⟩
 ·rw [sU]
  simp only[cf];rw[Array.mapM_eq_mapM_toList,Sem.run_map,g1];rfl
 ·have d := fv g2
  cases us with
  | nil =>
   cases vs with
   |nil=>simp[ct,rel,ad]
   |cons _ _=>simp at d
  | cons u us =>
   cases us with
   | nil =>
    cases vs with
    |nil=>simp at d
    | cons v vs =>
     cases vs with
     |nil=>simp only[ad]at g2; simpa[ct]using g2.1
     |cons _ _=>simp at d
   | cons u2 us =>
    cases vs with
    |nil=>simp at d
    | cons v vs =>
     cases vs with
     |nil=>simp at d
     | cons v2 vs =>
      simp only[ct,rel];exact⟨(u::u2::us).toArray,by simp,g2⟩
def dY(args:List AV)(n:Nat):List AV:=args++cI (n-args.length) .undef
theorem qt{E:Env}:∀(vs:List Value),ad E (cI vs.length .undef) vs
 | []=>by simp[ad]
 |_::vs=>by simp only[di,List.replicate_succ,ad,rel]; exact⟨trivial,qt vs⟩
structure gh (E E':Env):Prop where
 H:E'.H=E.H
 loc:E'.loc=E.loc
 size:E.w.heap.size≤E'.w.heap.size
 same:∀ b,b<E.w.heap.size→¬ E.X b→¬ E'.X b∧E'.w.heap[b]? = E.w.heap[b]?
 X:∀ b,E'.X b→b<E'.w.heap.size
 r:E'.X.r=E.X.r
theorem gh.own{E E':Env}(h:gh E E')(b:Nat):E'.own b↔E.own b:=by unfold Env.own Env.sat; rw[h.loc,h.r]
theorem gh.toC{E E':Env}(h:gh E E'):E.bG E' :=
 ⟨fun b d=>⟨⟨dN d.1 h.size,fun g=>d.2.1 ((h.own b).1 g),(h.same b d.1 d.2.2).1⟩,(h.same b d.1 d.2.2).2⟩⟩
mutual
theorem sV{E E':Env}(h:gh E E'):∀(a:AV) {c:Value},rel E a c→rel E' a c
 |.undef,_,_=>by simp[rel]
 |.lit v,c,hr=>by simpa only[rel]using hr
 |.nils,c,hr=>by simpa only[rel]using hr
 |.list k rows,c,hr=>dI h.toC _ (by simp[AV.closed]) hr
 |.listF ks rows,c,hr=>dI h.toC _ (by simp[AV.closed]) hr
 | .agg cells,c,hr=>by
  simp only[rel]at hr⊢;obtain⟨cs,e,h1,d⟩:=hr;exact⟨cs,e,h1,ml h cells d⟩
 | .tuple cells,c,hr=>by
  simp only[rel]at hr⊢;obtain⟨cs,e,d⟩:=hr;exact⟨cs,e,ml h cells d⟩
 |.cptr cells,c,hr=>dI h.toC _ (by simp[AV.closed]) hr
 | .ptr id ae k row col,c,hr=>by
  simp only[rel,Env.past,Env.live,h.H,h.loc]at hr⊢;exact hr
 | .vec k id ae off n,c,hr=>by
  simp only[rel,Env.past,Env.live,h.H,h.loc]at hr⊢;exact hr
 | .map id,c,hr=>by
  simp only[rel,Env.past,Env.live,h.H,h.loc]at hr⊢;exact hr
 | .clo f caps,c,hr=>by
  simp only[rel]at hr⊢;obtain⟨cs,e,d⟩:=hr;exact⟨cs,e,ml h caps d⟩
 |.ifc,c,hr=>by simpa only[rel]using hr
 |.emptyS n,c,hr=>by simpa only[rel]using hr
theorem ml{E E':Env}(h:gh E E'):∀(as:List AV) {vs:List Value},ad E as vs→ad E' as vs
 | [],[],_=>by simp[ad]
 | [],_::_,hr=>by simp[ad]at hr
 |_::_,[],hr=>by simp[ad]at hr
 | a::as,v::vs,hr=>by
  simp only[ad]at hr⊢;exact⟨sV h a hr.1,ml h as hr.2⟩
end
theorem ar.cP{E E':Env}(H:ar E)(h:gh E E'):ar E' where
 fb:=H.fb.bG h.toC
 len:=by rw[h.loc,h.H]; exact H.len
 inj:=by rw[h.loc]; exact H.inj
 lt:=fun i b m hi=>by
  rw[h.loc]at hi;have:=H.lt i b m hi;exact⟨dN this.1 h.size,(h.same b this.1 this.2).1⟩
 X:=h.X
 obj:=fun i o hi=>by
  rw[h.H]at hi;exact k_ (fun a _ hr=>sV h a hr) (by rw[h.loc]) (fun b n d=>(h.same b (H.lt i b n d).1 (H.lt i b n d).2).2) (fun l _=>⟨by rw[h.r],fun k g m hk=>(h.same g (H.cD l k g m hk).1 (H.cD l k g m hk).2).2⟩) (H.obj i o hi)
 fc:=by rw[h.r]; exact H.fc
 dj:=by rw[h.r,h.loc]; exact H.dj
 cD:=fun l k b m hk=>by
  rw[h.r]at hk;have:=H.cD l k b m hk;exact⟨dN this.1 h.size,(h.same b this.1 this.2).1⟩
 uniq:=by rw[h.H]; exact H.uniq
 gT:=by rw[h.H,h.r]; exact H.gT
theorem bj.cP{s:St}{E E':Env}{a:Act}(d:bj s E a)(h:gh E E'){l:List Deferred}(hm:jc E'.w E'.X l):bj s E' { a with defers:=l } :=
 ⟨by rw[h.H]; exact d.H,ml h _ d.fr,hm,d.heap.cP h⟩
theorem Kh{P:Program}{fn:Func}{tmps:Array Value}{R:Ending→World→Prop}:∀(l:List Deferred) (w:World) (X:XS),jc w X l →
  (∀ w',w'.heap.size=w.heap.size→(∀ b,w'.heap[b]? ≠ w.heap[b]? → X b∧X.z b)→dq w w'→∃ v,(results fn tmps).run P w'=.ok v w'∧R (.returned v) w')→LeavesInM (fz none) 0 P fn tmps R l .returning w
 | [],w,X,_,h=>h w rfl (fun b g=>(g rfl).elim) (dq.refl w)
 | d::l,w,X,hm,h=>by
  obtain⟨D,e,h1,F,I⟩:=hm.2 d cZ;subst e;have O:D<w.heap.size:=(eP.1 h1).1;have k:∀ b,b≠D→(w.putObj D (.deferred none)).heap[b]? = w.heap[b]? := fun b g=>World.putObj_heap_other g;have B:(w.putObj D (.deferred none)).heap.size=w.heap.size:=by simp[World.putObj]
  refine⟨by simp,.inl ⟨D,_,rfl,run_takeDeferred h1,Kh l _ X ⟨(jG.1 hm.1).2,fun d' q=>?_⟩ fun w' g1 g2 g3=>h w' (by rw[g1,B]) (fun b g=>?_) (dq.trans ⟨rfl,rfl,rfl,by first|exact fun _=>aI _|exact fun _=>Nat.le_add_right _ _⟩ g3)⟩⟩
  ·obtain ⟨A, e', J, M, N⟩ := hm.2 d' (List.mem_cons_of_mem _ q)
   refine⟨A,e',?_,M,N⟩;rw[k A (fun e=>(jG.1 hm.1).1 (by rw[←e,←e']; exact q))];exact J
  ·by_cases e : b = D
   ·subst e
    exact⟨F,I⟩
   ·refine g2 b ?_
    rw[k b e];exact g
theorem y9{P:Program}{f:FuncId}{fn:Func}{c:Code}{args:Array Value}{w:World}{R:Ending→World→Prop}(k:P.funcs[f]? = some fn)(q:fn.body=some c)
  (h : c.wpIn (fz none) 0 P (fun e g d => (e = .normal ∨ e = .ret) ∧ ∃ X, jc d X g.defers ∧ ∀ w', w'.heap.size = d.heap.size → (∀ b, w'.heap[b]? ≠ d.heap[b]? → X b ∧ X.z b) → dq d w' → ∃ v, (results fn g.tmps).run P w' = .ok v w' ∧ R (.returned v) w')
   { tmps:=args++lX (fn.ntmps-args.size) undef,defers:=[] } w):Calls P f args w R:=by
 refine(callsIn_wide (n:=0)).1 (callsIn_of_wp_marks (F:=fz none) k q trivial (wpIn_mono h fun e g d A=>?_));obtain⟨he,X,h1,B⟩:=A;have:=Kh (P:=P) (fn:=fn) (tmps:=g.tmps) (R:=R) g.defers d X h1 B;rcases he with rfl|rfl
 ·exact this
 ·exact this
theorem y_{m:Nat}{E:Env}{s':St}{k:List (Option (Nat × Nat))}{X':XS}{A:Act}{d w':World}(HE:ar E)(J:bj s' { w:=d,H:=s'.H,loc:=k,X:=X' } A)
  (hle:({ E with X:=⟨E.X.x,fun _=>False,E.X.r⟩ }:Env).dx m { w:=d,H:=s'.H,loc:=k,X:=X' }) (h1:w'.heap.size=d.heap.size) (B:∀ b,w'.heap[b]? ≠ d.heap[b]? → X' b∧X'.z b) (M:dq d w') :
  bj s' { w:=w',H:=s'.H,loc:=k,X:=E.X.re X'.r } { A with defers:=[] }∧E.dx m { w:=w',H:=s'.H,loc:=k,X:=E.X.re X'.r }:=by
 have I:∀ b,b<E.w.heap.size→w'.heap[b]? = d.heap[b]? := fun b g=>uR fun q=>((hle.X b g).2.1 (B b q).2).elim;have O:E.w.heap.size≤d.heap.size:=hle.size;have cP:gh { w:=d,H:=s'.H,loc:=k,X:=X' } { w:=w',H:=s'.H,loc:=k,X:=E.X.re X'.r } :=
  ⟨rfl, rfl, by show d.heap.size ≤ w'.heap.size; omega, fun b g F => ⟨fun he => F ((hle.X b (HE.X b he)).1.2 he), uR fun q => F (B b q).1⟩, fun b g => by
   have:=HE.X b g;show b<w'.heap.size
   omega,rfl⟩
 refine⟨J.cP cP (lb _ _),⟨hle.past,by show E.w.heap.size≤w'.heap.size; omega,fun b g N=>?_,hle.own,hle.live,fun b _=>⟨Iff.rfl,Iff.rfl⟩,hle.rl,hle.env.trans M⟩⟩;show w'.heap[b]? = E.w.heap[b]?
 rw[I b g];exact hle.same b g N
theorem mn{E:Env}(HE:ar E):gh E { E with X:=⟨E.X.x,fun _=>False,E.X.r⟩ }:=⟨rfl,rfl,aI _,fun b _ d=>⟨d,rfl⟩,HE.X,rfl⟩
theorem Ki{P:Program}{f:FuncId}{fn:Func}{c:Code}{args:List AV}{H:List af}{x:bk}{s':St}{vs:List AV}
  (I:P.funcs[f]? = some fn) (J:fn.body=some c) (M:bU P H.length c ⟨dY args fn.ntmps,H⟩ x s') (N:x=.normal∨x=.ret) (hr:fP P s' fn.results.toList=some vs) (F:y5 H) :
  cg P f args H (ct vs) s'.H:=by
 intro E cargs hH HE k;refine y9 I J ?_;have q:=mn HE;have k:=ml q _ k;have A:bj ⟨dY args fn.ntmps,H⟩ { E with X:=⟨E.X.x,fun _=>False,E.X.r⟩ } { tmps:=cargs++lX (fn.ntmps-cargs.size) undef,defers:=[] }:=by
  refine⟨hH,?_,lb _ _,HE.cP q⟩;simp only[dY,r_,Array.toList_replicate];refine jd k ?_;have:=fv k;have e:args.length=cargs.size:=by simpa using this
  rw[e];have:=qt (E:={ E with X:=⟨E.X.x,fun _=>False,E.X.r⟩ }) (cI (fn.ntmps-cargs.size) undef);simpa using this
 refine wpIn_mono (M none (y7 _) { E with X:=⟨E.X.x,fun _=>False,E.X.r⟩ } _ A) fun e Y w1 ⟨O,B,X',d,g⟩=>?_;refine⟨by subst O; rcases N with rfl|rfl; exact .inl rfl; exact .inr rfl,X',d.defers,fun w' R U W=>?_⟩;obtain⟨d,g⟩:=y_ HE d g R U W;obtain⟨u,g1,g2⟩:=U' d hr;have g:=g.full ⟨rfl,rfl⟩ (by rw[hH]; exact aI _) (by rw[hH]; exact F);exact⟨u,g1,u,ct vs,s'.H,rfl,⟨rfl,rfl⟩,B,X'.r,g2,d.heap,g⟩
theorem Va{P:Program}{f:FuncId}{args:List AV}{v:AV}{H1:List af}(h:cg P f args [] v H1)(O:AV.bf args=true)(R:v.closed=true):cV P f args v:=by
 intro H E cargs hH HE J
 let E0:Env:={ w:=E.w,H:=[],loc:=[],X:=(E.X.or E.own).re dP }
 have B:∀ b,¬ E0.own b:=by rintro b (⟨id,c,hid⟩|⟨l,k,c,hk⟩); simp[E0]at hid; simp[E0,dP]at hk
 have hC:E.bG E0:=⟨fun b d=>⟨⟨d.1,B b,fun g=>g.elim d.2.2 d.2.1⟩,rfl⟩⟩
 have N:ar E0:=by
  refine⟨rfl,?_,?_,?_,?_,HE.fb.bG hC,fun l k l' k' b m n hk=>by simp[E0,dP]at hk,fun i b m l k n hi=>by simp[E0]at hi,fun l k b m hk=>by simp[E0,dP]at hk,fun i j o o' l hi=>by simp[E0]at hi,fun l _ k q hk=>by simp[E0,dP]at hk⟩
  ·intro i j b m n hi; simp[E0]at hi
  ·intro i b m hi; simp[E0]at hi
  ·rintro b (g | A)
   ·exact HE.X b g
   ·exact(HE.uU A).1
  ·intro i o hi; simp[E0]at hi
 refine(h E0 cargs rfl N (oB hC args O J)).mono ?_;rintro _ w' ⟨c,I,H',rfl,⟨rfl,rfl⟩,M,r',g1,g2,g3⟩;have F:Ext E.w w':=⟨g3.size,fun b d=>g3.same b d (B b),g3.env⟩
 refine⟨c,I,H,rfl,⟨rfl,rfl⟩,E.loc,E.X.r,?_,?_,?_⟩
 ·rw [← hH]
  exact dI (E:={ w:=w',H:=H',loc:=M,X:=E0.X.re r' }) (E':={ w:=w',H:=E.H,loc:=E.loc,X:=E.X })
   ⟨fun b d=>⟨⟨d.1,fun A=>d.2.2 (Or.inr A),fun g=>d.2.2 (Or.inl g)⟩,rfl⟩⟩ I R g1
 ·rw[←hH]; exact HE.ext F
 ·rw[←hH]; exact Env.gd F
end Go.AL

namespace Go.AL
open Go
variable [Dr]
variable {P:Program} {pf:FuncId→Bool} {ops:Array Oper}
def lq(r:Operand→AV):Op→Option Nat
 | .load _ a=>match r a with
  |.ptr id _ _ _ _=>some id
  |_=>none
 | .lookup _ m _ _=>match r m with
  |.map id=>some id
  |_=>none
 | .call c=>match c.args.toList with
  | [a]=>match r a with
   |.map id=>some id
   |_=>none
  |_=>none
 |_=>none
theorem Kj{r:Operand→AV}{H g:List af}:∀{op:Op},(∀ id,lq r op=some id→g[id]? = H[id]?)→eV P r g op=eV P r H op:=by
 intro op h;cases op<;>simp only[eV]
 case load t a =>
  simp only[lq]at h;unfold fN;cases d:r a with
  | ptr id ae w row col =>
   rw[d]at h;have:=h id rfl;simp only[this]
  |_=>rfl
 case lookup t m k ok =>
  simp only[lq]at h;unfold ln;cases fe P t with
  |none=>rfl
  | some p =>
   obtain⟨q,A⟩:=p;cases hm:r m with
   | map id =>
    rw[hm]at h;have:=h id rfl;simp only[this]
   |_=>rfl
 case call c =>
  simp only[lq]at h;unfold oO;split
  ·rename_i a t hc d B
   rw[d]at h;simp only[]at h;cases fe P t with
   |none=>rfl
   | some p =>
    cases hm:r a with
    | map id =>
     rw[hm]at h;have:=h id rfl;simp only[this]
    |_=>rfl
  ·rfl
theorem Kk{r r':Operand→AV}(o:Op)(h:∀ x∈o.operands,r x=r' x):lq r o=lq r' o:=by
 cases o<;>simp only[lq]
 case load t a =>
  simp only[f_]at h;rw[h a (by simp)]
 case lookup t m k ok =>
  simp only[f_]at h;rw[h m (by simp)]
 case call c =>
  split
  ·rename_i a d
   have:a∈(Op.call c).operands:=by
    show a∈c.operands
    have h1:a∈c.args:=by
     have:a∈c.args.toList:=by rw[d]; simp
     simpa using this
    simp[uQ,h1]
   rw[h a this]
  ·rfl
abbrev il:=List (Nat × List Nat × Nat)
abbrev jf:=List (Nat × Nat)
def kept(W:il)(j A:Nat):Prop:=∀ e∈W,e.1=j→A∉e.2.1∧A<e.2.2
def DC(ops:Array Oper):Bool :=
 (fp ops.size).any fun j => (fp j).any fun i => match ops[i]?, ops[j]? with
  |some x,some y=>ep x.op&&ep y.op && !waits ops ops.size j i
  |_,_=>false
def lr:Op→Bool
 | .call c=>match c.callee with
  |.value (.func _)=>true
  |_=>false
 |_=>false
def oP(ops:Array Oper):Bool :=
 (fp ops.size).any fun j => (fp j).any fun i => match ops[i]?, ops[j]? with
  |some x,some y=>lr x.op&&ep y.op && !waits ops ops.size j i
  |_,_=>false
def qu(ops:Array Oper):Bool:=DC ops||oP ops
theorem qv{pf:FuncId→Bool}{op:Op}(h:ep op=true):cW pf op=.write:=by
 unfold ep at h;split at h
 ·rfl
 ·cases h
theorem za{pf:FuncId→Bool}{op:Op}{X:Prop}(h:cW pf op≠.write):ep op=true→X:=fun d=>(h (qv d)).elim
theorem oQ{op:Op}(h:ep op=true):lr op=false:=by
 unfold ep at h;split at h
 ·rfl
 ·cases h
def nu(σ:List (Nat × af))(H:List af):List af:=σ.foldl (fun H p=>H.set p.1 p.2) H
def zb(W:il)(j:Nat)(H:List af)(σ:List (Nat × af)):Prop:=∀ p∈σ,kept W j p.1∧∃ k r,H[p.1]? = some (.vec k 0 [])∧p.2=.vec k 1 r
def Step(P:Program)(pf:FuncId→Bool)(ops:Array Oper)(R:jf)(W:il)(j:Nat)(o:Oper)(s:St)(v:AV)(H':List af):Prop :=
 (cW pf o.op = .write → ∀ A, kept W j A → H'[A]? = s.H[A]?) ∧ (cW pf o.op = .read → bT ops s.fr o = some true → ∀ id, lq s.eval o.op = some id → (j, id) ∈ R) ∧
  (ep o.op=true→qu ops=true→bT ops s.fr o=some true→H'.length=s.H.length∧∀ id,H'[id]? ≠ s.H[id]? → ∃ e∈W,e.1=j∧id∈e.2.1) ∧
  (lr o.op=true→oP ops=true→cW pf o.op=.write→bT ops s.fr o=some true→∀ σ,zb W j s.H σ→Yields P pf ops o ⟨s.fr,nu σ s.H⟩ v (nu σ H'))
def Kl(R:jf)(W:il)(i j:Nat):Prop:=∀ id,(i,id)∈R→kept W j id
def DD(pf:FuncId→Bool)(ops:Array Oper)(R:jf)(W:il)(i:Nat)(x:Oper)(j:Nat)(y:Oper):Prop :=
 nt pf x y=true∨(cW pf x.op=.read∧cW pf y.op=.write∧Kl R W i j)∨(cW pf x.op=.write∧cW pf y.op=.read∧Kl R W j i)∨(ep x.op=true∧ep y.op=true∧qu ops=true) ∨
  (cW pf x.op=.write∧lr x.op=true∧ep y.op=true∧oP ops=true∧∀ e∈W,e.1=j→∀ id∈e.2.1,kept W i id)
theorem DE{o:Oper}{s:St}{v:AV}{H':List af}(d:ep o.op=true)(h:Yields P pf ops o s v H')(q:bT ops s.fr o=some true→H'.length=s.H.length) :
  (bT ops s.fr o = some false ∧ v = .tuple [] ∧ H' = s.H) ∨
   (bT ops s.fr o=some true∧∃ t id z k m,o.op=.alloc t∧eF P t=some z∧s.H[id]? = some (.vec k 0 [])∧k=z.length∧v=.ptr id 1 k 0 0∧H'=s.H.set id (.vec k 1 [dD m z])):=by
 unfold Yields at h;cases hw:bT ops s.fr o with
 |none=>rw[hw]at h; exact h.elim
 | some b =>
  rw[hw]at h;cases b with
  |false=>exact .inl ⟨rfl,h.1,h.2⟩
  | true =>
   right;refine⟨rfl,?_⟩;simp only[qv d]at h;have q:=q hw;rcases h with(h|⟨f,args,h1,_⟩)|⟨t,id,m,g,B⟩|A
   ·unfold ep at d
    split at d
    ·rename_i t g
     rw[g]at h;simp only[eH,qk]at h;split at h
     ·split at h
      ·cases h
       simp at q
      ·cases h
     ·split at h
      ·cases h
       simp at q
      ·cases h
    ·cases d
   ·unfold ep at d
    split at d
    ·rename_i t g
     rw[g]at h1;cases h1
    ·cases d
   ·obtain ⟨z, k, h1, F, I, J, M⟩ := J8 B
    exact⟨t,id,z,k,m,g,h1,F,I,J,M⟩
   ·unfold ep at d
    split at d
    ·rename_i t g
     rw[g]at A;exact A.elim
    ·cases d
theorem DF{o:Oper}{s:St}{t:TypeId}{id k:Nat}{z:List Value}(hw:bT ops s.fr o=some true)(d:o.op=.alloc t)(g:eF P t=some z)(hid:s.H[id]? = some (.vec k 0 []))(hk:k=z.length) (m:List (Option (List Kd))) :
  Yields P pf ops o s (.ptr id 1 k 0 0) (s.H.set id (.vec k 1 [dD m z])):=by
 unfold Yields;rw[hw,d];exact .inr (.inl ⟨t,id,m,rfl,J9 m g hid hk⟩)
theorem Vb{R:jf}{W:il}{i j:Nat}{B d:Oper}{s:St}{v u:AV}{M g:List af}(h1:B.apart ops d=true)(h2:d.apart ops B=true)(hc:DD pf ops R W i B j d)
  (hi:Yields P pf ops B s v M) (si:Step P pf ops R W i B s v M) (hj:Yields P pf ops d (s.put B.dst v M) u g) (sj:Step P pf ops R W j d (s.put B.dst v M) u g) :
  ∃ Hj1,Yields P pf ops d s u Hj1∧Step P pf ops R W j d s u Hj1∧Yields P pf ops B (s.put d.dst u Hj1) v g∧Step P pf ops R W i B (s.put d.dst u Hj1) v g:=by
 obtain⟨a1,a2,a3⟩:=IU h1;have wj:bT ops (s.put B.dst v M).fr d=bT ops s.fr d:=yZ a1;have wi:∀ J,bT ops (s.put d.dst u J).fr B=bT ops s.fr B:=fun J=>yZ a3;have ej:∀ x∈d.op.operands,(s.put B.dst v M).eval x=s.eval x:=fun x hx=>eval_put a1 hx;have ei:∀ J,∀ x∈B.op.operands,(s.put d.dst u J).eval x=s.eval x:=fun J x hx=>eval_put a3 hx;have cj:=Kk d.op ej;have ci:=fun J=>Kk B.op (ei J);have evj:=J6 (P:=P) (H:=M) d.op ej;have readJ:cW pf d.op=.read→Step P pf ops R W j d s u s.H:=fun hr=>⟨fun hw=>(by rw[hr]at hw; cases hw),fun _ hw id hid=>sj.2.1 hr (by rw[wj]; exact hw) id (by rw[cj]; exact hid),za (by rw[hr]; simp),fun _ _ hw=>(by rw[hr]at hw; cases hw)⟩
 have readI:cW pf B.op=.read→∀ J H3,Step P pf ops R W i B (s.put d.dst u J) v H3:=fun hr J H3=>⟨fun hw=>(by rw[hr]at hw; cases hw),fun _ hw id hid=>si.2.1 hr (by rw[wi]at hw; exact hw) id (by rw[ci]at hid; exact hid),za (by rw[hr]; simp),fun _ _ hw=>(by rw[hr]at hw; cases hw)⟩
 have frj:∀{J H3:List af} {v':AV},Yields P pf ops d ⟨(s.put B.dst v M).fr,J⟩ v' H3→Yields P pf ops d ⟨s.fr,J⟩ v' H3:=fun {J _ _} h=>(fG (s1:=⟨(s.put B.dst v M).fr,J⟩) (s:=⟨s.fr,J⟩) wj (fun x hx=>by
  have:=ej x hx;cases x<;>exact this) rfl).1 h
 have fri:∀{H1 J H3:List af} {v':AV},Yields P pf ops B ⟨s.fr,J⟩ v' H3→Yields P pf ops B ⟨(s.put d.dst u H1).fr,J⟩ v' H3:=fun {H1 J _ _} h=>(fG (s1:=⟨(s.put d.dst u H1).fr,J⟩) (s:=⟨s.fr,J⟩) (wi H1) (fun x hx=>by
  have:=ei H1 x hx;cases x<;>exact this) rfl).2 h
 have toJ:M=s.H→Step P pf ops R W j d s u g:=by
  intro e;subst e;exact⟨fun hw A Y=>sj.1 hw A Y,fun hr hw id hid=>sj.2.1 hr (by rw[wj]; exact hw) id (by rw[cj]; exact hid),fun ha ht hw=>sj.2.2.1 ha ht (by rw[wj]; exact hw),
   fun N hca hw hwa σ hσ=>frj (sj.2.2.2 N hca hw (by rw[wj]; exact hwa) σ hσ)⟩
 have toI:g=M→Step P pf ops R W i B (s.put d.dst u s.H) v g:=by
  intro e;subst e;exact⟨fun hw A Y=>si.1 hw A Y,fun hr hw id hid=>si.2.1 hr (by rw[wi]at hw; exact hw) id (by rw[ci]at hid; exact hid),fun ha ht hw=>si.2.2.1 ha ht (by rw[wi]at hw; exact hw),
   fun N hca hw hwa σ hσ=>fri (si.2.2.2 N hca hw (by rw[wi]at hwa; exact hwa) σ hσ)⟩
 have old:nt pf B d=true→∃ Hj1,Yields P pf ops d s u Hj1∧Yields P pf ops B (s.put d.dst u Hj1) v g:=fun hc=>J_ h1 h2 hc hi hj;cases F:cW pf B.op with
 | pure =>
  obtain⟨e1,g1⟩:=vp F hi;subst e1;refine⟨g,(fG wj ej rfl).1 hj,toJ rfl,
   (fG (s1:=s.put d.dst u g) (s:=⟨s.fr,g⟩) (wi g) (fun x hx=>by rw[ei g x hx]; cases x<;>rfl) rfl).2 (g1 g),⟨fun hw=>(by rw[F]at hw; cases hw),fun hr=>(by rw[F]at hr; cases hr),za (by rw[F]; simp),fun _ _ hw=>(by rw[F]at hw; cases hw)⟩⟩
 | read =>
  have e1:=qo F hi;subst e1;have hj':=(fG wj ej rfl).1 hj;refine⟨g,hj',toJ rfl,?_,readI F _ _⟩;have key:∀ J:List af,St.eval ⟨s.fr,J⟩=s.eval:=fun J=>by funext x; cases x<;>rfl
  have same:bT ops s.fr B=some true→eV P s.eval g B.op=eV P s.eval s.H B.op:=by
   intro hw;cases I:cW pf d.op with
   | pure =>
    have:=(vp I hj').1;rw[this]
   | read =>
    have:=qo I hj';rw[this]
   | write =>
    rcases hc with hc|⟨_,_,hap⟩|⟨hw',_,_⟩|⟨hw',_,_⟩|⟨hw',_⟩
    ·obtain ⟨Hj1, q1, q2⟩ := old hc
     have q3:=(fG (s1:=s.put d.dst u Hj1) (s:=⟨s.fr,Hj1⟩) (wi Hj1) (fun x hx=>by rw[ei Hj1 x hx]; cases x<;>rfl) rfl).1 q2;have e2:g=Hj1:=qo F q3;subst e2;unfold Yields at q3 hi;simp only[F,hw]at q3 hi;rw[key]at q3;rw[q3.2,hi.2]
    ·exact Kj fun id hid=>sj.1 I id (hap id (si.2.1 F hw id hid))
    ·rw [F] at hw'
     cases hw'
    ·rw [qv hw'] at F
     cases F
    ·rw [F] at hw'
     cases hw'
  refine(fG (s1:=s.put d.dst u g) (s:=⟨s.fr,g⟩) (wi g) (fun x hx=>by rw[ei g x hx]; cases x<;>rfl) rfl).2 ?_;unfold Yields at hi⊢;simp only[F]at hi⊢;cases hw:bT ops s.fr B with
  |none=>rw[hw]at hi; exact hi.elim
  | some b =>
   rw[hw]at hi;cases b with
   |false=>exact⟨hi.1,by simp⟩
   | true =>
    refine⟨by simp,?_⟩;rw[key,same hw];exact hi.2
 | write =>
  cases I:cW pf d.op with
  | pure =>
   obtain⟨e1,g1⟩:=vp I hj;have e1':g=M:=e1;subst e1';refine⟨s.H,?_,⟨fun hw=>(by rw[I]at hw; cases hw),fun hr=>(by rw[I]at hr; cases hr),za (by rw[I]; simp),fun _ _ hw=>(by rw[I]at hw; cases hw)⟩,(fG (s1:=s.put d.dst u s.H) (s:=s) (wi s.H) (ei s.H) rfl).2 hi,toI rfl⟩;exact(fG (s1:=⟨(s.put B.dst v g).fr,s.H⟩) (s:=s) wj (fun x hx=>by
    have:=ej x hx;cases x<;>exact this) rfl).1 (g1 s.H)
  | read =>
   have e2:=qo I hj;have U:g=M:=e2;subst U;refine⟨s.H,?_,readJ I,(fG (s1:=s.put d.dst u s.H) (s:=s) (wi s.H) (ei s.H) rfl).2 hi,toI rfl⟩;have same:bT ops s.fr d=some true→eV P s.eval g d.op=eV P s.eval s.H d.op:=by
    intro hw;rcases hc with hc|⟨hr',_,_⟩|⟨_,_,hap⟩|⟨_,hr',_⟩|⟨_,_,hr',_⟩
    ·unfold nt at hc
     rw[F,I]at hc;cases hc
    ·rw [F] at hr'
     cases hr'
    ·exact Kj fun id hid=>si.1 F id (hap id (sj.2.1 I (by rw[wj]; exact hw) id (by rw[cj]; exact hid)))
    ·rw [qv hr'] at I
     cases I
    ·rw [qv hr'] at I
     cases I
   unfold Yields at hj⊢;simp only[I]at hj⊢;rw[wj]at hj;cases hw:bT ops s.fr d with
   |none=>rw[hw]at hj; exact hj.elim
   | some b =>
    rw[hw]at hj;cases b with
    |false=>exact⟨hj.1,by simp⟩
    | true =>
     refine⟨by simp,?_⟩;rw[←same hw,←evj];exact hj.2
  | write =>
   rcases hc with hc|⟨hr',_,_⟩|⟨_,hr',_⟩|⟨hai,haj,htw⟩|⟨_,hvi,haj,hca,hap⟩
   ·unfold nt at hc
    rw[F,I]at hc;cases hc
   ·rw [F] at hr'
    cases hr'
   ·rw [I] at hr'
    cases hr'
   ·-- two allocations, each in its own place
    have ck:∀{f:Option Bool},f=some true→f=some false→False:=fun h1 h2=>by rw[h1]at h2; cases h2
    rcases DE hai hi (fun hw=>(si.2.2.1 hai htw hw).1)with⟨wi',rfl,e1⟩|⟨wi',ti,idi,zi,ki,mi,oi',z1,z2,z3,rfl,e1⟩
    ·subst e1
     refine⟨g,(fG wj ej rfl).1 hj,toJ rfl,?_,⟨fun _ A _=>rfl,fun hr=>(by rw[F]at hr; cases hr),fun _ _ _=>⟨rfl,fun _ h=>(h rfl).elim⟩,fun N=>(by rw[oQ hai]at N; cases N)⟩⟩;unfold Yields;rw[wi,wi'];exact⟨rfl,rfl⟩
    ·rcases DE haj hj (fun hw => (sj.2.2.1 haj htw hw).1) with ⟨wj', rfl, e2⟩ | ⟨wj', tj, q, zj, O, mj, oj', y1, y2, y3, rfl, e2⟩
     ·have U : g = M := e2
      subst U;refine⟨s.H,?_,⟨fun _ A _=>rfl,fun hr=>(by rw[I]at hr; cases hr),fun _ _ _=>⟨rfl,fun _ h=>(h rfl).elim⟩,fun N=>(by rw[oQ haj]at N; cases N)⟩,(fG (s1:=s.put d.dst (.tuple []) s.H) (s:=s) (wi s.H) (ei s.H) rfl).2 hi,toI rfl⟩;unfold Yields;rw[wj]at wj';rw[wj'];exact⟨rfl,rfl⟩
     ·have U : g = M.set q (.vec O 1 [dD mj zj]) := e2
      have y2':M[q]? = some (.vec O 0 []):=y2;have hne:q≠idi:=by
       intro e;subst e;rw[e1,cr (aJ z2)]at y2';simp at y2'
      have y2s:s.H[q]? = some (.vec O 0 []):=by rw[e1,bH (Ne.symm hne)]at y2'; exact y2'
      have wjs:bT ops s.fr d=some true:=by rw[←wj]; exact wj'
      have hjj:∀ A,kept W j A→A≠q:=by
       intro A Y e;subst e;have h:=sj.1 I A Y;have h':g[A]? = M[A]? := h;rw[U,cr (aJ y2'),y2']at h';simp at h'
      have hii:∀ A,kept W i A→A≠idi:=by
       intro A Y e;subst e;have h:=si.1 F A Y;rw[e1,cr (aJ z2),z2]at h;simp at h
      have hcomm:g=(s.H.set q (.vec O 1 [dD mj zj])).set idi (.vec ki 1 [dD mi zi]):=by rw[U,e1,Ti _ _ (Ne.symm hne)]
      refine⟨s.H.set q (.vec O 1 [dD mj zj]),DF wjs oj' y1 y2s y3 mj,⟨fun _ A Y=>bH (Ne.symm (hjj A Y)),fun hr=>(by rw[I]at hr; cases hr),fun _ _ _=>⟨by simp,fun id hne=>?_⟩,fun N=>(by rw[oQ haj]at N; cases N)⟩,?_,
       ⟨fun _ A Y=>?_,fun hr=>(by rw[F]at hr; cases hr),fun _ _ _=>⟨?_,fun id hne=>?_⟩,fun N=>(by rw[oQ hai]at N; cases N)⟩⟩
      ·have e : id = q := IY fun e => hne (bH (Ne.symm e))
       subst e;refine(sj.2.2.1 haj htw wj').2 id ?_;show g[id]? ≠ M[id]?
       rw[U,cr (aJ y2'),y2'];simp
      ·rw [hcomm]
       refine DF (s:=s.put d.dst (.ptr q 1 O 0 0) (s.H.set q (.vec O 1 [dD mj zj]))) (by rw[wi]; exact wi') oi' z1 ?_ z3 mi;show (s.H.set q _)[idi]? = _
       rw[bH hne];exact z2
      ·show g[A]? = (s.H.set q _)[A]?
       rw[hcomm,bH (Ne.symm (hii A Y))]
      ·show g.length = (s.H.set q _).length
       rw[hcomm];simp
      ·have e:id=idi:=IY fun e=>hne (by
        show g[id]? = (s.H.set q _)[id]?
        rw[hcomm,bH (Ne.symm e)])
       subst e;refine(si.2.2.1 hai htw wi').2 id ?_;rw[e1,cr (aJ z2),z2];simp
   ·-- a call, and an allocation in a place that it does not touch
    have hih:qu ops=true:=by
     unfold qu;rw[hca];simp
    rcases DE haj hj (fun hw=>(sj.2.2.1 haj hih hw).1)with⟨wj',rfl,e2⟩|⟨wj',tj,q,zj,O,mj,oj',y1,y2,y3,rfl,e2⟩
    ·have U : g = M := e2
     subst U;refine⟨s.H,?_,⟨fun _ A _=>rfl,fun hr=>(by rw[I]at hr; cases hr),fun _ _ _=>⟨rfl,fun _ h=>(h rfl).elim⟩,fun N=>(by rw[oQ haj]at N; cases N)⟩,(fG (s1:=s.put d.dst (.tuple []) s.H) (s:=s) (wi s.H) (ei s.H) rfl).2 hi,toI rfl⟩;unfold Yields;rw[wj]at wj';rw[wj'];exact⟨rfl,rfl⟩
    ·have U : g = M.set q (.vec O 1 [dD mj zj]) := e2
     have y2':M[q]? = some (.vec O 0 []):=y2;obtain⟨e,he,hej,hid⟩:=(sj.2.2.1 haj hih wj').2 q (by
      show g[q]? ≠ M[q]?
      rw[U,cr (aJ y2'),y2'];simp)
     have hk:=hap e he hej q hid;have y2s:s.H[q]? = some (.vec O 0 []):=by rw[←si.1 F q hk]; exact y2'
     have wjs:bT ops s.fr d=some true:=by rw[←wj]; exact wj'
     have hjj:∀ A,kept W j A→A≠q:=by
      intro A Y e;subst e;have h:=sj.1 I A Y;have h':g[A]? = M[A]? := h;rw[U,cr (aJ y2'),y2']at h';simp at h'
     have hfill:zb W i s.H [(q,.vec O 1 [dD mj zj])]:=by
      intro p hp;rw[List.mem_singleton.1 hp];exact⟨hk,O,_,y2s,rfl⟩
     have hcall:Yields P pf ops B ⟨s.fr,s.H.set q (.vec O 1 [dD mj zj])⟩ v g∧(bT ops s.fr B=some true→∀ σ,zb W i (s.H.set q (.vec O 1 [dD mj zj])) σ→Yields P pf ops B ⟨s.fr,nu σ (s.H.set q (.vec O 1 [dD mj zj]))⟩ v (nu σ g)):=by
      cases hw:bT ops s.fr B with
      | none =>
       unfold Yields at hi;rw[hw]at hi;exact hi.elim
      | some b =>
       cases b with
       | false =>
        refine⟨?_,fun h=>by cases h⟩;unfold Yields at hi⊢;rw[hw]at hi;rw[show bT ops (St.mk s.fr (s.H.set q (.vec O 1 [dD mj zj]))).fr B=some false from hw];refine⟨hi.1,?_⟩;show g=s.H.set q _
        rw[U,hi.2]
       | true =>
        have h4:=si.2.2.2 hvi hca F hw;refine⟨?_,fun _ σ hσ=>?_⟩
        ·have := h4 _ hfill
         rw[U];exact this
        ·have:=h4 ((q,.vec O 1 [dD mj zj])::σ) (by
          intro p hp;rcases List.mem_cons.1 hp with rfl|hp
          ·exact hfill _ cZ
          ·obtain ⟨a2, k, r, a3, a4⟩ := hσ p hp
           refine⟨a2,k,r,?_,a4⟩;have hne:p.1≠q:=fun e=>by
            rw[e,cr (aJ y2s)]at a3;simp at a3
           rwa [bH (Ne.symm hne)]at a3)
         rw[U];exact this
     refine⟨s.H.set q (.vec O 1 [dD mj zj]),DF wjs oj' y1 y2s y3 mj,⟨fun _ A Y=>bH (Ne.symm (hjj A Y)),fun hr=>(by rw[I]at hr; cases hr),fun _ _ _=>⟨by simp,fun id hne=>?_⟩,fun N=>(by rw[oQ haj]at N; cases N)⟩,fri (H1:=s.H.set q (.vec O 1 [dD mj zj])) hcall.1,
      ⟨fun _ A Y=>?_,fun hr=>(by rw[F]at hr; cases hr),fun ha=>(by rw[oQ ha]at hvi; cases hvi),fun _ _ _ hwa σ hσ=>fri (H1:=s.H.set q (.vec O 1 [dD mj zj])) (hcall.2 (by rw[wi]at hwa; exact hwa) σ hσ)⟩⟩
     ·have e : id = q := IY fun e => hne (bH (Ne.symm e))
      subst e;exact⟨_,he,hej,hid⟩
     ·show g[A]? = (s.H.set q _)[A]?
      have h1:M[A]? = s.H[A]? := si.1 F A Y;by_cases e:A=q
      ·subst e
       rw[U,cr (aJ y2'),cr (aJ y2s)]
      ·rw[U,bH (Ne.symm e),bH (Ne.symm e),h1]
def vr(P:Program)(pf:FuncId→Bool)(ops:Array Oper)(R:jf)(W:il)(i:Nat)(K:St→Prop)(s:St):Prop :=
 match ops[i]? with
 |none=>K s
 |some o=>∃ v H',Yields P pf ops o s v H'∧Step P pf ops R W i o s v H'∧K (s.put o.dst v H')
def vt(P:Program)(pf:FuncId→Bool)(ops:Array Oper)(R:jf)(W:il)(s':St):Nat→Array Bool→St→Prop
 |0,listed,s=>kX .any ops listed=[]∧s=s'
 |fuel+1,listed,s=>(kX .any ops listed=[]→s=s')∧∀ i∈kX .any ops listed,vr P pf ops R W i (vt P pf ops R W s' fuel (listed.setIfInBounds i true)) s
theorem DG{R:jf}{W:il}{s':St}:∀(fuel:Nat) (listed:Array Bool) (s:St),vt P pf ops R W s' fuel listed s→sQ P pf ops s' fuel listed s
 |0,_,_,h=>h
 | fuel+1,listed,s,h=>by
  refine⟨h.1,fun i hi=>?_⟩;have h1:=h.2 i hi;unfold vr at h1;unfold sP;cases d:ops[i]? with
  |none=>rw[d]at h1; exact DG fuel _ _ h1
  | some o =>
   rw[d]at h1;obtain⟨v,H',g1,_,g2⟩:=h1;exact⟨v,H',g1,DG fuel _ _ g2⟩
theorem Vc{R:jf}{W:il}{s':St}{i:Nat}{g:Oper}(hi:ops[i]? = some g):∀(fuel:Nat) (listed:Array Bool) (s:St) (v:AV) (H':List af),qp ops listed →
  (∀ j q,ops[j]? = some q→j≠i→listed.getD j true=false→waits ops ops.size j i=false→g.apart ops q=true∧q.apart ops g=true∧DD pf ops R W i g j q) →
  i∈kX .any ops listed→Yields P pf ops g s v H'→Step P pf ops R W i g s v H'→vt P pf ops R W s' fuel (listed.setIfInBounds i true) (s.put g.dst v H')→vt P pf ops R W s' (fuel+1) listed s:=by
 intro fuel
 induction fuel with
 | zero =>
  intro listed s v H' _ _ hr F B H;refine⟨fun h=>(by rw[h]at hr; cases hr),fun j A=>?_⟩;by_cases d:j=i
  ·subst d
   unfold vr;simp only[hi];exact⟨v,H',F,B,H⟩
  ·have := ready_mono A d
   rw[H.1]at this;cases this
 | succ fuel ih =>
  intro listed s v H' N J hr F B H;refine⟨fun h=>(by rw[h]at hr; cases hr),fun j A=>?_⟩;by_cases d:j=i
  ·subst d
   unfold vr;simp only[hi];exact⟨v,H',F,B,H⟩
  ·have h1 := H.2 j (ready_mono A d)
   obtain⟨M,q,O,hall⟩:=mem_ready.1 A;unfold vr at h1⊢;simp only[O]at h1⊢;obtain⟨u,Hj,hyj,hsj,hrest⟩:=h1;have hnw:waits ops ops.size j i=false:=by
    cases hw:waits ops ops.size j i with
    |false=>rfl
    | true =>
     have:=Dy N _ _ _ (Dz A) hw;rw[Ka hr]at this;cases this
   obtain⟨a1,a2,a3⟩:=J j q O d M hnw;obtain⟨I,q1,q2,q3,q4⟩:=Vb a1 a2 a3 F B hyj hsj;refine⟨u,I,q1,q2,?_⟩;refine ih (listed.setIfInBounds j true) (s.put q.dst u I) v Hj (y4 N A) ?_ (ready_mono hr (Ne.symm d)) q3 q4 ?_
   ·intro k ok hk hki U hno
    refine J k ok hk hki ?_ hno;by_cases Y:j=k
    ·subst Y; exact M
    ·rw[getD_set_ne true Y]at U; exact U
   ·rw [aiw _ _ d]
    have:=J' s g.dst q.dst v u H' Hj I (IU a1).2.1;rw[←this];exact hrest
def sW(P:Program)(pf:FuncId→Bool)(ops:Array Oper)(R:jf)(W:il):List Oper→Nat→St→St→Prop
 | [],_,s,s'=>s=s'
 |o::l,j,s,s'=>∃ v H',Yields P pf ops o s v H'∧Step P pf ops R W j o s v H'∧sW P pf ops R W l (j+1) (s.put o.dst v H') s'
def DH(pf:FuncId→Bool)(x y:Oper):Bool :=
 nt pf x y||((match cW pf x.op,cW pf y.op with
  |.read,.write=>true
  |.write,.read=>true
  |_,_=>false)||((ep x.op&&ep y.op)||(match cW pf x.op with
  |.write=>lr x.op&&ep y.op
  |_=>false)))
theorem Vd{i j:Nat}{x y:Oper}(hi:ops[i]? = some x)(d:ops[j]? = some y)(g:i<j)(hw:waits ops ops.size j i=false)(k:ep x.op=true)(q:ep y.op=true):DC ops=true:=by
 unfold DC;refine jE.2 ⟨j,ja.2 (eP.1 d).1,jE.2 ⟨i,ja.2 g,?_⟩⟩;rw[hi,d];simp[k,q,hw]
theorem Ve{i j:Nat}{x y:Oper}(hi:ops[i]? = some x)(d:ops[j]? = some y)(g:i<j)(hw:waits ops ops.size j i=false)(k:lr x.op=true)(q:ep y.op=true):oP ops=true:=by
 unfold oP;refine jE.2 ⟨j,ja.2 (eP.1 d).1,jE.2 ⟨i,ja.2 g,?_⟩⟩;rw[hi,d];simp[k,q,hw]
def sX(pf:FuncId→Bool)(ops:Array Oper):Bool :=
  aiv ops &&
  (fp ops.size).all fun j=>(match ops[j]? with
    | some d=>(d.after.toList.all fun e => !IT .any e||e.on<j) &&
      ((fp j).all fun i => match ops[i]? with
        |some g=>waits ops ops.size j i||(g.apart ops d&&d.apart ops g&&DH pf g d)
        |none=>true)
    |none=>true)
def sY(ops:Array Oper)(R:jf)(W:il):Prop:=(∀ i id,(i,id)∈R→∀ e∈W,(i<e.1→waits ops ops.size e.1 i=false→id∉e.2.1∧id<e.2.2)∧(e.1<i→waits ops ops.size i e.1=false→id∉e.2.1∧id<e.2.2)) ∧
 ∀ e∈W,∀ e'∈W,e.1<e'.1→waits ops ops.size e'.1 e.1=false→∀ id∈e'.2.1,id∉e.2.1∧id<e.2.2
theorem Vg{R:jf}{W:il}(k:sY ops R W){i j:Nat}{x y:Oper}(hi:ops[i]? = some x)(d:ops[j]? = some y)(g:i<j)(hw:waits ops ops.size j i=false)(hc:DH pf x y=true):DD pf ops R W i x j y:=by
 unfold DH at hc;simp only[lW]at hc;rcases hc with hc|hc|hc|hc
 ·exact .inl hc
 ·split at hc
  ·rename_i h1 q
   refine .inr (.inl ⟨h1,q,fun id hid e he d=>?_⟩);subst d;exact(k.1 i id hid e he).1 g hw
  ·rename_i h1 q
   refine .inr (.inr (.inl ⟨h1,q,fun id hid e he d=>?_⟩));subst d;exact(k.1 j id hid e he).2 g hw
  ·cases hc
 ·simp only [aw] at hc
  refine .inr (.inr (.inr (.inl ⟨hc.1,hc.2,?_⟩)));unfold qu;rw[Vd hi d g hw hc.1 hc.2];rfl
 ·split at hc
  ·rename_i h1
   simp only[aw]at hc;refine .inr (.inr (.inr (.inr ⟨h1,hc.1,hc.2,Ve hi d g hw hc.1 hc.2,fun e he A id hid e' B F=>?_⟩)));subst A F;exact k.2 e' B e he g hw id hid
  ·cases hc
theorem Km{R:jf}{W:il}{s':St}(N:sX pf ops=true)(O:sY ops R W):∀(l:List Oper) (k:Nat) (listed:Array Bool) (s:St),l=ops.toList.drop k→qp ops listed→listed.size=ops.size →
  (∀ j,j<ops.size→(listed.getD j true=false↔k≤j))→sW P pf ops R W l k s s'→vt P pf ops R W s' l.length listed s
 | [],k,listed,s,A,_,I,hk,h=>by
  simp only[sW]at h;refine⟨?_,h⟩;apply aix.2;intro j d;obtain⟨h0,o,ho,_⟩:=mem_ready.1 d;have q:j<ops.size:=(eP.1 ho).1;have:=(hk j q).1 h0;have hlen:(ops.toList.drop k).length=0:=by rw[←A]; rfl
  simp at hlen;omega
 | o::l,k,listed,s,A,J,I,hk,h=>by
  obtain⟨v,H',hy,hst,Y⟩:=h;have h0:ops[k]? = some o:=by
   have:(ops.toList.drop k)[0]? = some o:=by rw[←A]; rfl
   simpa using this
  have q:k<ops.size:=(eP.1 h0).1;simp only[sX,aw,dX,ja]at N;obtain⟨_,B⟩:=N;have U:∀ j,j<k→listed.getD j false=true:=by
   intro j d;have hn:¬ (listed.getD j true=false):=fun e=>by have:=(hk j (by omega)).1 e; omega
   have:j<listed.size:=by omega
   simp[this]at hn⊢;exact hn
  have F:k∈kX .any ops listed:=by
   refine mem_ready.2 ⟨(hk k q).2 (aI _),o,h0,fun e he hb=>?_⟩;have:=B k q;rw[h0]at this;simp only[aw,dX]at this;have h1:=this.1 e (by simpa using he);simp only[hb,aiy,jF,decide_eq_true_eq]at h1;exact U e.on h1
  refine Vc h0 l.length listed s v H' J ?_ F hy hst ?_
  ·intro j oj d hjk hun M
   have g:j<ops.size:=(eP.1 d).1;have hkj:k≤j:=(hk j g).1 hun;have:=B j g;rw[d]at this;simp only[aw,dX,ja]at this;have h1:=this.2 k (by omega);rw[h0]at h1;simp only[M,jF,aw]at h1;exact⟨h1.1.1,h1.1.2,Vg O h0 d (by omega) M h1.2⟩
  ·refine Km (by simp only [sX, aw, dX, ja]; exact ⟨‹_›, B⟩) O l (k + 1) _ _ ?_ (y4 J F) (by simpa using I) ?_ Y
   ·rw[←pZ,←A]; rfl
   ·intro j g
    by_cases e:k=j
    ·subst e
     have:k<listed.size:=by omega
     simp[this]
    ·rw [getD_set_ne true e, hk j g]
     omega
theorem Vh{R:jf}{W:il}{id:Nat}{s s':St}{E:Env}{a:Act}{Q:Exit→Act→World→Prop}(hm:P.follows .mixedOrders=true)(A:sX pf ops=true)(B:sY ops R W)(d:bj s E a)
  (h:sW P pf ops R W ops.toList 0 s s') (F:∀ g w',eW E s' g w'→Q .normal g w'):∀ ro:Option Nat,(Code.region id ops true).wpIn (fz ro) 0 P Q a E.w:=by
 intro ro;have q:bj s { E with w:={ E.w with drawn:=E.w.drawn+1 } } a:=⟨d.H,eM (Env.gd (Ext.drawn E.w _)) _ d.fr,sr d.heap (Env.gd (Ext.drawn E.w _)) d.defers,d.heap.ext (Ext.drawn E.w _)⟩
 refine wpIn_region_any hm (yY (pf:=pf) _ _ s { E with w:={ E.w with drawn:=E.w.drawn+1 } } a q ?_ (fun g w' hc=>F g w' (eW.after (Env.gd (Ext.drawn E.w _)) hc)) ro);have:=DG _ _ _ (Km (P:=P) (s':=s') A B ops.toList 0 (lX ops.size false) s (by simp) (by
  intro j k;exfalso;rcases jZ j ops.size with h'|h'
  ·simp[h']at k
  ·simp[IV (xs:=lX ops.size false) (by simpa using h')]at k) (by simp) (by intro j k; simp[k]) h)
 simpa using this
end Go.AL
