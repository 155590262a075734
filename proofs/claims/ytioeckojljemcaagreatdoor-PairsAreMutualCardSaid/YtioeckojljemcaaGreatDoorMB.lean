/-
 What is proved here: every operation that the logic knows,put together,with calls; what an operation leaves. No program in sight; no condition.
-/
import Derived.Test.YtioeckojljemcaaGreatDoorMA
set_option linter.all false
namespace Go.AL
open Go
variable [Dr]
def isConstB (x:Operand):Bool:=x matches .const _
def max2A:AV→AV→Option AV
 | .lit (.int k a),.lit (.int _ b)=>some (.lit (.int k (if b>a then b else a)))
 | _,_=>none
def min2A:AV→AV→Option AV
 | .lit (.int k a),.lit (.int _ b)=>some (.lit (.int k (if b<a then b else a)))
 | _,_=>none
def foldA (f:AV→AV→Option AV):AV→List AV→Option AV
 | x,[]=>some x
 | x,y::l=>match f x y with
  | some z=>foldA f z l
  | none=>none
def maxA:List AV→Option AV
 | []=>none
 | x::rest=>foldA max2A x rest
def minA:List AV→Option AV
 | []=>none
 | x::rest=>foldA min2A x rest
def lenTA (k:SK) (x:AV):Option AV :=
 match k,x with
 | .str,.lit (.string s)=>some (.int s.size)
 | .slice _ _ _,.lit (.string _)=>none
 | .slice _ _ _,x=>match lenA x with
  | some n=>some (.int n)
  | none=>none
 | _,_=>none
def builtinA (P:Program) (b:Builtin) (tys:List TypeId) (args:List AV):Option AV :=
 match b with
 | .len=>match tys[0]?,args[0]? with
  | some t,some x=>lenTA (kindK P t) x
  | _,_=>none
 | .max=>maxA args
 | .min=>minA args
 | .cap=>match tys,args with
  | t::_,.lit (.slice none 0 0)::_=>match kindK P t with
   | .slice _ _ _=>some (.int 0)
   | _=>none
  | _,_=>none
 | _=>none
def makeFuncA (r:Operand→AV) (fn:Fn) (first caps:Array Operand):Option AV :=
 match fn with
 | .func f=>if first.toList.isEmpty then some (.clo f (caps.toList.map r)) else none
 | _=>none
def bCallA (P:Program) (r:Operand→AV) (c:Call):Option AV :=
 match c.callee with
 | .builtin b=>builtinA P b c.argTypes.toList (c.args.toList.map r)
 | _=>none
def evP (P:Program) (r:Operand→AV):Op→Option AV
 | .move x | .assign x=>some (r x)
 | .pick c a b=>match r c with
  | .lit (.bool t)=>some (bif t then r a else r b)
  | _=>none
 | .extract t i=>match r t with
  | .tuple vs=>vs[i]?
  | _=>none
 | .field t x f=>match fieldK P t f with
  | some k=>fieldA k (r x)
  | none=>none
 | .fieldAddr t x f=>match fieldK P t f with
  | some k=>fieldAddrA k (r x)
  | none=>none
 | .indexAddr t x i=>idxAddrA (kindK P t) (r x) (r i)
 | .index t x i=>indexA (kindK P t) (r x) (r i)
 | .binOp op t x y _=>binA P op t (isConstB x||isConstB y) (r x) (r y)
 | .unOp op _ x=>unA op (r x)
 | .convert s d x=>convA P s d (r x)
 | .build t parts=>buildA P t (parts.toList.map fun p=>(p.1,r p.2))
 | .buildSlice t n parts=>buildSliceA P t n (parts.toList.map fun p=>(p.1,r p.2))
 | .slice t x lo hi mx=>sliceA P t (r x) (lo.map r) (hi.map r) (mx.map r)
 | .makeFunc fn first caps=>makeFuncA r fn first caps
 | .nilCheck x=>match r x with
  | .ptr id ver k row col=>some (.ptr id ver k row col)
  | .cptr cells=>some (.cptr cells)
  | .clo f caps=>some (.clo f caps)
  | _=>none
 | .makeInterface t _=>match P.underlying t with
  | some (.interface _)=>none
  | some _=>some .ifc
  | none=>none
 | .call c=>bCallA P r c
 | _=>none
theorem relList_map {E:Env} {r:Operand→AV} {ρ:Operand→Value} (h:∀ x,rel E (r x) (ρ x)):∀ (l:List Operand),rLs E (l.map r) (l.map ρ)
 | []=>by simp [rLs]
 | x::l=>by simp only [List.map_cons,rLs]; exact ⟨h x,relList_map h l⟩
theorem relOpt_map {E:Env} {r:Operand→AV} {ρ:Operand→Value} (h:∀ x,rel E (r x) (ρ x)) (o:Option Operand):relOpt E (o.map r) (o.map ρ):=by
 cases o with
 | none=>simp [relOpt]
 | some x=>simpa [relOpt] using h x
def PPost (E:Env) (v:AV) (u:Value) (w':World):Prop:=Ext E.w w'∧rel { E with w:=w' } v u
theorem PPost.same {E:Env} {v:AV} {u:Value} (h:rel E v u):PPost E v u E.w:=⟨Ext.refl _,h⟩
theorem run_value {P:Program} {s:Sem Value} {w w':World} {u:Value} (h:s.run P w=.ok u w'):(do pure (Next.value (← s)):Sem Next).run P w=.ok (.value u) w':=by
 simp [h]
theorem foldA_run {P:Program} {E:Env} {f:AV→AV→Option AV} {g:Value→Value→Sem Value}
  (hfg:∀ x y c d z,f x y=some z→rel E x c→rel E y d→∃ u,(g c d).run P E.w=.ok u E.w∧rel E z u) :
  ∀ (rest:List AV) (x:AV) (c:Value) (cs:List Value) (v:AV),rel E x c→rLs E rest cs→foldA f x rest=some v →
   ∃ u,(cs.foldlM g c).run P E.w=.ok u E.w∧rel E v u
 | [],x,c,cs,v,hx,hr,h=>by
  cases cs with
  | nil=>simp [foldA] at h; subst h; exact ⟨c,rfl,hx⟩
  | cons _ _=>simp [rLs] at hr
 | y::rest,x,c,cs,v,hx,hr,h=>by
  cases cs with
  | nil=>simp [rLs] at hr
  | cons d cs =>
   simp only [rLs] at hr
   simp only [foldA] at h
   split at h
   ·rename_i z hz
    obtain ⟨u,g1,g2⟩:=hfg x y c d z hz hx hr.1
    obtain ⟨u',g3,g4⟩:=foldA_run hfg rest z u cs v g2 hr.2 h
    exact ⟨u',by simp only [List.foldlM_cons,Sem.run_bind,g1,Result.andThen_ok]; exact g3,g4⟩
   ·cases h
theorem max2A_run {P:Program} {E:Env} (x y:AV) (c d:Value) (z:AV) (h:max2A x y=some z) (hx:rel E x c) (hy:rel E y d) :
  ∃ u,(Builtin.max2 c d).run P E.w=.ok u E.w∧rel E z u:=by
 unfold max2A at h
 split at h
 ·cases h
  simp only [rel] at hx hy
  subst hx; subst hy
  exact ⟨_,rfl,by simp [rel]⟩
 ·cases h
theorem min2A_run {P:Program} {E:Env} (x y:AV) (c d:Value) (z:AV) (h:min2A x y=some z) (hx:rel E x c) (hy:rel E y d) :
  ∃ u,(Builtin.min2 c d).run P E.w=.ok u E.w∧rel E z u:=by
 unfold min2A at h
 split at h
 ·cases h
  simp only [rel] at hx hy
  subst hx; subst hy
  exact ⟨_,rfl,by simp [rel]⟩
 ·cases h
theorem builtinA_run {P:Program} {E:Env} {b:Builtin} {tys:Array TypeId} {ty:TypeId} {consts:Array Bool} {args:List AV} {cargs:Array Value} {v:AV}
  (h:builtinA P b tys.toList args=some v) (hr:rLs E args cargs.toList):∃ u,(builtin b tys ty consts cargs).run P E.w=.ok (.value u) E.w∧rel E v u:=by
 cases b<;>simp only [builtinA] at h<;>try cases h
 case len =>
  split at h
  case h_2=>cases h
  rename_i t x ht hx
  obtain ⟨c,hc,hrx⟩:=relList_get hr hx
  have ht0:tys[0]? = some t:=by simpa using ht
  have hc0:cargs[0]? = some c:=by simpa using hc
  unfold lenTA at h
  split at h
  ·rename_i s hk
   cases h
   simp only [rel] at hrx
   subst hrx
   refine ⟨goInt s.size,?_,by simp [rel,goInt]⟩
   simp [builtin,Builtin.len_,ht0,hc0,Sem.run_underlying_some (kind_str hk)]
  ·cases h
  ·rename_i e sz by_ hk hns
   split at h
   ·rename_i n hl
    cases h
    obtain ⟨hu,_⟩:=kind_slice hk
    rcases rel_len hl hrx with ⟨s,rfl,_⟩ | ⟨base,cap,rfl⟩
    ·exfalso
     unfold lenA at hl
     split at hl
     ·rename_i s'
      exact hns s' rfl
     all_goals first
      | (simp [rel,relKd] at hrx; done)
      | cases hl
    ·refine ⟨goInt n, ?_, by simp [rel, goInt]⟩
     simp [builtin,Builtin.len_,ht0,hc0,Sem.run_underlying_some hu]
   ·cases h
  ·cases h
 case max =>
  cases args with
  | nil=>cases h
  | cons x rest =>
   cases hcs:cargs.toList with
   | nil=>rw [hcs] at hr; simp [rLs] at hr
   | cons c cs =>
    rw [hcs] at hr
    simp only [rLs] at hr
    obtain ⟨u,g1,g2⟩:=foldA_run (P:=P) max2A_run rest x c cs v hr.1 hr.2 h
    refine ⟨u,?_,g2⟩
    simp [builtin,Builtin.max_,hcs,g1]
 case min =>
  cases args with
  | nil=>cases h
  | cons x rest =>
   cases hcs:cargs.toList with
   | nil=>rw [hcs] at hr; simp [rLs] at hr
   | cons c cs =>
    rw [hcs] at hr
    simp only [rLs] at hr
    obtain ⟨u,g1,g2⟩:=foldA_run (P:=P) min2A_run rest x c cs v hr.1 hr.2 h
    refine ⟨u,?_,g2⟩
    simp [builtin,Builtin.min_,hcs,g1]
 case cap =>
  split at h
  case h_2=>cases h
  rename_i t ts as ht
  obtain ⟨c,hc,hrx⟩:=relList_get (i:=0) hr rfl
  have ht0:tys[0]? = some t:=by
   have:tys.toList[0]? = some t:=by rw [ht]; rfl
   simpa using this
  have hc0:cargs[0]? = some c:=by simpa using hc
  simp only [rel] at hrx
  subst hrx
  split at h
  ·rename_i e sz by_ hk
   cases h
   obtain ⟨hu,_⟩:=kind_slice hk
   refine ⟨goInt 0,?_,by simp [rel,goInt]⟩
   simp [builtin,Builtin.cap_,ht0,hc0,Sem.run_underlying_some hu]
  ·cases h
theorem evP_sound {P:Program} {E:Env} (HE:HRel E) {r:Operand→AV} {ρ:Operand→Value} (hr:∀ x,rel E (r x) (ρ x)) {o:Oper} {v:AV} (h:evP P r o.op=some v) :
  ∃ u w',(execOp ρ o).run P E.w=.ok (.value u) w'∧PPost E v u w':=by
 obtain ⟨dst,op,type,pos,after,guard⟩:=o
 have same:∀ {s:Sem Value},(∃ u,s.run P E.w=.ok u E.w∧rel E v u)→∃ u w',(do pure (Next.value (← s)):Sem Next).run P E.w=.ok (.value u) w'∧PPost E v u w':=by
  rintro s ⟨u,g1,g2⟩
  exact ⟨u,E.w,run_value g1,PPost.same g2⟩
 cases op<;>simp only [evP] at h<;>try cases h
 case move x=>exact ⟨ρ x,E.w,rfl,PPost.same (hr x)⟩
 case assign x=>exact ⟨ρ x,E.w,rfl,PPost.same (hr x)⟩
 case pick c a b =>
  split at h
  ·rename_i t ht
   cases h
   have hc:=hr c
   rw [ht] at hc
   simp only [rel] at hc
   refine ⟨if t then ρ a else ρ b,E.w,?_,?_⟩
   ·simp [execOp,hc,asBool]
   ·cases t
    ·exact PPost.same (hr b)
    ·exact PPost.same (hr a)
  ·cases h
 case build t parts =>
  obtain ⟨u,g1,g2⟩:=run_buildA (E:=E) (cparts:=parts.toList.map fun p=>(p.1,ρ p.2)) h (by simp) (by
   simp only [List.map_map]
   have:=relList_map hr (parts.toList.map (·.2))
   simpa [List.map_map,Function.comp_def] using this)
  have e:(parts.toList.map fun p=>(p.1,ρ p.2)).toArray=parts.map fun (i,x)=>(i,ρ x):=by
   apply Array.ext'; simp
  rw [e] at g1
  exact same ⟨u,g1,g2⟩
 case buildSlice t n parts =>
  obtain ⟨u,w',g1,g2,g3⟩:=run_buildSliceA HE (cparts:=parts.toList.map fun p=>(p.1,ρ p.2)) h (by simp) (by
   simp only [List.map_map]
   have:=relList_map hr (parts.toList.map (·.2))
   simpa [List.map_map,Function.comp_def] using this)
  have e:(parts.toList.map fun p=>(p.1,ρ p.2)).toArray=parts.map fun (i,x)=>(i,ρ x):=by
   apply Array.ext'; simp
  rw [e] at g1
  exact ⟨u,w',run_value g1,g2,g3⟩
 case nilCheck x =>
  have hx:=hr x
  split at h
  ·rename_i id ver k row col he
   cases h
   rw [he] at hx
   have hx':=hx
   simp only [rel] at hx'
   obtain ⟨⟨b,o,hc⟩,_⟩:=hx'
   exact ⟨ρ x,E.w,by simp [execOp,hc],PPost.same hx⟩
  ·rename_i cells he
   cases h
   rw [he] at hx
   have hx':=hx
   simp only [rel] at hx'
   obtain ⟨_,b,o,hc,_⟩:=hx'
   exact ⟨ρ x,E.w,by simp [execOp,hc],PPost.same hx⟩
  ·rename_i f caps he
   cases h
   rw [he] at hx
   have hx':=hx
   simp only [rel] at hx'
   obtain ⟨cs,hc,_⟩:=hx'
   exact ⟨ρ x,E.w,by simp [execOp,hc],PPost.same hx⟩
  ·cases h
 case binOp op t x y _ =>
  refine same (run_binA (x:=x) (y:=y) (fun hk=>?_) h (hr x) (hr y))
  cases x<;>cases y<;>first | rfl | exact hk
 case unOp op _ x=>exact same (run_unA h (hr x))
 case convert s d x=>exact same (run_convA h (hr x))
 case makeInterface t x =>
  split at h
  ·cases h
  ·rename_i d hd hu
   cases h
   refine same ⟨.iface t (ρ x),?_,by simp only [rel]; exact ⟨_,_,rfl⟩⟩
   simp only [Instr.makeInterface,Sem.run_bind,Sem.run_underlying_some hu,Result.andThen_ok]
   cases d<;>first | rfl | (exact (hd _ hu).elim) | (exact (hd _ rfl).elim)
  ·cases h
 case makeFunc fn first caps =>
  cases fn<;>simp only [makeFuncA] at h<;>try cases h
  rename_i f
  split at h
  ·rename_i hf
   cases h
   refine ⟨.func (.func f) (first.map ρ) (caps.map ρ),E.w,rfl,PPost.same ?_⟩
   simp only [rel]
   refine ⟨caps.map ρ,?_,by simpa using relList_map hr caps.toList⟩
   have:first=#[]:=by
    apply Array.ext'
    simpa using hf
   simp [this]
  ·cases h
 case slice t x lo hi mx=>exact same (run_slice_sound h (hr x) (relOpt_map hr lo) (relOpt_map hr hi) (relOpt_map hr mx))
 case fieldAddr t x f =>
  split at h
  ·rename_i k hk; exact same (run_fieldAddr_sound hk h (hr x))
  ·cases h
 case field t x f =>
  split at h
  ·rename_i k hk; exact same (run_fieldA hk h (hr x))
  ·cases h
 case indexAddr t x i=>exact same (run_indexAddr_sound HE h (hr x) (hr i))
 case index t x i=>exact same (run_indexA h (hr x) (hr i))
 case extract t i =>
  split at h
  ·rename_i vs ht
   have hx:=hr t
   rw [ht] at hx
   simp only [rel] at hx
   obtain ⟨cs,hc,hl⟩:=hx
   obtain ⟨u,g1,g2⟩:=relList_get hl h
   refine same ⟨u,?_,g2⟩
   have g1':cs[i]? = some u:=by simpa using g1
   simp [Instr.extract,hc,g1']
  ·cases h
 case call c =>
  obtain ⟨callee,args,argTypes⟩:=c
  cases callee<;>simp only [bCallA] at h<;>try cases h
  rename_i b
  obtain ⟨u,g1,g2⟩:=builtinA_run (P:=P) (E:=E) (b:=b) (tys:=argTypes) (ty:=type) (consts:=args.map fun | .const _=>true | _=>false) (cargs:=args.map ρ) h
   (by simpa using relList_map hr args.toList)
  exact ⟨u,E.w,by simp only [execOp,resolve,Sem.run_bind,Sem.run_pure,Result.andThen_ok,invoke]; exact g1,PPost.same g2⟩
def appCallA (P:Program) (r:Operand→AV) (H:List AObj) (c:Call):Option (AV × List AObj) :=
 match c.callee with
 | .builtin .append=>match c.args.toList,c.argTypes.toList with
  | [s,x],[t,xt]=>match appendZA P t xt (r s) (r x) H with
   | some y=>some y
   | none=>appendA P t xt (r s) (r x) H
  | _,_=>none
 | .builtin .clear=>match c.args.toList,c.argTypes.toList with
  | [x],[t]=>match clearA P t (r x) H with
   | some H'=>some (.tuple [],H')
   | none=>none
  | _,_=>none
 | .builtin .delete=>match c.args.toList,c.argTypes.toList with
  | [x,k],t::_=>match mapDeleteA P t (r x) (r k) H with
   | some H'=>some (.tuple [],H')
   | none=>none
  | _,_=>none
 | _=>none
def evW (P:Program) (r:Operand→AV) (H:List AObj):Op→Option (AV × List AObj)
 | .alloc t=>allocA P t H
 | .box _ x=>boxA (r x) H
 | .store t a x=>match storeA P t (r a) (r x) H with
  | some H'=>some (.undef,H')
  | none=>none
 | .makeSlice t l c=>makeSliceA P t (r l) (r c) H
 | .buildSlice t n parts=>buildVA P t n (parts.toList.map fun p=>(p.1,r p.2)) H
 | .range t x=>rangeA P t (r x) H
 | .next it isString=>nextA (r it) isString H
 | .makeMap _ none=>some (.map H.length,H++[.map [] 0])
 | .mapUpdate t m k v=>match mapUpdateA P t (r m) (r k) (r v) H with
  | some H'=>some (.undef,H')
  | none=>match putA P t (r m) (r k) (r v) H with
   | some H'=>some (.undef,H')
   | none=>none
 | .insert t m k v=>match mapUpdateA P t (r m) (r k) (r v) H with
  | some H'=>some (.undef,H')
  | none=>none
 | .lookup t m k false=>match lookupA P t (r m) (r k) false H with
  | some v=>some (v,H)
  | none=>takeA P t (r m) (r k) H
 | .mapEntry t m k=>entryA P t (r m) (r k) H
 | .entryStore _ m s x=>match estoreA (r m) (r s) (r x) H with
  | some H'=>some (.undef,H')
  | none=>none
 | .call c=>appCallA P r H c
 | _=>none
theorem OpPost.of_le {E:Env} {w':World} {H':List AObj} (h1:HRel { w:=w',H:=H',loc:=E.loc,X:=E.X }) (h2:E.le { w:=w',H:=H',loc:=E.loc,X:=E.X }) (u:Value) :
  OpPost E .undef H' u w':=⟨E.loc,E.X.r,by simp [rel],h1,h2⟩
theorem PPost.toOp {E:Env} (HE:HRel E) {v:AV} {u:Value} {w':World} (h:PPost E v u w'):OpPost E v E.H u w' :=
 ⟨E.loc,E.X.r,h.2,HE.ext h.1,Env.le_ext h.1⟩
theorem evW_sound {P:Program} {E:Env} (HE:HRel E) {r:Operand→AV} {ρ:Operand→Value} (hr:∀ x,rel E (r x) (ρ x)) {o:Oper} {v:AV} {H':List AObj}
  (h:evW P r E.H o.op=some (v,H')) :
  ∃ n u w',(execOp ρ o).run P E.w=.ok n w'∧(n=.value u∨n=.skip∧u=undef)∧OpPost E v H' u w':=by
 obtain ⟨dst,op,type,pos,after,guard⟩:=o
 have same:∀ {s:Sem Value},(∃ u w',s.run P E.w=.ok u w'∧OpPost E v H' u w') →
   ∃ n u w',(do pure (Next.value (← s)):Sem Next).run P E.w=.ok n w'∧(n=.value u∨n=.skip∧u=undef)∧OpPost E v H' u w':=by
  rintro s ⟨u,w',g1,g2⟩
  exact ⟨_,u,w',run_value g1,.inl rfl,g2⟩
 cases op<;>simp only [evW] at h<;>try cases h
 case alloc t=>exact same (allocA_sound HE h)
 case box t x=>exact same (boxA_sound HE h (hr x))
 case store t a x =>
  split at h
  ·rename_i H1 hs
   cases h
   obtain ⟨w',g1,g2,g3⟩:=storeA_sound HE hs (hr a) (hr x)
   exact ⟨.skip,undef,w',by simp [execOp,g1],.inr ⟨rfl,rfl⟩,OpPost.of_le g2 g3 _⟩
  ·cases h
 case makeSlice t l c=>exact same (makeSliceA_sound HE h (hr l) (hr c))
 case buildSlice t n parts =>
  obtain ⟨u,w',g1,g2⟩:=buildVA_sound HE (cparts:=parts.toList.map fun p=>(p.1,ρ p.2)) h (by simp) (by
   simp only [List.map_map]
   have:=relList_map hr (parts.toList.map (·.2))
   simpa [List.map_map,Function.comp_def] using this)
  have e:(parts.toList.map fun p=>(p.1,ρ p.2)).toArray=parts.map fun (i,x)=>(i,ρ x):=by
   apply Array.ext'; simp
  rw [e] at g1
  exact same ⟨u,w',g1,g2⟩
 case range t x=>exact same (rangeA_sound HE h (hr x))
 case next it isString=>exact same (nextA_sound HE h (hr it))
 case makeMap t res =>
  cases res with
  | some _=>cases h
  | none =>
   cases h
   exact same ⟨_,_,by simp [Instr.makeMap,newObj]; rfl,new_map HE⟩
 case mapUpdate t m k x =>
  split at h
  ·rename_i H1 hs
   cases h
   obtain ⟨w',g1,g2,g3⟩:=mapUpdateA_sound HE hs (hr m) (hr k) (hr x)
   exact ⟨.skip,undef,w',by simp [execOp,g1],.inr ⟨rfl,rfl⟩,OpPost.of_le g2 g3 _⟩
  ·split at h
   ·rename_i H1 hs
    cases h
    obtain ⟨w',g1,g2⟩:=putA_sound HE hs (hr m) (hr k) (hr x)
    exact ⟨.skip,undef,w',by simp [execOp,g1],.inr ⟨rfl,rfl⟩,g2 _⟩
   ·cases h
 case lookup t m k ok =>
  cases ok with
  | true=>cases h
  | false =>
   simp only [] at h
   split at h
   ·rename_i v1 hv
    cases h
    obtain ⟨u,g1,g2⟩:=run_lookup_sound HE hv (hr m) (hr k)
    exact same ⟨u,_,g1,PPost.toOp HE ⟨Ext.refl _,g2⟩⟩
   ·exact same (takeA_sound HE h (hr m) (hr k))
 case mapEntry t m k=>exact same (entryA_sound HE h (hr m) (hr k))
 case entryStore t m s x =>
  split at h
  ·rename_i H1 hs
   cases h
   obtain ⟨w',g1,g2⟩:=estoreA_sound (P:=P) (t:=t) HE hs (hr m) (hr s) (hr x)
   exact ⟨.skip,undef,w',by simp [execOp,g1],.inr ⟨rfl,rfl⟩,g2 _⟩
  ·cases h
 case insert t m k x =>
  split at h
  ·rename_i H1 hs
   cases h
   obtain ⟨w',g1,g2,g3⟩:=mapUpdateA_sound HE hs (hr m) (hr k) (hr x)
   exact ⟨.skip,undef,w',by simp [execOp,g1],.inr ⟨rfl,rfl⟩,OpPost.of_le g2 g3 _⟩
  ·cases h
 case call c =>
  obtain ⟨callee,args,argTypes⟩:=c
  unfold appCallA at h
  split at h
  ·rename_i hcal
   simp only [] at hcal
   subst hcal
   simp only [] at h
   split at h
   case h_2=>cases h
   rename_i s x t xt hargs htys
   have hargs':args=#[s,x]:=by apply Array.ext'; simpa using hargs
   have htys':argTypes=#[t,xt]:=by apply Array.ext'; simpa using htys
   subst hargs'
   subst htys'
   split at h
   ·rename_i y hy
    cases h
    obtain ⟨u,w',g1,g2⟩:=appendZA_sound (P:=P) (ty:=type) HE hy (hr s) (hr x)
    refine ⟨.value u,u,w',?_,.inl rfl,g2⟩
    simp [execOp,resolve,invoke,builtin,g1]
   ·obtain ⟨u, w', g1, g2⟩ := appendA_sound (P := P) (ty := type) HE h (hr s) (hr x)
    refine ⟨.value u,u,w',?_,.inl rfl,g2⟩
    simp [execOp,resolve,invoke,builtin,g1]
  ·rename_i hcal
   simp only [] at hcal
   subst hcal
   simp only [] at h
   split at h
   case h_2=>cases h
   rename_i x t hargs htys
   have hargs':args=#[x]:=by apply Array.ext'; simpa using hargs
   have htys':argTypes=#[t]:=by apply Array.ext'; simpa using htys
   subst hargs'
   subst htys'
   split at h
   ·rename_i H1 hy
    cases h
    obtain ⟨w',g1,g2,g3⟩:=clearA_sound (P:=P) (ty:=type) (tys:=#[t]) (cs:=#[ρ x]) HE hy rfl rfl (hr x)
    refine ⟨.value (.tuple #[]),.tuple #[],w',?_,.inl rfl,E.loc,E.X.r,by simp [rel,rLs],g2,g3⟩
    simp [execOp,resolve,invoke,builtin,g1]
   ·cases h
  ·rename_i hcal
   simp only [] at hcal
   subst hcal
   simp only [] at h
   split at h
   case h_2=>cases h
   rename_i x k t ts hargs htys
   have hargs':args=#[x,k]:=by apply Array.ext'; simpa using hargs
   subst hargs'
   split at h
   ·rename_i H1 hy
    cases h
    have ht0:argTypes[0]? = some t:=by
     have:argTypes.toList[0]? = some t:=by rw [htys]; rfl
     simpa using this
    obtain ⟨w',g1,g2,g3⟩:=mapDeleteA_sound (P:=P) (ty:=type) (tys:=argTypes) (cs:=#[ρ x,ρ k]) HE hy ht0 rfl rfl (hr x) (hr k)
    refine ⟨.value (.tuple #[]),.tuple #[],w',?_,.inl rfl,E.loc,E.X.r,by simp [rel,rLs],g2,g3⟩
    simp [execOp,resolve,invoke,builtin,g1]
   ·cases h
  ·cases h
def ACall (P:Program) (f:FuncId) (args:List AV) (H:List AObj) (Q:AV→List AObj→Prop):Prop :=
 ∀ (E:Env) (cargs:Array Value),E.H=H→HRel E→rLs E args cargs.toList →
  Calls P f cargs E.w fun e w'=>∃ c v H',e=.returned c∧Q v H'∧OpPost E v H' c w'
def PCall (P:Program) (f:FuncId) (args:List AV) (v:AV):Prop:=∀ H,ACall P f args H fun v' H'=>v'=v∧H'=H
theorem ACall.mono {P:Program} {f:FuncId} {args:List AV} {H:List AObj} {Q Q':AV→List AObj→Prop} (h:ACall P f args H Q) (hq:∀ v H',Q v H'→Q' v H'):ACall P f args H Q' :=
 fun E cargs h1 h2 h3=>(h E cargs h1 h2 h3).mono fun _ _ ⟨c,v,H',e,q,r⟩=>⟨c,v,H',e,hq v H' q,r⟩
def hasBody (P:Program) (f:FuncId):Bool :=
 match P.funcs[f]? with
 | some fn => !(fn.name == "runtime.NumGoroutine")&&fn.body.isSome
 | none=>false
theorem run_callFunc {P:Program} {f:FuncId} (h:hasBody P f=true) (args:Array Value) (w:World):(callFunc f args).run P w=.ok (.enter f args) w:=by
 unfold hasBody at h
 split at h
 ·rename_i fn hf
  simp only [Bool.and_eq_true,Bool.not_eq_true'] at h
  have h1:fn.name ≠ "runtime.NumGoroutine" := by simpa using h.1
  have h2:fn.body≠none:=fun e=>by rw [e] at h; simp at h
  simp [callFunc,hf,h1,h2]
 ·cases h
def calleeC (r:Operand→AV) (c:Call):Option (FuncId × List AV) :=
 match c.callee with
 | .value g=>match r g with
  | .clo f caps=>some (f,c.args.toList.map r++caps)
  | _=>none
 | _=>none
def calleeA (r:Operand→AV):Op→Option (FuncId × List AV)
 | .call c=>calleeC r c
 | _=>none
theorem run_callee {P:Program} {E:Env} {r:Operand→AV} {ρ:Operand→Value} (hr:∀ x,rel E (r x) (ρ x)) {o:Oper} {f:FuncId} {args:List AV}
  (h:calleeA r o.op=some (f,args)) (hb:hasBody P f=true):∃ cargs:Array Value,(execOp ρ o).run P E.w=.ok (.enter f cargs) E.w∧rLs E args cargs.toList:=by
 obtain ⟨dst,op,type,pos,after,guard⟩:=o
 cases op<;>simp only [calleeA] at h<;>try cases h
 rename_i c
 obtain ⟨callee,as,argTypes⟩:=c
 cases callee<;>simp only [calleeC] at h<;>try cases h
 rename_i g
 split at h
 case h_2=>cases h
 rename_i f' caps hg
 cases h
 have hx:=hr g
 rw [hg] at hx
 simp only [rel] at hx
 obtain ⟨cs,hc,hl⟩:=hx
 refine ⟨as.map ρ++cs,?_,?_⟩
 ·simp [execOp,resolve,hc,Deferred.ofValue,invoke,run_callFunc hb]
 ·simp only [Array.toList_append, Array.toList_map]
  exact relList_append (relList_map hr as.toList) hl
end Go.AL

namespace Go.AL
open Go
variable [Dr]
inductive Cls where
 | pure | read | write
 deriving DecidableEq
def lenMap (pf:FuncId→Bool) (c:Call):Bool :=
 match c.argTypes.toList with
 | [t]=>pf (t+1000000)
 | _=>false
def clsOf (pf:FuncId→Bool):Op→Cls
 | .load ..=>.read
 | .lookup t _ _ _=>if pf (t+1500000) then .write else .read
 | .buildSlice t n _=>if pf (t+100000*n+2000000) then .write else .pure
 | .alloc .. | .box .. | .store .. | .makeSlice .. | .mapUpdate .. | .insert .. | .makeMap .. | .mapEntry .. | .entryStore .. | .range .. | .next .. | .entry ..=>.write
 | .go .. | .defer .. | .panic .. | .send .. | .recv .. | .select .. | .makeChan .. | .ready .. | .waits ..=>.write
 | .call c=>match c.callee with
  | .builtin .len=>match lenMap pf c with
   | true=>.read
   | false=>.pure
  | .builtin .max | .builtin .min | .builtin .cap=>.pure
  | .value (.func f)=>if pf f then .pure else .write
  | _=>.write
 | _=>.pure
def lenMA (P:Program) (r:Operand→AV) (H:List AObj) (c:Call):Option AV :=
 match c.callee,c.args.toList,c.argTypes.toList with
 | .builtin .len,[a],[t]=>match mapTy P t,r a with
  | some _,.map id=>match H[id]? with
   | some (.map es _)=>some (.int es.length)
   | _=>none
  | _,_=>none
 | _,_,_=>none
theorem lenMA_sound {P:Program} {E:Env} (HE:HRel E) {r:Operand→AV} {ρ:Operand→Value} (hr:∀ x,rel E (r x) (ρ x)) {o:Oper} {c:Call} {v:AV} (ho:o.op=.call c) (h:lenMA P r E.H c=some v) :
  ∃ u,(execOp ρ o).run P E.w=.ok (.value u) E.w∧rel E v u:=by
 obtain ⟨dst,op,type,pos,after,guard⟩:=o
 subst ho
 obtain ⟨callee,args,argTypes⟩:=c
 unfold lenMA at h
 split at h
 case h_2=>cases h
 rename_i a t hcal hargs htys
 simp only [] at hcal hargs htys
 subst hcal
 have hargs':args=#[a]:=by apply Array.ext'; simpa using hargs
 have htys':argTypes=#[t]:=by apply Array.ext'; simpa using htys
 subst hargs'
 subst htys'
 split at h
 case h_2=>cases h
 rename_i p id ht hid
 split at h
 case h_2=>cases h
 rename_i es cl hH
 cases h
 have hra:=hr a
 rw [hid] at hra
 obtain ⟨b,n,ms,e1,h1,h2,h3⟩:=rel_map HE hH hra
 obtain ⟨kt,et⟩:=p
 have hl:=(relEntries_iff.1 h3).1
 have e2:(getObj b).run P E.w=.ok (.map ms cl) E.w:=by simp [getObj,Sem.run,h2]
 refine ⟨goInt ms.size,?_,by simp [rel,goInt,hl]⟩
 simp only [execOp,resolve,Sem.run_bind,Sem.run_pure,Result.andThen_ok,invoke]
 simp [builtin,Builtin.len_,Sem.run_underlying_some (mapTy_some ht),e1,e2]
def evR (P:Program) (r:Operand→AV) (H:List AObj):Op→Option AV
 | .load t a=>loadA P t (r a) H
 | .lookup t m k ok=>lookupA P t (r m) (r k) ok H
 | .call c=>lenMA P r H c
 | _=>none
theorem evR_sound {P:Program} {E:Env} (HE:HRel E) {r:Operand→AV} {ρ:Operand→Value} (hr:∀ x,rel E (r x) (ρ x)) {o:Oper} {v:AV} (h:evR P r E.H o.op=some v) :
  ∃ u,(execOp ρ o).run P E.w=.ok (.value u) E.w∧rel E v u:=by
 obtain ⟨dst,op,type,pos,after,guard⟩:=o
 cases op<;>simp only [evR] at h<;>try cases h
 case load t a =>
  obtain ⟨u,g1,g2⟩:=run_load_sound HE h (hr a)
  exact ⟨u,run_value g1,g2⟩
 case lookup t m k ok =>
  obtain ⟨u,g1,g2⟩:=run_lookup_sound HE h (hr m) (hr k)
  exact ⟨u,run_value g1,g2⟩
 case call c=>exact lenMA_sound HE hr rfl h
def ACallX (P:Program) (f:FuncId) (args:List AV) (H:List AObj) (v:AV) (H':List AObj):Prop:=ACall P f args H fun v1 H1=>v1=v∧H1=H'
def wantedA (ops:Array Oper) (fr:List AV) (o:Oper):Option Bool :=
 match o.guard with
 | none=>some true
 | some (j,want)=>match (ops[j]?).bind (·.dst) with
  | some t=>match fr[t]? with
   | some (.lit (.bool b))=>some (b==want)
   | some (.tuple [])=>some false
   | _=>none
  | none=>none
def Frz (H:List AObj) (v v1:AV) (H1:List AObj):Prop :=
 ∃ (id ver:Nat) (ks:List Kd) (rows:List (List G)),v=.vec ks.length id ver 0 rows.length∧H[id]? = some (.vec ks.length ver (rows.map (gCells ks)))∧v1=.listF ks rows∧H1=H.set id .dead
theorem frz_rel {E:Env} (HE:HRel E) {id ver:Nat} {ks:List Kd} {rows:List (List G)} (hid:E.H[id]? = some (.vec ks.length ver (rows.map (gCells ks)))) {c:Value} (hr:rel E (.vec ks.length id ver 0 rows.length) c) :
  rel { w:=E.w,H:=E.H.set id .dead,loc:=E.loc.set id none,X:=E.X } (.listF ks rows) c:=by
 have hle:=Env.le_drop HE id
 have ho:=HE.obj id _ hid
 rw [rel_listF]
 simp only [rel] at hr ⊢
 obtain ⟨⟨base,cap,rfl,hcap,_⟩,_,h3⟩:=hr
 obtain ⟨q1,q2⟩:=h3 ⟨_,hid,rfl⟩
 have hcl:closedRows (rows.map (gCells ks)):=by
  intro r hr
  obtain ⟨g,_,rfl⟩:=List.mem_map.1 hr
  exact gCells_closed ks g
 refine ⟨hcl,base,cap,by simp,by simpa using hcap,?_⟩
 simp only [objRel] at ho
 rcases ho with ⟨h1,h2⟩ | ⟨b,mm,h1,h2,h3,_,h4⟩
 ·exact .inl h2
 ·obtain ⟨g1, o, g2, g3⟩ := q2 b mm h1
  by_cases hm:rows=[]
  ·subst hm; exact .inl rfl
  ·right
   have:0<rows.length:=by cases rows with | nil=>exact (hm rfl).elim | cons _ _=>simp
   simp at h3
   have ho:=g2 (by omega)
   simp at ho
   subst ho
   simp only [Value.slice.injEq] at g3
   refine ⟨b,0,g3.1,⟨(HE.lt id b mm h1).1,?_,(HE.lt id b mm h1).2⟩,relRows_closed hle.toC _ hcl rfl h4⟩
   rintro (⟨j,c',hj⟩ | ⟨l,k,c',hj⟩)
   case inr=>exact HE.rloc _ _ _ _ _ _ h1 hj
   simp only [List.getElem?_set] at hj
   split at hj
   ·split at hj<;>cases hj
   ·rename_i hne
    exact hne (HE.inj _ _ _ _ _ h1 hj)
def stF (P:Program) (r:Operand→AV) (H:List AObj) (v:AV) (H':List AObj):Op→Prop
 | .store t a x=>∃ v1 H1,Frz H (r x) v1 H1∧storeA P t (r a) v1 H1=some H'∧v=.undef
 | _=>False
theorem stF_congr {P:Program} {r r':Operand→AV} {H:List AObj} {v:AV} {H':List AObj} (o:Op) (h:∀ x∈o.operands,r x=r' x):stF P r H v H' o=stF P r' H v H' o:=by
 cases o<;>try rfl
 rename_i t a x
 simp only [stF]
 rw [h a (by simp [Op.operands]),h x (by simp [Op.operands])]
theorem stF_sound {P:Program} {E:Env} (HE:HRel E) {r:Operand→AV} {ρ:Operand→Value} (hr:∀ x,rel E (r x) (ρ x)) {o:Oper} {v:AV} {H':List AObj} (h:stF P r E.H v H' o.op) :
  ∃ w',(execOp ρ o).run P E.w=.ok .skip w'∧OpPost E v H' undef w':=by
 obtain ⟨dst,op,type,pos,after,guard⟩:=o
 cases op<;>try exact h.elim
 rename_i t a x
 obtain ⟨v1,H1,⟨id,ver,ks,rows,h1,h2,rfl,rfl⟩,h3,rfl⟩:=h
 have hx:=hr x
 rw [h1] at hx
 have hle:=Env.le_drop HE id
 obtain ⟨w',g1,g2,g3⟩:=storeA_sound (E:={ w:=E.w,H:=E.H.set id .dead,loc:=E.loc.set id none,X:=E.X }) (HRel.drop HE id fun o ho=>by rw [h2] at ho; cases ho; rfl) h3 (rel_le hle _ (hr a)) (frz_rel HE h2 hx)
 have g1:(Instr.storeAt t (ρ a) (ρ x)).run P E.w=.ok () w':=g1
 exact ⟨w',by simp [execOp,g1],E.loc.set id none,E.X.r,by simp [rel],g2,hle.trans g3⟩
def Yields (P:Program) (pf:FuncId→Bool) (ops:Array Oper) (o:Oper) (s:St) (v:AV) (H':List AObj):Prop :=
 match wantedA ops s.fr o with
 | none=>False
 | some false=>v=.tuple []∧H'=s.H
 | some true=>match clsOf pf o.op with
  | .pure=>H'=s.H∧(evP P s.eval o.op=some v∨∃ f args,calleeA s.eval o.op=some (f,args)∧hasBody P f=true∧PCall P f args v)
  | .read=>H'=s.H∧evR P s.eval s.H o.op=some v
  | .write=>(evW P s.eval s.H o.op=some (v,H')∨∃ f args,calleeA s.eval o.op=some (f,args)∧hasBody P f=true∧ACallX P f args s.H v H')∨((∃ t id m,o.op=.alloc t∧allocVA P t id m s.H=some (v,H'))∨stF P s.eval s.H v H' o.op)
def putFr (fr:List AV) (dst:Option Tmp) (v:AV):List AV :=
 match dst with
 | some d=>fr.set d v
 | none=>fr
def St.put (s:St) (dst:Option Tmp) (v:AV) (H':List AObj):St:=⟨putFr s.fr dst v,H'⟩
theorem relList_set {E:Env}:∀ {as:List AV} {vs:List Value} {a:AV} {v:Value} (d:Nat),rLs E as vs→rel E a v→rLs E (as.set d a) (vs.set d v)
 | [],[],_,_,_,_,_=>by simp [rLs]
 | [],_::_,_,_,_,h,_=>by simp [rLs] at h
 | _::_,[],_,_,_,h,_=>by simp [rLs] at h
 | _::as,_::vs,a,v,0,h,hv=>by simp only [rLs] at h; simp only [List.set_cons_zero,rLs]; exact ⟨hv,h.2⟩
 | _::as,_::vs,a,v,d+1,h,hv=>by simp only [rLs] at h; simp only [List.set_cons_succ,rLs]; exact ⟨h.1,relList_set d h.2 hv⟩
theorem putFr_rel {E E':Env} {s:St} {a:Act} (h:rLs E s.fr a.tmps.toList) (hle:E.le E') (dst:Option Tmp) {v:AV} {u:Value} (hv:rel E' v u) :
  rLs E' (putFr s.fr dst v) (a.put dst u).tmps.toList:=by
 have h':=relList_le hle _ h
 cases dst with
 | none=>exact h'
 | some d =>
  simp only [putFr,Act.put,Array.toList_setIfInBounds]
  exact relList_set d h' hv
def fz (r:Option Nat):Fence:={ Fence.wide with round:=r }
theorem callsFz {r:Option Nat} {n:Nat} {P:Program} {f:FuncId} {args:Array Value} {w:World} {R:Ending→World→Prop} (h:Calls P f args w R):CallsIn (fz r) n P f args w R:=(callsIn_wide (n:=n)).2 h
theorem put_defers (a:Act) (dst:Option Tmp) (v:Value):(a.put dst v).defers=a.defers:=by cases dst<;>rfl
theorem wanted_of {ops:Array Oper} {s:St} {E:Env} {a:Act} (h:SRel s E a) {o:Oper} {b:Bool} (hw:wantedA ops s.fr o=some b) :
  Region.wanted o (yielded ops a.tmps)=b:=by
 unfold wantedA at hw
 unfold Region.wanted
 cases hg:o.guard with
 | none=>rw [hg] at hw; simpa using hw
 | some jw =>
  obtain ⟨j,want⟩:=jw
  rw [hg] at hw
  simp only [] at hw ⊢
  split at hw
  case h_2=>cases hw
  rename_i t ht
  split at hw
  ·rename_i b' hb
   cases hw
   obtain ⟨u,g1,g2⟩:=relList_get h.fr hb
   simp only [rel] at g2
   subst g2
   have g1':a.tmps[t]? = some (.bool b'):=by simpa using g1
   simp [yielded,ht,g1']
  ·rename_i hb
   cases hw
   obtain ⟨u,g1,g2⟩:=relList_get h.fr hb
   simp only [rel] at g2
   obtain ⟨cs,rfl,_⟩:=g2
   have g1':a.tmps[t]? = some (.tuple cs):=by simpa using g1
   simp [yielded,ht,g1']
  ·cases hw
def CPost (E:Env) (s':St) (a':Act) (w':World):Prop :=
 ∃ loc' r',SRel s' { w:=w',H:=s'.H,loc:=loc',X:=E.X.re r' } a'∧E.le { w:=w',H:=s'.H,loc:=loc',X:=E.X.re r' }
theorem yields_wpOp {P:Program} {pf:FuncId→Bool} {ops:Array Oper} {s:St} {E:Env} {a:Act} (hs:SRel s E a) {i:Nat} {o:Oper} (hi:ops[i]? = some o) {v:AV} {H':List AObj}
  (hy:Yields P pf ops o s v H') {K:Act→World→Prop} {Q:Exit→Act→World→Prop} (hK:∀ a' w',CPost E (s.put o.dst v H') a' w'→K a' w') (ro:Option Nat):wpOpIn (fz ro) 0 P ops Q i K a E.w:=by
 have hev:=hs.eval
 have hH:=hs.H
 have fin:∀ {u:Value} {w':World},OpPost E v H' u w'→K (a.put o.dst u) w':=by
  rintro u w' ⟨loc',r',h1,h2,h3⟩
  exact hK _ _ ⟨loc',r',⟨rfl,putFr_rel hs.fr h3 o.dst h1,by rw [put_defers]; exact marksOk_le hs.heap h3 hs.defers,h2⟩,h3⟩
 have pure':H'=s.H→∀ {u:Value} {w':World},PPost E v u w'→OpPost E v H' u w':=by
  intro e u w' hp
  have:=hp.toOp hs.heap
  rw [hH,←e] at this
  exact this
 have enterOk:(fz ro).depth.isSome=true→1≤0:=fun h=>by cases h
 unfold wpOpIn
 simp only [hi]
 unfold Yields at hy
 split at hy
 ·cases hy
 ·rename_i hw
  rw [wanted_of hs hw]
  simp only [Bool.false_eq_true,if_false]
  obtain ⟨rfl,e⟩:=hy
  refine ⟨fun _ _=>trivial,fin ?_⟩
  rw [e,←hH]
  exact ⟨E.loc,E.X.r,by simp only [rel]; exact ⟨#[],rfl,by simp [rLs]⟩,hs.heap,Env.le.refl E⟩
 ·rename_i hw
  rw [wanted_of hs hw]
  simp only [if_true]
  split at hy
  ·obtain ⟨e, hy⟩ := hy
   rcases hy with hy | ⟨f,args,h1,h2,h3⟩
   ·have hnd : ∀ c, o.op ≠ .defer c := fun c e => by rw [e] at hy; cases hy
    obtain ⟨u,w',g1,g2⟩:=evP_sound hs.heap hev hy
    unfold Oper.wpIn
    rw [Oper.semAt_eq _ _ _ hnd,g1]
    exact ⟨fun _ _=>trivial,fin (pure' e g2)⟩
   ·have hnd : ∀ c, o.op ≠ .defer c := fun c e => by rw [e] at h1; cases h1
    obtain ⟨cargs,g1,g2⟩:=run_callee hev h1 h2
    unfold Oper.wpIn
    rw [Oper.semAt_eq _ _ _ hnd,g1]
    refine ⟨fun _ _=>trivial,enterOk,callsFz ((h3 s.H E cargs hH hs.heap g2).mono ?_)⟩
    rintro _ w' ⟨c,v',H1,rfl,⟨rfl,rfl⟩,hp⟩
    exact fin (by rw [e]; exact hp)
  ·obtain ⟨e, hy⟩ := hy
   rw [←hH] at hy
   have hnd:∀ c,o.op≠.defer c:=fun c e=>by rw [e] at hy; cases hy
   obtain ⟨u,g1,g2⟩:=evR_sound hs.heap hev hy
   unfold Oper.wpIn
   rw [Oper.semAt_eq _ _ _ hnd,g1]
   exact ⟨fun _ _=>trivial,fin (pure' e (PPost.same g2))⟩
  ·rcases hy with (hy | ⟨f, args, h1, h2, h3⟩) | ⟨t, id, m, ho, hy⟩ | hy
   ·have hnd : ∀ c, o.op ≠ .defer c := fun c e => by rw [e] at hy; cases hy
    rw [←hH] at hy
    obtain ⟨n,u,w',g1,g2,g3⟩:=evW_sound hs.heap hev hy
    unfold Oper.wpIn
    rw [Oper.semAt_eq _ _ _ hnd,g1]
    rcases g2 with rfl | ⟨rfl,rfl⟩
    ·exact ⟨fun _ _=>trivial,fin g3⟩
    ·exact ⟨fun _ _=>trivial,fin g3⟩
   ·have hnd : ∀ c, o.op ≠ .defer c := fun c e => by rw [e] at h1; cases h1
    obtain ⟨cargs,g1,g2⟩:=run_callee hev h1 h2
    unfold Oper.wpIn
    rw [Oper.semAt_eq _ _ _ hnd,g1]
    refine ⟨fun _ _=>trivial,enterOk,callsFz ((h3 E cargs hH hs.heap g2).mono ?_)⟩
    rintro _ w' ⟨c,v',H1,rfl,⟨rfl,rfl⟩,hp⟩
    exact fin hp
   ·rw [← hH] at hy
    obtain ⟨u,w',g1,g2⟩:=allocVA_sound hs.heap hy
    unfold Oper.wpIn
    obtain ⟨dst,op,type,pos,after,guard⟩:=o
    simp only [] at ho
    subst ho
    have g3:(execOp a.eval ⟨dst,.alloc t,type,pos,after,guard⟩).run P E.w=.ok (.value u) w':=run_value g1
    rw [Oper.semAt_eq _ _ _ (fun c e=>by cases e),g3]
    exact ⟨fun _ _=>trivial,fin g2⟩
   ·have hnd : ∀ c, o.op ≠ .defer c := fun c e => by rw [e] at hy; exact hy
    rw [←hH] at hy
    obtain ⟨w',g1,g2⟩:=stF_sound hs.heap hev hy
    unfold Oper.wpIn
    rw [Oper.semAt_eq _ _ _ hnd,g1]
    exact ⟨fun _ _=>trivial,fin g2⟩
def aOps (P:Program) (pf:FuncId→Bool) (ops:Array Oper):List Oper→St→St→Prop
 | [],s,s'=>s'=s
 | o::rest,s,s'=>∃ v H',Yields P pf ops o s v H'∧aOps P pf ops rest (s.put o.dst v H') s'
theorem CPost.after {E E':Env} {s':St} {a':Act} {w':World} (h:E.le E') (h':CPost E' s' a' w'):CPost E s' a' w':=by
 obtain ⟨loc',r',h3,h4⟩:=h'
 refine ⟨loc',r',?_,?_⟩
 ·rw [←XS.re_eq h.X]; exact h3
 ·rw [←XS.re_eq h.X]; exact h.trans h4
theorem CPost.refl {s:St} {E:Env} {a:Act} (h:SRel s E a):CPost E s a E.w:=by
 obtain ⟨w,H,loc,X⟩:=E
 have:=h.H
 simp only at this
 subst this
 exact ⟨loc,X.r,h,Env.le.refl _⟩
theorem wpOps_of_aOps {P:Program} {pf:FuncId→Bool} {ops:Array Oper} {Q:Exit→Act→World→Prop}:∀ (l:List Oper) (k:Nat) (s s':St) (E:Env) (a:Act),
  l=ops.toList.drop k→aOps P pf ops l s s'→SRel s E a→(∀ a' w',CPost E s' a' w'→Q .normal a' w')→∀ ro:Option Nat,wpOpsIn (fz ro) 0 P ops Q (List.range' k l.length) a E.w
 | [],k,s,s',E,a,_,h,hs,hQ,ro=>by
  simp only [aOps] at h
  subst h
  exact hQ _ _ (CPost.refl hs)
 | o::l,k,s,s',E,a,hl,h,hs,hQ,ro=>by
  obtain ⟨v,H',hy,hrest⟩:=h
  simp only [List.length_cons,List.range'_succ]
  rw [wpOpsIn_cons]
  have hk:ops[k]? = some o:=by
   have:(ops.toList.drop k)[0]? = some o:=by rw [←hl]; rfl
   simpa using this
  refine yields_wpOp hs hk hy (fun a' w' hc=>?_) ro
  obtain ⟨loc',r',h1,h2⟩:=hc
  refine wpOps_of_aOps l (k+1) _ s' { w:=w',H:=H',loc:=loc',X:=E.X.re r' } a' ?_ hrest h1 (fun a2 w2 hc2=>hQ a2 w2 ?_) ro
  ·rw [←List.drop_drop,←hl]; rfl
  ·exact CPost.after h2 hc2
/-! ### Regions in any order -/
def waits (ops:Array Oper):Nat→Nat→Nat→Bool
 | 0,_,_=>false
 | n+1,j,i=>match ops[j]? with
  | some o=>o.after.toList.any fun e=>Region.binds .any e&&(e.on==i||waits ops n e.on i)
  | none=>false
def isAlloc:Op→Bool
 | .alloc _=>true
 | _=>false
def compat (pf:FuncId→Bool) (x y:Oper):Bool :=
 match clsOf pf x.op,clsOf pf y.op with
 | .pure,_ | _,.pure | .read,.read=>true
 | .read,.write=>isAlloc y.op
 | _,_=>false
def anyOrder (pf:FuncId→Bool) (ops:Array Oper):Bool :=
  Region.noSelect ops &&
  (List.range ops.size).all fun j=>(match ops[j]? with
    | some oj=>(oj.after.toList.all fun e => !Region.binds .any e||e.on<j) &&
      ((List.range j).all fun i => match ops[i]? with
        | some oi=>waits ops ops.size j i||(oi.apart ops oj&&oj.apart ops oi&&compat pf oi oj)
        | none=>true)
    | none=>true)
def aOp (P:Program) (pf:FuncId→Bool) (ops:Array Oper) (i:Nat) (K:St→Prop) (s:St):Prop :=
 match ops[i]? with
 | none=>K s
 | some o=>∃ v H',Yields P pf ops o s v H'∧K (s.put o.dst v H')
def aAny (P:Program) (pf:FuncId→Bool) (ops:Array Oper) (s':St):Nat→Array Bool→St→Prop
 | 0,listed,s=>Region.ready .any ops listed=[]∧s=s'
 | fuel+1,listed,s=>(Region.ready .any ops listed=[]→s=s')∧∀ i∈Region.ready .any ops listed,aOp P pf ops i (aAny P pf ops s' fuel (listed.setIfInBounds i true)) s
theorem wpAny_of_aAny {P:Program} {pf:FuncId→Bool} {ops:Array Oper} {s':St} {Q:Exit→Act→World→Prop}:∀ (fuel:Nat) (listed:Array Bool) (s:St) (E:Env) (a:Act),
  SRel s E a→aAny P pf ops s' fuel listed s→(∀ a' w',CPost E s' a' w'→Q .normal a' w')→∀ ro:Option Nat,wpAnyIn (fz ro) 0 P .any ops Q fuel listed a E.w
 | 0,_,s,E,a,hs,h,hQ,_=>⟨h.1,hQ _ _ (h.2▸CPost.refl hs)⟩
 | fuel+1,listed,s,E,a,hs,h,hQ,ro=>by
  refine ⟨fun h0=>hQ _ _ (h.1 h0▸CPost.refl hs),fun i hi=>?_⟩
  have h1:=h.2 i hi
  unfold aOp at h1
  cases ho:ops[i]? with
  | none =>
   rw [ho] at h1
   unfold wpOpIn
   simp only [ho]
   exact wpAny_of_aAny fuel _ s E a hs h1 hQ ro
  | some o =>
   rw [ho] at h1
   obtain ⟨v,H',hy,hK⟩:=h1
   refine yields_wpOp hs ho hy (fun a' w' hc=>?_) ro
   obtain ⟨loc',r',g1,g2⟩:=hc
   exact wpAny_of_aAny fuel _ _ { w:=w',H:=H',loc:=loc',X:=E.X.re r' } a' g1 hK (fun a2 w2 hc2=>hQ a2 w2 (CPost.after g2 hc2)) ro
theorem looksAt_tmp {ops:Array Oper} {o:Oper} {t:Tmp} (h:Operand.tmp t∈o.op.operands):t∈o.looksAt ops :=
 List.mem_append_left _ (List.mem_filterMap.2 ⟨.tmp t,by simpa using h,rfl⟩)
theorem getD_putFr {fr:List AV} {d t:Nat} {v:AV} (h:d≠t):(fr.set d v).getD t .undef=fr.getD t .undef:=by
 simp [List.getD_eq_getElem?_getD,List.getElem?_set_ne h]
theorem eval_put {ops:Array Oper} {s:St} {o:Oper} {dst:Option Tmp} {v:AV} {H':List AObj} (h:∀ d,dst=some d→d∉o.looksAt ops) {x:Operand} (hx:x∈o.op.operands) :
  (s.put dst v H').eval x=s.eval x:=by
 cases dst with
 | none=>cases x<;>rfl
 | some d =>
  cases x with
  | tmp t =>
   have hne:d≠t:=fun e=>h d rfl (e▸looksAt_tmp hx)
   simp only [St.eval,St.put,putFr]
   exact getD_putFr hne
  | _=>rfl
theorem wantedA_put {ops:Array Oper} {fr:List AV} {o:Oper} {dst:Option Tmp} {v:AV} (h:∀ d,dst=some d→d∉o.looksAt ops) :
  wantedA ops (putFr fr dst v) o=wantedA ops fr o:=by
 cases dst with
 | none=>rfl
 | some d =>
  unfold wantedA
  cases hg:o.guard with
  | none=>rfl
  | some gw =>
   obtain ⟨g,want⟩:=gw
   simp only []
   cases ht:(ops[g]?).bind (·.dst) with
   | none=>rfl
   | some t =>
    have hne:d≠t:=fun e=>h d rfl (by subst e; simp [Oper.looksAt,hg,ht])
    simp only [putFr,List.getElem?_set_ne hne]
theorem putFr_comm (fr:List AV) {x y:Option Tmp} (v u:AV) (h:∀ d,x=some d→y≠some d):putFr (putFr fr x v) y u=putFr (putFr fr y u) x v:=by
 cases x with
 | none=>rfl
 | some d =>
  cases y with
  | none=>rfl
  | some e =>
   have hne:d≠e:=fun he=>h d rfl (he▸rfl)
   simp only [putFr]
   rw [List.set_comm _ _ hne]
theorem evP_congr {P:Program} {r r':Operand→AV} (o:Op) (h:∀ x∈o.operands,r x=r' x):evP P r o=evP P r' o:=by
 cases o<;>simp only [evP]<;>simp only [Op.operands] at h
 case build t ps =>
  have:(ps.toList.map fun p=>(p.1,r p.2))=ps.toList.map fun p=>(p.1,r' p.2):=List.map_congr_left fun p hp=>by
   rw [h p.2 (by simp; exact ⟨p.1,by simpa using hp⟩)]
  rw [this]
 case buildSlice t n ps =>
  have:(ps.toList.map fun p=>(p.1,r p.2))=ps.toList.map fun p=>(p.1,r' p.2):=List.map_congr_left fun p hp=>by
   rw [h p.2 (by simp; exact ⟨p.1,by simpa using hp⟩)]
  rw [this]
 case makeFunc fn first captured =>
  unfold makeFuncA
  cases fn<;>try rfl
  have:(captured.toList.map r)=captured.toList.map r':=List.map_congr_left fun x hx=>h x (by simp; right; simpa using hx)
  simp only [this]
 case call c =>
  obtain ⟨callee,args,argTypes⟩:=c
  unfold bCallA
  cases callee<;>try rfl
  have:(args.toList.map r)=args.toList.map r':=List.map_congr_left fun x hx=>h x (by simp [Call.operands]; simpa using hx)
  simp only [this]
 case slice t x lo hi mx=>cases lo<;>cases hi<;>cases mx<;>simp_all
 all_goals (first | rfl | (simp_all; done))
theorem evR_congr {P:Program} {r r':Operand→AV} {H:List AObj} (o:Op) (h:∀ x∈o.operands,r x=r' x):evR P r H o=evR P r' H o:=by
 cases o<;>simp only [evR]<;>simp only [Op.operands] at h
 case call c =>
  obtain ⟨callee,args,argTypes⟩:=c
  unfold lenMA
  cases callee<;>try rfl
  split
  ·rename_i a t hc ha ht
   have hm:a∈args:=by
    have:a∈args.toList:=by rw [show args.toList=[a] from ha]; simp
    simpa using this
   have:r a=r' a:=h a (by simp [Call.operands]; simpa using hm)
   simp only [this,hc,ha,ht]
  ·rfl
 all_goals (first | rfl | (simp_all; done))
theorem evW_congr {P:Program} {r r':Operand→AV} {H:List AObj} (o:Op) (h:∀ x∈o.operands,r x=r' x):evW P r H o=evW P r' H o:=by
  cases o<;>simp only [evW]<;>simp only [Op.operands] at h
  case buildSlice t n ps =>
    have:(ps.toList.map fun p=>(p.1,r p.2))=ps.toList.map fun p=>(p.1,r' p.2):=List.map_congr_left fun p hp=>by
      rw [h p.2 (by simp; exact ⟨p.1,by simpa using hp⟩)]
    rw [this]
  case call c =>
    obtain ⟨callee,args,argTypes⟩:=c
    unfold appCallA
    cases callee<;>try rfl
    rename_i b
    have hall:∀ x,x∈args.toList→r x=r' x:=fun x hx=>h x (by simp [Call.operands]; simpa using hx)
    cases b<;>try rfl
    all_goals simp only []
    all_goals split
    all_goals first
      | rfl
      | (rename_i s x t xt ha ht
         rw [hall s (by rw [ha]; simp),hall x (by rw [ha]; simp)])
      | (rename_i x t ha ht
         rw [hall x (by rw [ha]; simp)])
      | (rename_i x k t ts ha ht
         rw [hall x (by rw [ha]; simp),hall k (by rw [ha]; simp)])
  case makeMap t res=>cases res<;>rfl
  case lookup t m k ok =>
    cases ok with
    | true=>rfl
    | false=>simp only [h m (by simp),h k (by simp)]
  case mapEntry t m k=>simp only [h m (by simp),h k (by simp)]
  case entryStore t m s x=>simp only [h m (by simp),h s (by simp),h x (by simp)]
  all_goals (first | rfl | (simp_all; done))
theorem calleeA_congr {r r':Operand→AV} (o:Op) (h:∀ x∈o.operands,r x=r' x):calleeA r o=calleeA r' o:=by
 cases o<;>simp only [calleeA]<;>simp only [Op.operands] at h
 rename_i c
 obtain ⟨callee,args,argTypes⟩:=c
 unfold calleeC
 cases callee<;>try rfl
 rename_i g
 have e1:r g=r' g:=h g (by simp [Call.operands])
 have e2:(args.toList.map r)=args.toList.map r':=List.map_congr_left fun x hx=>h x (by simp [Call.operands]; right; simpa using hx)
 simp only [e1,e2]
end Go.AL

namespace Go.AL
open Go
variable [Dr]
variable {P:Program} {pf:FuncId→Bool} {ops:Array Oper}
theorem yields_congr {o:Oper} {s s1:St} {v:AV} {H':List AObj} (hw:wantedA ops s1.fr o=wantedA ops s.fr o) (hr:∀ x∈o.op.operands,s1.eval x=s.eval x) (hH:s1.H=s.H) :
  Yields P pf ops o s1 v H'↔Yields P pf ops o s v H':=by
 unfold Yields
 rw [hw,hH,evP_congr o.op hr,evR_congr o.op hr,evW_congr o.op hr,calleeA_congr o.op hr,stF_congr o.op hr]
theorem yields_pure {o:Oper} {s:St} {v:AV} {H':List AObj} (hc:clsOf pf o.op=.pure) (h:Yields P pf ops o s v H'):H'=s.H∧∀ H2,Yields P pf ops o ⟨s.fr,H2⟩ v H2:=by
 have key:∀ H2:List AObj,∀ x∈o.op.operands,St.eval ⟨s.fr,H2⟩ x=s.eval x:=fun H2 x _=>by cases x<;>rfl
 unfold Yields at h
 cases hw:wantedA ops s.fr o with
 | none=>rw [hw] at h; exact h.elim
 | some b =>
  rw [hw] at h
  cases b with
  | false =>
   refine ⟨h.2,fun H2=>?_⟩
   unfold Yields
   rw [show wantedA ops (St.mk s.fr H2).fr o=some false from hw]
   exact ⟨h.1,rfl⟩
  | true =>
   simp only [hc] at h
   refine ⟨h.1,fun H2=>?_⟩
   unfold Yields
   rw [show wantedA ops (St.mk s.fr H2).fr o=some true from hw]
   simp only [hc]
   refine ⟨trivial,?_⟩
   rw [evP_congr o.op (key H2),calleeA_congr o.op (key H2)]
   exact h.2
theorem yields_read {o:Oper} {s:St} {v:AV} {H':List AObj} (hc:clsOf pf o.op=.read) (h:Yields P pf ops o s v H'):H'=s.H:=by
 unfold Yields at h
 simp only [hc] at h
 split at h
 ·cases h
 ·exact h.2
 ·exact h.1
theorem evR_push {r:Operand→AV} {H:List AObj} {x:AObj} {v:AV}:∀ {op:Op},evR P r H op=some v→evR P r (H++[x]) op=some v:=by
 have get:∀ {i:Nat} {y:AObj},H[i]? = some y→(H++[x])[i]? = some y:=by
  intro i y h
  rw [List.getElem?_append_left (List.getElem?_eq_some_iff.1 h).1]
  exact h
 intro op h
 cases op<;>simp only [evR] at h ⊢<;>try cases h
 case load t a =>
  unfold loadA at h ⊢
  split at h
  ·rename_i n agg hv
   split at h
   ·exact h
   ·rename_i id ver w row col ha
    cases hi:H[id]? with
    | none=>rw [hi] at h; cases h
    | some y=>rw [hi] at h; rw [get hi]; exact h
   ·cases h
  ·cases h
 case lookup t m k ok =>
  unfold lookupA at h ⊢
  split at h
  ·rename_i kt et id hm hi'
   cases hi:H[id]? with
   | none=>rw [hi] at h; cases h
   | some y=>rw [hi] at h; rw [get hi]; exact h
  ·cases h
 case call c =>
  unfold lenMA at h ⊢
  split at h
  ·split at h
   ·rename_i id _ _
    cases hi:H[id]? with
    | none=>rw [hi] at h; cases h
    | some y=>rw [hi] at h; rw [get hi]; exact h
   ·cases h
  ·cases h
theorem evR_hole {r:Operand→AV} {H:List AObj} {id k:Nat} {x:AObj} {v:AV} (hid:H[id]? = some (.vec k 0 [])):∀ {op:Op},evR P r H op=some v→evR P r (H.set id x) op=some v:=by
 have get:∀ {i:Nat},i≠id→(H.set id x)[i]? = H[i]? := fun h=>List.getElem?_set_ne (Ne.symm h)
 intro op h
 cases op<;>simp only [evR] at h ⊢<;>try cases h
 case load t a =>
  unfold loadA at h ⊢
  split at h
  ·rename_i n agg hv
   split at h
   ·exact h
   ·rename_i i ver w row col ha
    by_cases e:i=id
    ·subst e
     rw [hid] at h
     simp at h
    ·rw [get e]
     exact h
   ·cases h
  ·cases h
 case lookup t m k ok =>
  unfold lookupA at h ⊢
  split at h
  ·rename_i kt et i hm hi'
   by_cases e:i=id
   ·subst e
    rw [hid] at h
    simp at h
   ·rw [get e]
    exact h
  ·cases h
 case call c =>
  unfold lenMA at h ⊢
  split at h
  ·split at h
   ·rename_i i _ _
    by_cases e:i=id
    ·subst e
     rw [hid] at h
     simp at h
    ·rw [get e]
     exact h
   ·cases h
  ·cases h
theorem allocVA_some {P:Program} {t:TypeId} {id:Nat} {m:List (Option (List Kd))} {H H':List AObj} {v:AV} (h:allocVA P t id m H=some (v,H')) :
  ∃ z k,zeroK P t=some z∧H[id]? = some (.vec k 0 [])∧k=z.length∧v=.ptr id 1 k 0 0∧H'=H.set id (.vec k 1 [zcs m z]):=by
 unfold allocVA at h
 split at h
 ·rename_i z k hz hid
  split at h
  ·rename_i hk
   cases h
   exact ⟨z,k,hz,hid,hk,rfl,rfl⟩
  ·cases h
 ·cases h
theorem allocVA_of {P:Program} {t:TypeId} {id:Nat} {H:List AObj} {z:List Value} {k:Nat} (m:List (Option (List Kd))) (hz:zeroK P t=some z) (hid:H[id]? = some (.vec k 0 [])) (hk:k=z.length) :
  allocVA P t id m H=some (.ptr id 1 k 0 0,H.set id (.vec k 1 [zcs m z])):=by
 unfold allocVA
 rw [hz,hid]
 simp only []
 rw [if_pos hk]
theorem yields_swap {oi oj:Oper} {s:St} {v u:AV} {Hi Hj:List AObj} (h1:oi.apart ops oj=true) (_h2:oj.apart ops oi=true) (hc:compat pf oi oj=true)
  (hi:Yields P pf ops oi s v Hi) (hj:Yields P pf ops oj (s.put oi.dst v Hi) u Hj) :
  ∃ Hj1,Yields P pf ops oj s u Hj1∧Yields P pf ops oi (s.put oj.dst u Hj1) v Hj:=by
 obtain ⟨a1,a2,a3⟩:=Oper.apart_spec h1
 have wj:wantedA ops (s.put oi.dst v Hi).fr oj=wantedA ops s.fr oj:=wantedA_put a1
 have wi:∀ H2,wantedA ops (s.put oj.dst u H2).fr oi=wantedA ops s.fr oi:=fun H2=>wantedA_put a3
 have ej:∀ x∈oj.op.operands,(s.put oi.dst v Hi).eval x=s.eval x:=fun x hx=>eval_put a1 hx
 have ei:∀ H2,∀ x∈oi.op.operands,(s.put oj.dst u H2).eval x=s.eval x:=fun H2 x hx=>eval_put a3 hx
 unfold compat at hc
 split at hc
 ·-- oi only computes
  rename_i hci
  obtain ⟨e1,g1⟩:=yields_pure hci hi
  subst e1
  refine ⟨Hj,(yields_congr wj ej rfl).1 hj,?_⟩
  exact (yields_congr (s1:=s.put oj.dst u Hj) (s:=⟨s.fr,Hj⟩) (wi Hj) (fun x hx=>by rw [ei Hj x hx]; cases x<;>rfl) rfl).2 (g1 Hj)
 ·-- oj only computes
  rename_i hcj _
  obtain ⟨e1,g1⟩:=yields_pure hcj hj
  have e1':Hj=Hi:=e1
  subst e1'
  refine ⟨s.H,?_,?_⟩
  ·have := g1 s.H
   exact (yields_congr (s1:=⟨(s.put oi.dst v Hj).fr,s.H⟩) (s:=s) wj (fun x hx=>by
    have:=ej x hx
    cases x<;>exact this) rfl).1 this
  ·exact (yields_congr (s1:=s.put oj.dst u s.H) (s:=s) (wi s.H) (ei s.H) rfl).2 hi
 ·rename_i hci hcj
  have e1:=yields_read hci hi
  subst e1
  have e2:=yields_read hcj hj
  have e2':Hj=s.H:=e2
  subst e2'
  exact ⟨s.H,(yields_congr wj ej rfl).1 hj,(yields_congr (s1:=s.put oj.dst u s.H) (s:=s) (wi s.H) (ei s.H) rfl).2 hi⟩
 ·rename_i hci hcj
  have e1:=yields_read hci hi
  subst e1
  have hj':=(yields_congr wj ej rfl).1 hj
  refine ⟨Hj,hj',?_⟩
  have hpush:Hj=s.H∨(∃ x,Hj=s.H++[x])∨∃ id k x,s.H[id]? = some (.vec k 0 [])∧Hj=s.H.set id x:=by
   unfold Yields at hj'
   simp only [hcj] at hj'
   split at hj'
   ·exact hj'.elim
   ·exact .inl hj'.2
   ·rcases hj' with (hj' | ⟨f, args, h1, _⟩) | ⟨t, id, m, ho, hv⟩ | hst
    ·unfold isAlloc at hc
     split at hc
     ·rename_i t ho
      rw [ho] at hj'
      simp only [evW,allocA] at hj'
      split at hj'
      ·split at hj'
       ·cases hj'; exact .inr (.inl ⟨_,rfl⟩)
       ·cases hj'
      ·split at hj'
       ·cases hj'; exact .inr (.inl ⟨_,rfl⟩)
       ·cases hj'
     ·cases hc
    ·unfold isAlloc at hc
     split at hc
     ·rename_i t ho
      rw [ho] at h1
      cases h1
     ·cases hc
    ·obtain ⟨z, k, _, h2, _, _, h3⟩ := allocVA_some hv
     exact .inr (.inr ⟨id,k,_,h2,h3⟩)
    ·unfold isAlloc at hc
     split at hc
     ·rename_i t ho
      rw [ho] at hst
      exact hst.elim
     ·cases hc
  refine (yields_congr (s1:=s.put oj.dst u Hj) (s:=⟨s.fr,Hj⟩) (wi Hj) (fun x hx=>by rw [ei Hj x hx]; cases x<;>rfl) rfl).2 ?_
  have key:∀ H2:List AObj,St.eval ⟨s.fr,H2⟩=s.eval:=fun H2=>by funext x; cases x<;>rfl
  unfold Yields at hi ⊢
  simp only [hci] at hi ⊢
  cases hw:wantedA ops s.fr oi with
  | none=>rw [hw] at hi; exact hi.elim
  | some b =>
   rw [hw] at hi
   cases b with
   | false=>exact ⟨hi.1,by simp⟩
   | true =>
    refine ⟨by simp,?_⟩
    rw [key]
    rcases hpush with rfl | ⟨x,rfl⟩ | ⟨id,k,x,hid,rfl⟩
    ·exact hi.2
    ·exact evR_push hi.2
    ·exact evR_hole hid hi.2
 ·cases hc
def predsListed (ops:Array Oper) (listed:Array Bool) (j:Nat):Prop :=
 ∀ o,ops[j]? = some o→∀ e∈o.after,Region.binds .any e=true→listed.getD e.on false=true
def Closed (ops:Array Oper) (listed:Array Bool):Prop:=∀ j,listed.getD j false=true→predsListed ops listed j
theorem waits_listed {listed:Array Bool} (hc:Closed ops listed):∀ (n j i:Nat),predsListed ops listed j→waits ops n j i=true→listed.getD i false=true
 | 0,_,_,_,h=>by simp [waits] at h
 | n+1,j,i,hp,h=>by
  unfold waits at h
  split at h
  ·rename_i o ho
   rw [List.any_eq_true] at h
   obtain ⟨e,he,hb⟩:=h
   simp only [Bool.and_eq_true,Bool.or_eq_true,beq_iff_eq] at hb
   have hl:=hp o ho e (by simpa using he) hb.1
   rcases hb.2 with rfl | hw
   ·exact hl
   ·exact waits_listed hc n e.on i (hc _ hl) hw
  ·cases h
theorem ready_preds {listed:Array Bool} {j:Nat} (h:j∈Region.ready .any ops listed):predsListed ops listed j:=by
 obtain ⟨_,o,ho,hall⟩:=mem_ready.1 h
 intro o' ho'
 rw [ho] at ho'
 cases ho'
 exact hall
theorem closed_set {listed:Array Bool} (hc:Closed ops listed) {j:Nat} (hj:j∈Region.ready .any ops listed):Closed ops (listed.setIfInBounds j true):=by
 intro k hk o ho e he hb
 by_cases hkj:j=k
 ·subst hkj
  exact getD_set_true (ready_preds hj o ho e he hb)
 ·have:listed.getD k false=true:=by
   have h:=hk
   simp [Array.getElem?_setIfInBounds_ne hkj] at h
   simpa using h
  exact getD_set_true (hc k this o ho e he hb)
theorem put_put (s:St) (x y:Option Tmp) (v u:AV) (H1 H2 H3:List AObj) (h:∀ d,x=some d→y≠some d):(s.put x v H1).put y u H2=(s.put y u H3).put x v H2:=by
 simp only [St.put,putFr_comm s.fr v u h]
theorem getD_of_mem_ready {listed:Array Bool} {i:Nat} (h:i∈Region.ready .any ops listed):listed.getD i false=false:=by
 obtain ⟨h0,_⟩:=mem_ready.1 h
 rcases Nat.lt_or_ge i listed.size with h' | h'
 ·simp [h'] at h0 ⊢; exact h0
 ·simp [Array.getElem?_eq_none h'] at h0
theorem aAny_first {s':St} {i:Nat} {oi:Oper} (hi:ops[i]? = some oi):∀ (fuel:Nat) (listed:Array Bool) (s:St) (v:AV) (H':List AObj),Closed ops listed →
  (∀ j oj,ops[j]? = some oj→j≠i→listed.getD j true=false→waits ops ops.size j i=false→oi.apart ops oj=true∧oj.apart ops oi=true∧compat pf oi oj=true) →
  i∈Region.ready .any ops listed→Yields P pf ops oi s v H'→aAny P pf ops s' fuel (listed.setIfInBounds i true) (s.put oi.dst v H')→aAny P pf ops s' (fuel+1) listed s:=by
 intro fuel
 induction fuel with
 | zero =>
  intro listed s v H' _ _ hr hy H
  refine ⟨fun h=>(by rw [h] at hr; cases hr),fun j hj=>?_⟩
  by_cases hji:j=i
  ·subst hji
   unfold aOp
   simp only [hi]
   exact ⟨v,H',hy,H⟩
  ·have := ready_mono hj hji
   rw [H.1] at this
   cases this
 | succ fuel ih =>
  intro listed s v H' hcl hfree hr hy H
  refine ⟨fun h=>(by rw [h] at hr; cases hr),fun j hj=>?_⟩
  by_cases hji:j=i
  ·subst hji
   unfold aOp
   simp only [hi]
   exact ⟨v,H',hy,H⟩
  ·have h1 := H.2 j (ready_mono hj hji)
   obtain ⟨hjun,oj,hoj,hall⟩:=mem_ready.1 hj
   unfold aOp at h1 ⊢
   simp only [hoj] at h1 ⊢
   obtain ⟨u,Hj,hyj,hrest⟩:=h1
   have hnw:waits ops ops.size j i=false:=by
    cases hw:waits ops ops.size j i with
    | false=>rfl
    | true =>
     have:=waits_listed hcl _ _ _ (ready_preds hj) hw
     rw [getD_of_mem_ready hr] at this
     cases this
   obtain ⟨a1,a2,a3⟩:=hfree j oj hoj hji hjun hnw
   obtain ⟨Hj1,q1,q2⟩:=yields_swap a1 a2 a3 hy hyj
   refine ⟨u,Hj1,q1,?_⟩
   refine ih (listed.setIfInBounds j true) (s.put oj.dst u Hj1) v Hj (closed_set hcl hj) ?_ (ready_mono hr (Ne.symm hji)) q2 ?_
   ·intro k ok hk hki hun hno
    refine hfree k ok hk hki ?_ hno
    by_cases hjk:j=k
    ·subst hjk; exact hjun
    ·rw [getD_set_ne true hjk] at hun; exact hun
   ·rw [Array.setIfInBounds_comm _ _ hji]
    have:=put_put s oi.dst oj.dst v u H' Hj Hj1 (Oper.apart_spec a1).2.1
    rw [←this]
    exact hrest
theorem aAny_lex {s':St} (hB:anyOrder pf ops=true):∀ (l:List Oper) (k:Nat) (listed:Array Bool) (s:St),l=ops.toList.drop k→Closed ops listed→listed.size=ops.size →
  (∀ j,j<ops.size→(listed.getD j true=false↔k≤j))→aOps P pf ops l s s'→aAny P pf ops s' l.length listed s
 | [],k,listed,s,hl,_,hsz,hk,h=>by
  simp only [aOps] at h
  refine ⟨?_,h.symm⟩
  apply List.eq_nil_iff_forall_not_mem.2
  intro j hj
  obtain ⟨h0,o,ho,_⟩:=mem_ready.1 hj
  have hlt:j<ops.size:=(Array.getElem?_eq_some_iff.1 ho).1
  have:=(hk j hlt).1 h0
  have hlen:(ops.toList.drop k).length=0:=by rw [←hl]; rfl
  simp at hlen
  omega
 | o::l,k,listed,s,hl,hcl,hsz,hk,h=>by
  obtain ⟨v,H',hy,hrest⟩:=h
  have h0:ops[k]? = some o:=by
   have:(ops.toList.drop k)[0]? = some o:=by rw [←hl]; rfl
   simpa using this
  have hlt:k<ops.size:=(Array.getElem?_eq_some_iff.1 h0).1
  simp only [anyOrder,Bool.and_eq_true,List.all_eq_true,List.mem_range] at hB
  obtain ⟨_,hall⟩:=hB
  have hlistedlt:∀ j,j<k→listed.getD j false=true:=by
   intro j hj
   have hn:¬ (listed.getD j true=false):=fun e=>by have:=(hk j (by omega)).1 e; omega
   have:j<listed.size:=by omega
   simp [this] at hn ⊢
   exact hn
  have hready:k∈Region.ready .any ops listed:=by
   refine mem_ready.2 ⟨(hk k hlt).2 (Nat.le_refl _),o,h0,fun e he hb=>?_⟩
   have:=hall k hlt
   rw [h0] at this
   simp only [Bool.and_eq_true,List.all_eq_true] at this
   have h1:=this.1 e (by simpa using he)
   simp only [hb,Bool.not_true,Bool.false_or,decide_eq_true_eq] at h1
   exact hlistedlt e.on h1
  refine aAny_first h0 l.length listed s v H' hcl ?_ hready hy ?_
  ·intro j oj hj hjk hun hnw
   have hjlt:j<ops.size:=(Array.getElem?_eq_some_iff.1 hj).1
   have hkj:k≤j:=(hk j hjlt).1 hun
   have:=hall j hjlt
   rw [hj] at this
   simp only [Bool.and_eq_true,List.all_eq_true,List.mem_range] at this
   have h1:=this.2 k (by omega)
   rw [h0] at h1
   simp only [hnw,Bool.false_or,Bool.and_eq_true] at h1
   exact ⟨h1.1.1,h1.1.2,h1.2⟩
  ·refine aAny_lex (by simp only [anyOrder, Bool.and_eq_true, List.all_eq_true, List.mem_range]; exact ⟨‹_›, hall⟩) l (k + 1) _ _ ?_ (closed_set hcl hready) (by simpa using hsz) ?_ hrest
   ·rw [←List.drop_drop,←hl]; rfl
   ·intro j hjlt
    by_cases e:k=j
    ·subst e
     have:k<listed.size:=by omega
     simp [this]
    ·rw [getD_set_ne true e, hk j hjlt]
     omega
theorem region_draw {id:Nat} {s s':St} {E:Env} {a:Act} {Q:Exit→Act→World→Prop} (hm:P.follows .mixedOrders=true) (hB:anyOrder pf ops=true) (hs:SRel s E a)
  (h:aOps P pf ops ops.toList s s') (hQ:∀ a' w',CPost E s' a' w'→Q .normal a' w'):∀ ro:Option Nat,(Code.region id ops true).wpIn (fz ro) 0 P Q a E.w:=by
 intro ro
 have hs':SRel s { E with w:={ E.w with drawn:=E.w.drawn+1 } } a:=⟨hs.H,relList_le (Env.le_ext (Ext.drawn E.w _)) _ hs.fr,marksOk_le hs.heap (Env.le_ext (Ext.drawn E.w _)) hs.defers,hs.heap.ext (Ext.drawn E.w _)⟩
 refine wpIn_region_any hm (wpAny_of_aAny (pf:=pf) _ _ s { E with w:={ E.w with drawn:=E.w.drawn+1 } } a hs' ?_ (fun a' w' hc=>hQ a' w' (CPost.after (Env.le_ext (Ext.drawn E.w _)) hc)) ro)
 have:=aAny_lex (P:=P) (s':=s') hB ops.toList 0 (Array.replicate ops.size false) s (by simp) (by
  intro j hj
  exfalso
  rcases Nat.lt_or_ge j ops.size with h' | h'
  ·simp [h'] at hj
  ·simp [Array.getElem?_eq_none (xs:=Array.replicate ops.size false) (by simpa using h')] at hj) (by simp) (by intro j hj; simp [hj]) h
 simpa using this
theorem region_text {id:Nat} {s s':St} {E:Env} {a:Act} {Q:Exit→Act→World→Prop} (hs:SRel s E a)
  (h:aOps P pf ops ops.toList s s') (hQ:∀ a' w',CPost E s' a' w'→Q .normal a' w'):∀ ro:Option Nat,(Code.region id ops false).wpIn (fz ro) 0 P Q a E.w:=by
 intro ro
 refine wpIn_region ?_
 have:=wpOps_of_aOps (Q:=Q) ops.toList 0 s s' E a (by simp) h hs hQ ro
 rw [List.range_eq_range']
 simpa using this
end Go.AL

namespace Go.AL
open Go
variable [Dr]
inductive AExit where
 | normal
 | exit (id:Nat)
 | ret
 deriving DecidableEq
def AExit.toExit:AExit→Exit
 | .normal=>.normal
 | .exit id=>.exit id
 | .ret=>.ret
structure Env.leM (m:Nat) (E E':Env):Prop where
 past:∀ id,id<m→E.past id 0→E'.past id 0
 size:E.w.heap.size≤E'.w.heap.size
 same:∀ b,b<E.w.heap.size→¬ E.own b→E'.w.heap[b]? = E.w.heap[b]?
 own:∀ b,b<E.w.heap.size→¬ E.own b→¬ E'.own b
 live:∀ id,id<m→E.past id 0→E'.live id 0→E.live id 0∧E'.loc[id]? = E.loc[id]?
 X:∀ b,b<E.w.heap.size→(E'.X b↔E.X b)∧(E'.X.z b↔E.X.z b)
 rl:∀ l h,h<(E.X.r l).length→h<(E'.X.r l).length∧∀ q,(E'.X.r l)[h]? = some (some q)→(E.X.r l)[h]? = some (some q)
 env:SameOs E.w E'.w
theorem Env.le.toM {m:Nat} {E E':Env} (h:E.le E'):E.leM m E':=⟨fun id _ hp=>h.past id 0 hp,h.size,h.same,h.own,fun id _ hp hl=>h.live id 0 hp hl,fun b _=>by rw [show E'.X.x=E.X.x from h.X.1,show E'.X.z=E.X.z from h.X.2]; exact ⟨Iff.rfl,Iff.rfl⟩,h.rl,h.env⟩
def freshH (H:List AObj):Prop:=∀ o∈H,o.ver? = some 0
theorem Env.leM.full {m:Nat} {E E':Env} (h:E.leM m E') (hX:E'.X.x=E.X.x∧E'.X.z=E.X.z) (hm:E.H.length≤m) (hf:freshH E.H):E.le E':=by
 have key:∀ id ver,E.past id ver→id<m∧ver=0:=by
  rintro id ver ⟨o,ho,hv⟩
  have h1:=lt_of_getElem? ho
  have h2:=hv 0 (hf o (List.mem_of_getElem? ho))
  exact ⟨by omega,by omega⟩
 refine ⟨fun id ver hp=>?_,h.size,h.same,h.own,fun id ver hp hl=>?_,hX,h.rl,h.env⟩
 ·obtain ⟨h1, rfl⟩ := key id ver hp
  exact h.past id h1 hp
 ·obtain ⟨h1, rfl⟩ := key id ver hp
  exact h.live id h1 hp hl
theorem Env.leM.trans {m:Nat} {E E' E'':Env} (h:E.leM m E') (h':E'.leM m E''):E.leM m E'' where
 past:=fun id hi hp=>h'.past id hi (h.past id hi hp)
 size:=Nat.le_trans h.size h'.size
 same:=fun b hb ho=>by rw [h'.same b (Nat.lt_of_lt_of_le hb h.size) (h.own b hb ho),h.same b hb ho]
 own:=fun b hb ho=>h'.own b (Nat.lt_of_lt_of_le hb h.size) (h.own b hb ho)
 live:=fun id hi hid hl=>by
  obtain ⟨a1,a2⟩:=h'.live id hi (h.past id hi hid) hl
  obtain ⟨b1,b2⟩:=h.live id hi hid a1
  exact ⟨b1,by rw [a2,b2]⟩
 X:=fun b hb=>by
  have h1:=h'.X b (Nat.lt_of_lt_of_le hb h.size)
  have h2:=h.X b hb
  exact ⟨h1.1.trans h2.1,h1.2.trans h2.2⟩
 rl:=fun l i hi=>by
  obtain ⟨a1,a2⟩:=h.rl l i hi
  obtain ⟨b1,b2⟩:=h'.rl l i a1
  exact ⟨b1,fun q hq=>a2 q (b2 q hq)⟩
 env:=h.env.trans h'.env
def MPost (m:Nat) (E:Env) (s':St) (a':Act) (w':World):Prop :=
 ∃ loc' X',SRel s' { w:=w',H:=s'.H,loc:=loc',X:=X' } a'∧E.leM m { w:=w',H:=s'.H,loc:=loc',X:=X' }
theorem CPost.toM {m:Nat} {E:Env} {s':St} {a:Act} {w:World} (h:CPost E s' a w):MPost m E s' a w:=let ⟨loc,r,h1,h2⟩:=h; ⟨loc,E.X.re r,h1,h2.toM⟩
theorem MPost.after {m:Nat} {E E':Env} {s':St} {a':Act} {w':World} (h:E.leM m E') (h':MPost m E' s' a' w'):MPost m E s' a' w':=by
 obtain ⟨loc',X',h1,h2⟩:=h'
 exact ⟨loc',X',h1,h.trans h2⟩
theorem MPost.refl {m:Nat} {s:St} {E:Env} {a:Act} (h:SRel s E a):MPost m E s a E.w:=(CPost.refl h).toM
def noRF:Code→Bool
 | .seq a b=>noRF a&&noRF b
 | .cond _ a b=>noRF a&&noRF b
 | .block _ c=>noRF c
 | .loop c=>noRF c
 | .scope c=>noRF c
 | .rangeFunc ..=>false
 | _=>true
def okR (ro:Option Nat) (c:Code):Prop:=ro=none∨noRF c=true
theorem okR.seq1 {ro:Option Nat} {a b:Code} (h:okR ro (.seq a b)):okR ro a:=h.imp id fun h=>by
 have h:(noRF a&&noRF b)=true:=h
 exact (Bool.and_eq_true _ _▸h).1
theorem okR.seq2 {ro:Option Nat} {a b:Code} (h:okR ro (.seq a b)):okR ro b:=h.imp id fun h=>by
 have h:(noRF a&&noRF b)=true:=h
 exact (Bool.and_eq_true _ _▸h).2
theorem okR.cond {ro:Option Nat} {o:Operand} {a b:Code} (t:Bool) (h:okR ro (.cond o a b)):okR ro (if t then a else b):=h.imp id fun h=>by
 have h:(noRF a&&noRF b)=true:=h
 cases t
 ·exact (Bool.and_eq_true _ _▸h).2
 ·exact (Bool.and_eq_true _ _▸h).1
theorem okR.block {ro:Option Nat} {i:Nat} {a:Code} (h:okR ro (.block i a)):okR ro a:=h
theorem okR.loop {ro:Option Nat} {a:Code} (h:okR ro (.loop a)):okR ro a:=h
theorem okR_none (c:Code):okR none c:=.inl rfl
def ASat (P:Program) (m:Nat) (c:Code) (s:St) (x:AExit) (s':St):Prop :=
 ∀ (ro:Option Nat),okR ro c→∀ (E:Env) (a:Act),SRel s E a→c.wpIn (fz ro) 0 P (fun e a1 w1=>e=x.toExit∧MPost m E s' a1 w1) a E.w
def SLe (m:Nat) (s s':St):Prop:=∀ (E:Env) (a:Act),SRel s E a→MPost m E s' a E.w
theorem SLe.refl {m:Nat} (s:St):SLe m s s:=fun _ _ h=>MPost.refl h
theorem SLe.trans {m:Nat} {s s1 s2:St} (h:SLe m s s1) (h':SLe m s1 s2):SLe m s s2:=fun E a hs=>by
 obtain ⟨loc,X,h1,h2⟩:=h E a hs
 exact MPost.after h2 (h' _ a h1)
theorem MPost.weaken {m:Nat} {E:Env} {s s':St} {a:Act} {w:World} (h:MPost m E s a w) (hle:SLe m s s'):MPost m E s' a w:=by
 obtain ⟨loc,X,h1,h2⟩:=h
 exact MPost.after h2 (hle _ a h1)
section rules
variable {P:Program} {m:Nat} {s s' s1:St} {x:AExit}
theorem sat_pre {c:Code} (hle:SLe m s s1) (h:ASat P m c s1 x s'):ASat P m c s x s':=fun ro ho E a hs=>by
 obtain ⟨loc,X,h1,h2⟩:=hle E a hs
 exact wpIn_mono (h ro ho { w:=E.w,H:=s1.H,loc:=loc,X:=X } a h1) fun e a1 w1 ⟨h3,h4⟩=>⟨h3,MPost.after h2 h4⟩
theorem sat_post {c:Code} (h:ASat P m c s x s1) (hle:SLe m s1 s'):ASat P m c s x s':=fun ro ho E a hs =>
 wpIn_mono (h ro ho E a hs) fun _ _ _ ⟨h3,h4⟩=>⟨h3,h4.weaken hle⟩
theorem sat_skip:ASat P m .skip s .normal s:=fun _ _ _ _ hs=>wpIn_skip ⟨rfl,MPost.refl hs⟩
theorem sat_ret:ASat P m .ret s .ret s:=fun _ _ _ _ hs=>wpIn_ret ⟨rfl,MPost.refl hs⟩
theorem sat_exit {id:Nat}:ASat P m (.exit id) s (.exit id) s:=fun _ _ _ _ hs=>wpIn_exit ⟨rfl,MPost.refl hs⟩
theorem sat_region {pf:FuncId→Bool} {id:Nat} {ops:Array Oper} {draw:Bool} (hm:P.follows .mixedOrders=true) (hd:draw=true→anyOrder pf ops=true) (h:aOps P pf ops ops.toList s s') :
  ASat P m (.region id ops draw) s .normal s':=fun ro ho E a hs=>by
 cases draw with
 | false=>exact region_text hs h (fun a' w' hc=>⟨rfl,hc.toM⟩) ro
 | true=>exact region_draw hm (hd rfl) hs h (fun a' w' hc=>⟨rfl,hc.toM⟩) ro
theorem sat_seq {c d:Code} (h:ASat P m c s .normal s1) (h':ASat P m d s1 x s'):ASat P m (.seq c d) s x s':=fun ro ho E a hs =>
 wpIn_seq (wpIn_mono (h ro ho.seq1 E a hs) fun e a1 w1 ⟨h3,h4⟩=>by
  subst h3
  obtain ⟨loc,X,h5,h6⟩:=h4
  exact wpIn_mono (h' ro ho.seq2 _ a1 h5) fun _ _ _ ⟨h7,h8⟩=>⟨h7,MPost.after h6 h8⟩)
theorem sat_seq_exit {c d:Code} (h:ASat P m c s x s') (hx:x≠.normal):ASat P m (.seq c d) s x s':=fun ro ho E a hs =>
 wpIn_seq (wpIn_mono (h ro ho.seq1 E a hs) fun e a1 w1 ⟨h3,h4⟩=>by
  subst h3
  cases x with
  | normal=>exact (hx rfl).elim
  | exit id=>exact ⟨rfl,h4⟩
  | ret=>exact ⟨rfl,h4⟩)
theorem sat_cond {o:Operand} {c d:Code} {b:Bool} (hb:s.eval o=.lit (.bool b)) (h:ASat P m (if b then c else d) s x s'):ASat P m (.cond o c d) s x s':=fun ro ho E a hs=>by
 have:=hs.eval o
 rw [hb] at this
 simp only [rel] at this
 exact wpIn_cond this (h ro (ho.cond b) E a hs)
def AExit.inBlock (id:Nat):AExit→AExit
 | .exit i=>if i=id then .normal else .exit i
 | x=>x
theorem sat_block {id:Nat} {c:Code} (h:ASat P m c s x s'):ASat P m (.block id c) s (x.inBlock id) s':=fun ro ho E a hs =>
 wpIn_block (wpIn_mono (h ro ho E a hs) fun e a1 w1 ⟨h3,h4⟩=>by
  subst h3
  cases x with
  | normal=>exact ⟨rfl,h4⟩
  | exit i =>
   simp only [AExit.toExit,Exit.inBlock,AExit.inBlock]
   split
   ·exact ⟨rfl,h4⟩
   ·exact ⟨rfl,h4⟩
  | ret=>exact ⟨rfl,h4⟩)
def LoopRun (P:Program) (m:Nat) (c:Code):Nat→St→AExit→St→Prop
 | 0,s,x,s'=>x≠.normal∧ASat P m c s x s'
 | n+1,s,x,s'=>∃ s1,ASat P m c s .normal s1∧LoopRun P m c n s1 x s'
def ALoop (P:Program) (m:Nat) (c:Code) (s:St) (x:AExit) (s':St):Prop:=∃ n,LoopRun P m c n s x s'
theorem ALoop.stop {c:Code} (h:ASat P m c s x s') (hx:x≠.normal):ALoop P m c s x s':=⟨0,hx,h⟩
theorem ALoop.next {c:Code} (h:ASat P m c s .normal s1) (h':ALoop P m c s1 x s'):ALoop P m c s x s':=let ⟨n,hn⟩:=h'; ⟨n+1,s1,h,hn⟩
theorem ALoop.pre {c:Code} (hle:SLe m s s1) (h:ALoop P m c s1 x s'):ALoop P m c s x s':=by
 obtain ⟨n,hn⟩:=h
 cases n with
 | zero=>exact ⟨0,hn.1,sat_pre hle hn.2⟩
 | succ n =>
  obtain ⟨s2,h1,h2⟩:=hn
  exact ⟨n+1,s2,sat_pre hle h1,h2⟩
theorem sat_loop {c:Code} (h:ALoop P m c s x s'):ASat P m (.loop c) s x s':=fun ro ho E a hs b k cs hro hb hr=>by
 obtain ⟨n,hn⟩:=h
 have key:∀ (n:Nat) (s1:St) (E1:Env) (a:Act),SRel s1 E1 a→E.leM m E1→LoopRun P m c n s1 x s' →
   ∃ e a' w',(e=x.toExit∧MPost m E s' a' w')∧ArrivesIn (Machine.fenced P (fz ro)) P (lone (b.atR a (.code c::.inLoop c::k)) cs E1.w) b k cs e a' w':=by
  intro n
  induction n with
  | zero =>
   intro s1 E1 a hs1 hle hrun
   obtain ⟨hx,hsat⟩:=hrun
   obtain ⟨e,a1,w1,⟨h3,h4⟩,harr⟩:=hsat ro ho.loop E1 a hs1 b (.inLoop c::k) cs hro hb hr
   refine ⟨e,a1,w1,⟨h3,MPost.after hle h4⟩,?_⟩
   subst h3
   exact .pass (x:=.inLoop c) rfl (fun _ _=>.inl (by cases x<;>simp_all [AExit.toExit])) harr
  | succ n ih =>
   intro s1 E1 a hs1 hle hrun
   obtain ⟨s2,hsat,hrest⟩:=hrun
   obtain ⟨e,a1,w1,⟨h3,loc,X,h5,h6⟩,harr⟩:=hsat ro ho.loop E1 a hs1 b (.inLoop c::k) cs hro hb hr
   subst h3
   obtain ⟨e2,a2,w2,hq,harr2⟩:=ih s2 _ a1 h5 (hle.trans h6) hrest
   exact ⟨e2,a2,w2,hq,.of_steps (StepsIn.trans harr (.one (fenced_calm hb hr rfl) stepR_inLoop)) harr2⟩
 obtain ⟨e,a',w',hq,harr⟩:=key n s E a hs (Env.le.refl E).toM hn
 exact ⟨e,a',w',hq,.of_steps (.one (fenced_calm hb hr rfl) stepR_loop) harr⟩
end rules
def resultA (P:Program) (s:St):ResultVar→Option AV
 | .tmp t=>some (s.fr.getD t .undef)
 | .cell a t=>loadA P t (s.fr.getD a .undef) s.H
def resultsA (P:Program) (s:St):List ResultVar→Option (List AV)
 | []=>some []
 | r::rs=>match resultA P s r,resultsA P s rs with
  | some v,some vs=>some (v::vs)
  | _,_=>none
def oneA:List AV→AV
 | [v]=>v
 | vs=>.tuple vs
def resOf (tmps:Array Value):ResultVar→Sem Value
 | .tmp t=>pure (tmps.getD t undef)
 | .cell a t=>do loadVar t (← asAddr (tmps.getD a undef))
theorem resultA_run {P:Program} {s:St} {E:Env} {a:Act} (hs:SRel s E a) {r:ResultVar} {v:AV} (h:resultA P s r=some v) :
  ∃ u,(resOf a.tmps r).run P E.w=.ok u E.w∧rel E v u:=by
 cases r with
 | tmp t =>
  simp only [resultA,Option.some.injEq] at h
  subst h
  exact ⟨_,rfl,hs.eval (.tmp t)⟩
 | cell x t =>
  simp only [resultA] at h
  rw [←hs.H] at h
  have hx:=hs.eval (.tmp x)
  simp only [St.eval,Act.eval] at hx
  obtain ⟨u,g1,g2⟩:=run_load_sound hs.heap h hx
  refine ⟨u,?_,g2⟩
  have hp:∃ b o,a.tmps.getD x undef=.pointer (some ⟨b,o,none⟩):=by
   unfold loadA at h
   split at h
   case h_2=>cases h
   split at h
   ·rename_i hxe
    rw [hxe] at hx
    simp only [rel] at hx
    obtain ⟨_,b,o,e,_⟩:=hx
    exact ⟨b,o,e⟩
   ·rename_i hxe
    rw [hxe] at hx
    simp only [rel] at hx
    obtain ⟨⟨b,o,e⟩,_⟩:=hx
    exact ⟨b,o,e⟩
   ·cases h
  obtain ⟨b,o,e⟩:=hp
  show (do loadVar t (← asAddr (a.tmps.getD x undef)):Sem Value).run P E.w=.ok u E.w
  rw [e] at g1 ⊢
  simpa [Instr.loadAt,Instr.sureAddr,asAddr] using g1
theorem resultsA_run {P:Program} {s:St} {E:Env} {a:Act} (hs:SRel s E a):∀ (rs:List ResultVar) (vs:List AV),resultsA P s rs=some vs →
  ∃ us:List Value,(rs.mapM (resOf a.tmps)).run P E.w=.ok us E.w∧rLs E vs us
 | [],vs,h=>by simp [resultsA] at h; subst h; exact ⟨[],rfl,by simp [rLs]⟩
 | r::rs,vs,h=>by
  simp only [resultsA] at h
  split at h
  case h_2=>cases h
  rename_i v vs' h1 h2
  cases h
  obtain ⟨u,g1,g2⟩:=resultA_run hs h1
  obtain ⟨us,g3,g4⟩:=resultsA_run hs rs vs' h2
  refine ⟨u::us,?_,by simp only [rLs]; exact ⟨g2,g4⟩⟩
  simp only [List.mapM_cons,Sem.run_bind]
  rw [g1]
  simp only [Result.andThen_ok]
  rw [g3]
  rfl
theorem results_eq (fn:Func) (tmps:Array Value):results fn tmps=(do let vs ← fn.results.mapM (resOf tmps); pure (if h:vs.size=1 then vs[0] else .tuple vs)):=by
 unfold results
 congr 1
theorem results_run {P:Program} {fn:Func} {s:St} {E:Env} {a:Act} (hs:SRel s E a) {vs:List AV} (h:resultsA P s fn.results.toList=some vs) :
  ∃ u,(results fn a.tmps).run P E.w=.ok u E.w∧rel E (oneA vs) u:=by
 obtain ⟨us,g1,g2⟩:=resultsA_run hs fn.results.toList vs h
 refine ⟨if h:us.toArray.size=1 then us.toArray[0] else .tuple us.toArray,?_,?_⟩
 ·rw [results_eq]
  simp only [Sem.run_bind]
  rw [Array.mapM_eq_mapM_toList,Sem.run_map,g1]
  rfl
 ·have hl := relList_length g2
  cases us with
  | nil =>
   cases vs with
   | nil=>simp [oneA,rel,rLs]
   | cons _ _=>simp at hl
  | cons u us =>
   cases us with
   | nil =>
    cases vs with
    | nil=>simp at hl
    | cons v vs =>
     cases vs with
     | nil=>simp only [rLs] at g2; simpa [oneA] using g2.1
     | cons _ _=>simp at hl
   | cons u2 us =>
    cases vs with
    | nil=>simp at hl
    | cons v vs =>
     cases vs with
     | nil=>simp at hl
     | cons v2 vs =>
      simp only [oneA,rel]
      exact ⟨(u::u2::us).toArray,by simp,g2⟩
def frame0 (args:List AV) (n:Nat):List AV:=args++List.replicate (n-args.length) .undef
theorem relList_undef {E:Env}:∀ (vs:List Value),rLs E (List.replicate vs.length .undef) vs
 | []=>by simp [rLs]
 | _::vs=>by simp only [List.length_cons,List.replicate_succ,rLs,rel]; exact ⟨trivial,relList_undef vs⟩
structure Chg (E E':Env):Prop where
 H:E'.H=E.H
 loc:E'.loc=E.loc
 size:E.w.heap.size≤E'.w.heap.size
 same:∀ b,b<E.w.heap.size→¬ E.X b→¬ E'.X b∧E'.w.heap[b]? = E.w.heap[b]?
 X:∀ b,E'.X b→b<E'.w.heap.size
 r:E'.X.r=E.X.r
theorem Chg.own {E E':Env} (h:Chg E E') (b:Nat):E'.own b↔E.own b:=by unfold Env.own Env.sat; rw [h.loc,h.r]
theorem Chg.toC {E E':Env} (h:Chg E E'):E.leC E' :=
 ⟨fun b hb=>⟨⟨Nat.lt_of_lt_of_le hb.1 h.size,fun ho=>hb.2.1 ((h.own b).1 ho),(h.same b hb.1 hb.2.2).1⟩,(h.same b hb.1 hb.2.2).2⟩⟩
mutual
theorem rel_chg {E E':Env} (h:Chg E E'):∀ (a:AV) {c:Value},rel E a c→rel E' a c
 | .undef,_,_=>by simp [rel]
 | .lit v,c,hr=>by simpa only [rel] using hr
 | .nils,c,hr=>by simpa only [rel] using hr
 | .list k rows,c,hr=>rel_closed h.toC _ (by simp [AV.closed]) hr
 | .listF ks rows,c,hr=>rel_closed h.toC _ (by simp [AV.closed]) hr
 | .agg cells,c,hr=>by
  simp only [rel] at hr ⊢
  obtain ⟨cs,e,h1,h2⟩:=hr
  exact ⟨cs,e,h1,relList_chg h cells h2⟩
 | .tuple cells,c,hr=>by
  simp only [rel] at hr ⊢
  obtain ⟨cs,e,h2⟩:=hr
  exact ⟨cs,e,relList_chg h cells h2⟩
 | .cptr cells,c,hr=>rel_closed h.toC _ (by simp [AV.closed]) hr
 | .ptr id ver k row col,c,hr=>by
  simp only [rel,Env.past,Env.live,h.H,h.loc] at hr ⊢
  exact hr
 | .vec k id ver off n,c,hr=>by
  simp only [rel,Env.past,Env.live,h.H,h.loc] at hr ⊢
  exact hr
 | .map id,c,hr=>by
  simp only [rel,Env.past,Env.live,h.H,h.loc] at hr ⊢
  exact hr
 | .clo f caps,c,hr=>by
  simp only [rel] at hr ⊢
  obtain ⟨cs,e,h2⟩:=hr
  exact ⟨cs,e,relList_chg h caps h2⟩
 | .ifc,c,hr=>by simpa only [rel] using hr
 | .emptyS n,c,hr=>by simpa only [rel] using hr
theorem relList_chg {E E':Env} (h:Chg E E'):∀ (as:List AV) {vs:List Value},rLs E as vs→rLs E' as vs
 | [],[],_=>by simp [rLs]
 | [],_::_,hr=>by simp [rLs] at hr
 | _::_,[],hr=>by simp [rLs] at hr
 | a::as,v::vs,hr=>by
  simp only [rLs] at hr ⊢
  exact ⟨rel_chg h a hr.1,relList_chg h as hr.2⟩
end
theorem HRel.chg {E E':Env} (H:HRel E) (h:Chg E E'):HRel E' where
 tab:=H.tab.leC h.toC
 len:=by rw [h.loc,h.H]; exact H.len
 inj:=by rw [h.loc]; exact H.inj
 lt:=fun i b m hi=>by
  rw [h.loc] at hi
  have:=H.lt i b m hi
  exact ⟨Nat.lt_of_lt_of_le this.1 h.size,(h.same b this.1 this.2).1⟩
 X:=h.X
 obj:=fun i o hi=>by
  rw [h.H] at hi
  exact objRel_same (fun a _ hr=>rel_chg h a hr) (by rw [h.loc]) (fun b n hb=>(h.same b (H.lt i b n hb).1 (H.lt i b n hb).2).2) (fun l _=>⟨by rw [h.r],fun k g m hk=>(h.same g (H.rlt l k g m hk).1 (H.rlt l k g m hk).2).2⟩) (H.obj i o hi)
 rinj:=by rw [h.r]; exact H.rinj
 rloc:=by rw [h.r,h.loc]; exact H.rloc
 rlt:=fun l k b m hk=>by
  rw [h.r] at hk
  have:=H.rlt l k b m hk
  exact ⟨Nat.lt_of_lt_of_le this.1 h.size,(h.same b this.1 this.2).1⟩
 uniq:=by rw [h.H]; exact H.uniq
 rdead:=by rw [h.H,h.r]; exact H.rdead
theorem SRel.chg {s:St} {E E':Env} {a:Act} (hs:SRel s E a) (h:Chg E E') {l:List Deferred} (hm:marksOk E'.w E'.X l):SRel s E' { a with defers:=l } :=
 ⟨by rw [h.H]; exact hs.H,relList_chg h _ hs.fr,hm,hs.heap.chg h⟩
theorem leaves_marks {P:Program} {fn:Func} {tmps:Array Value} {R:Ending→World→Prop}:∀ (l:List Deferred) (w:World) (X:XS),marksOk w X l →
  (∀ w',w'.heap.size=w.heap.size→(∀ b,w'.heap[b]? ≠ w.heap[b]? → X b∧X.z b)→SameOs w w'→∃ v,(results fn tmps).run P w'=.ok v w'∧R (.returned v) w')→LeavesInM (fz none) 0 P fn tmps R l .returning w
 | [],w,X,_,h=>h w rfl (fun b hb=>(hb rfl).elim) (SameOs.refl w)
 | d::l,w,X,hm,h=>by
  obtain ⟨D,e,h1,h2,h3⟩:=hm.2 d List.mem_cons_self
  subst e
  have hlt:D<w.heap.size:=(Array.getElem?_eq_some_iff.1 h1).1
  have hoth:∀ b,b≠D→(w.putObj D (.deferred none)).heap[b]? = w.heap[b]? := fun b hb=>World.putObj_heap_other hb
  have hsz:(w.putObj D (.deferred none)).heap.size=w.heap.size:=by simp [World.putObj]
  refine ⟨by simp,.inl ⟨D,_,rfl,run_takeDeferred h1,leaves_marks l _ X ⟨(List.nodup_cons.1 hm.1).2,fun d' hd'=>?_⟩ fun w' g1 g2 g3=>h w' (by rw [g1,hsz]) (fun b hb=>?_) (SameOs.trans ⟨rfl,rfl,rfl,by first | exact fun _=>Nat.le_refl _ | exact fun _=>Nat.le_add_right _ _⟩ g3)⟩⟩
  ·obtain ⟨D', e', k1, k2, k3⟩ := hm.2 d' (List.mem_cons_of_mem _ hd')
   refine ⟨D',e',?_,k2,k3⟩
   rw [hoth D' (fun e=>(List.nodup_cons.1 hm.1).1 (by rw [←e,←e']; exact hd'))]
   exact k1
  ·by_cases e : b = D
   ·subst e
    exact ⟨h2,h3⟩
   ·refine g2 b ?_
    rw [hoth b e]
    exact hb
theorem calls_marks {P:Program} {f:FuncId} {fn:Func} {c:Code} {args:Array Value} {w:World} {R:Ending→World→Prop} (hf:P.funcs[f]? = some fn) (hb:fn.body=some c)
  (h : c.wpIn (fz none) 0 P (fun e a1 w1 => (e = .normal ∨ e = .ret) ∧ ∃ X, marksOk w1 X a1.defers ∧ ∀ w', w'.heap.size = w1.heap.size → (∀ b, w'.heap[b]? ≠ w1.heap[b]? → X b ∧ X.z b) → SameOs w1 w' → ∃ v, (results fn a1.tmps).run P w' = .ok v w' ∧ R (.returned v) w')
   { tmps:=args++Array.replicate (fn.ntmps-args.size) undef,defers:=[] } w):Calls P f args w R:=by
 refine (callsIn_wide (n:=0)).1 (callsIn_of_wp_marks (F:=fz none) hf hb trivial (wpIn_mono h fun e a1 w1 hq=>?_))
 obtain ⟨he,X,h1,h2⟩:=hq
 have:=leaves_marks (P:=P) (fn:=fn) (tmps:=a1.tmps) (R:=R) a1.defers w1 X h1 h2
 rcases he with rfl | rfl
 ·exact this
 ·exact this
theorem end_env {m:Nat} {E:Env} {s':St} {loc':List (Option (Nat × Nat))} {X':XS} {a1:Act} {w1 w':World} (HE:HRel E) (hs:SRel s' { w:=w1,H:=s'.H,loc:=loc',X:=X' } a1)
  (hle:({ E with X:=⟨E.X.x,fun _=>False,E.X.r⟩ }:Env).leM m { w:=w1,H:=s'.H,loc:=loc',X:=X' }) (h1:w'.heap.size=w1.heap.size) (h2:∀ b,w'.heap[b]? ≠ w1.heap[b]? → X' b∧X'.z b) (h3:SameOs w1 w') :
  SRel s' { w:=w',H:=s'.H,loc:=loc',X:=E.X.re X'.r } { a1 with defers:=[] }∧E.leM m { w:=w',H:=s'.H,loc:=loc',X:=E.X.re X'.r }:=by
 have hsame:∀ b,b<E.w.heap.size→w'.heap[b]? = w1.heap[b]? := fun b hb=>Classical.byContradiction fun hne=>((hle.X b hb).2.1 (h2 b hne).2).elim
 have hsz:E.w.heap.size≤w1.heap.size:=hle.size
 have chg:Chg { w:=w1,H:=s'.H,loc:=loc',X:=X' } { w:=w',H:=s'.H,loc:=loc',X:=E.X.re X'.r } :=
  ⟨rfl, rfl, by show w1.heap.size ≤ w'.heap.size; omega, fun b hb hx => ⟨fun he => hx ((hle.X b (HE.X b he)).1.2 he), Classical.byContradiction fun hne => hx (h2 b hne).1⟩, fun b hb => by
   have:=HE.X b hb
   show b<w'.heap.size
   omega,rfl⟩
 refine ⟨hs.chg chg (marksOk_nil _ _),⟨hle.past,by show E.w.heap.size≤w'.heap.size; omega,fun b hb ho=>?_,hle.own,hle.live,fun b _=>⟨Iff.rfl,Iff.rfl⟩,hle.rl,hle.env.trans h3⟩⟩
 show w'.heap[b]? = E.w.heap[b]?
 rw [hsame b hb]
 exact hle.same b hb ho
theorem fresh_env {E:Env} (HE:HRel E):Chg E { E with X:=⟨E.X.x,fun _=>False,E.X.r⟩ }:=⟨rfl,rfl,Nat.le_refl _,fun b _ hx=>⟨hx,rfl⟩,HE.X,rfl⟩
theorem call_body {P:Program} {f:FuncId} {fn:Func} {c:Code} {args:List AV} {H:List AObj} {x:AExit} {s':St} {vs:List AV}
  (hf:P.funcs[f]? = some fn) (hb:fn.body=some c) (hs:ASat P H.length c ⟨frame0 args fn.ntmps,H⟩ x s') (hx:x=.normal∨x=.ret) (hr:resultsA P s' fn.results.toList=some vs) (hf0:freshH H) :
  ACallX P f args H (oneA vs) s'.H:=by
 intro E cargs hH HE hargs
 refine calls_marks hf hb ?_
 have hfe:=fresh_env HE
 have hargs:=relList_chg hfe _ hargs
 have hrel:SRel ⟨frame0 args fn.ntmps,H⟩ { E with X:=⟨E.X.x,fun _=>False,E.X.r⟩ } { tmps:=cargs++Array.replicate (fn.ntmps-cargs.size) undef,defers:=[] }:=by
  refine ⟨hH,?_,marksOk_nil _ _,HE.chg hfe⟩
  simp only [frame0,Array.toList_append,Array.toList_replicate]
  refine relList_append hargs ?_
  have:=relList_length hargs
  have e:args.length=cargs.size:=by simpa using this
  rw [e]
  have:=relList_undef (E:={ E with X:=⟨E.X.x,fun _=>False,E.X.r⟩ }) (List.replicate (fn.ntmps-cargs.size) undef)
  simpa using this
 refine wpIn_mono (hs none (okR_none _) { E with X:=⟨E.X.x,fun _=>False,E.X.r⟩ } _ hrel) fun e a1 w1 ⟨h3,loc',X',h4,h5⟩=>?_
 refine ⟨by subst h3; rcases hx with rfl | rfl; exact .inl rfl; exact .inr rfl,X',h4.defers,fun w' k1 k2 k3=>?_⟩
 obtain ⟨h4,h5⟩:=end_env HE h4 h5 k1 k2 k3
 obtain ⟨u,g1,g2⟩:=results_run h4 hr
 have h5:=h5.full ⟨rfl,rfl⟩ (by rw [hH]; exact Nat.le_refl _) (by rw [hH]; exact hf0)
 exact ⟨u,g1,u,oneA vs,s'.H,rfl,⟨rfl,rfl⟩,loc',X'.r,g2,h4.heap,h5⟩
theorem pcall_of_nil {P:Program} {f:FuncId} {args:List AV} {v:AV} {H1:List AObj} (h:ACallX P f args [] v H1) (ha:AV.closedL args=true) (hv:v.closed=true):PCall P f args v:=by
 intro H E cargs hH HE hargs
 let E0:Env:={ w:=E.w,H:=[],loc:=[],X:=(E.X.or E.own).re noR }
 have hown0:∀ b,¬ E0.own b:=by rintro b (⟨id,c,hid⟩ | ⟨l,k,c,hk⟩); simp [E0] at hid; simp [E0,noR] at hk
 have hC:E.leC E0:=⟨fun b hb=>⟨⟨hb.1,hown0 b,fun hx=>hx.elim hb.2.2 hb.2.1⟩,rfl⟩⟩
 have HE0:HRel E0:=by
  refine ⟨rfl,?_,?_,?_,?_,HE.tab.leC hC,fun l k l' k' b m n hk=>by simp [E0,noR] at hk,fun i b m l k n hi=>by simp [E0] at hi,fun l k b m hk=>by simp [E0,noR] at hk,fun i j o o' l hi=>by simp [E0] at hi,fun l _ k q hk=>by simp [E0,noR] at hk⟩
  ·intro i j b m n hi; simp [E0] at hi
  ·intro i b m hi; simp [E0] at hi
  ·rintro b (hx | ho)
   ·exact HE.X b hx
   ·exact (HE.ownlt ho).1
  ·intro i o hi; simp [E0] at hi
 refine (h E0 cargs rfl HE0 (relList_closed hC args ha hargs)).mono ?_
 rintro _ w' ⟨c,v',H',rfl,⟨rfl,rfl⟩,loc',r',g1,g2,g3⟩
 have hext:Ext E.w w':=⟨g3.size,fun b hb=>g3.same b hb (hown0 b),g3.env⟩
 refine ⟨c,v',H,rfl,⟨rfl,rfl⟩,E.loc,E.X.r,?_,?_,?_⟩
 ·rw [← hH]
  exact rel_closed (E:={ w:=w',H:=H',loc:=loc',X:=E0.X.re r' }) (E':={ w:=w',H:=E.H,loc:=E.loc,X:=E.X })
   ⟨fun b hb=>⟨⟨hb.1,fun ho=>hb.2.2 (Or.inr ho),fun hx=>hb.2.2 (Or.inl hx)⟩,rfl⟩⟩ v' hv g1
 ·rw [←hH]; exact HE.ext hext
 ·rw [←hH]; exact Env.le_ext hext
end Go.AL

namespace Go.AL
open Go
variable [Dr]
variable {P:Program} {pf:FuncId→Bool} {ops:Array Oper}
def addrR (r:Operand→AV):Op→Option Nat
 | .load _ a=>match r a with
  | .ptr id _ _ _ _=>some id
  | _=>none
 | .lookup _ m _ _=>match r m with
  | .map id=>some id
  | _=>none
 | .call c=>match c.args.toList with
  | [a]=>match r a with
   | .map id=>some id
   | _=>none
  | _=>none
 | _=>none
theorem evR_same {r:Operand→AV} {H H2:List AObj}:∀ {op:Op},(∀ id,addrR r op=some id→H2[id]? = H[id]?)→evR P r H2 op=evR P r H op:=by
 intro op h
 cases op<;>simp only [evR]
 case load t a =>
  simp only [addrR] at h
  unfold loadA
  cases ha:r a with
  | ptr id ver w row col =>
   rw [ha] at h
   have:=h id rfl
   simp only [this]
  | _=>rfl
 case lookup t m k ok =>
  simp only [addrR] at h
  unfold lookupA
  cases mapTy P t with
  | none=>rfl
  | some p =>
   obtain ⟨kt,et⟩:=p
   cases hm:r m with
   | map id =>
    rw [hm] at h
    have:=h id rfl
    simp only [this]
   | _=>rfl
 case call c =>
  simp only [addrR] at h
  unfold lenMA
  split
  ·rename_i a t hc ha ht
   rw [ha] at h
   simp only [] at h
   cases mapTy P t with
   | none=>rfl
   | some p =>
    cases hm:r a with
    | map id =>
     rw [hm] at h
     have:=h id rfl
     simp only [this]
    | _=>rfl
  ·rfl
theorem addrR_congr {r r':Operand→AV} (o:Op) (h:∀ x∈o.operands,r x=r' x):addrR r o=addrR r' o:=by
 cases o<;>simp only [addrR]
 case load t a =>
  simp only [Op.operands] at h
  rw [h a (by simp)]
 case lookup t m k ok =>
  simp only [Op.operands] at h
  rw [h m (by simp)]
 case call c =>
  split
  ·rename_i a ha
   have:a∈(Op.call c).operands:=by
    show a∈c.operands
    have h1:a∈c.args:=by
     have:a∈c.args.toList:=by rw [ha]; simp
     simpa using this
    simp [Call.operands,h1]
   rw [h a this]
  ·rfl
abbrev WList:=List (Nat × List Nat × Nat)
abbrev RList:=List (Nat × Nat)
def kept (W:WList) (j A:Nat):Prop:=∀ e∈W,e.1=j→A∉e.2.1∧A<e.2.2
def twoAllocs (ops:Array Oper):Bool :=
 (List.range ops.size).any fun j => (List.range j).any fun i => match ops[i]?, ops[j]? with
  | some x,some y=>isAlloc x.op&&isAlloc y.op && !waits ops ops.size j i
  | _,_=>false
def isCallV:Op→Bool
 | .call c=>match c.callee with
  | .value (.func _)=>true
  | _=>false
 | _=>false
def callAlloc (ops:Array Oper):Bool :=
 (List.range ops.size).any fun j => (List.range j).any fun i => match ops[i]?, ops[j]? with
  | some x,some y=>isCallV x.op&&isAlloc y.op && !waits ops ops.size j i
  | _,_=>false
def inHoles (ops:Array Oper):Bool:=twoAllocs ops||callAlloc ops
theorem isAlloc_write {pf:FuncId→Bool} {op:Op} (h:isAlloc op=true):clsOf pf op=.write:=by
 unfold isAlloc at h
 split at h
 ·rfl
 ·cases h
theorem noAlloc {pf:FuncId→Bool} {op:Op} {X:Prop} (h:clsOf pf op≠.write):isAlloc op=true→X:=fun ha=>(h (isAlloc_write ha)).elim
theorem isAlloc_call {op:Op} (h:isAlloc op=true):isCallV op=false:=by
 unfold isAlloc at h
 split at h
 ·rfl
 ·cases h
def setL (σ:List (Nat × AObj)) (H:List AObj):List AObj:=σ.foldl (fun H p=>H.set p.1 p.2) H
def FillOK (W:WList) (j:Nat) (H:List AObj) (σ:List (Nat × AObj)):Prop:=∀ p∈σ,kept W j p.1∧∃ k r,H[p.1]? = some (.vec k 0 [])∧p.2=.vec k 1 r
def Step (P:Program) (pf:FuncId→Bool) (ops:Array Oper) (R:RList) (W:WList) (j:Nat) (o:Oper) (s:St) (v:AV) (H':List AObj):Prop :=
 (clsOf pf o.op = .write → ∀ A, kept W j A → H'[A]? = s.H[A]?) ∧ (clsOf pf o.op = .read → wantedA ops s.fr o = some true → ∀ id, addrR s.eval o.op = some id → (j, id) ∈ R) ∧
  (isAlloc o.op=true→inHoles ops=true→wantedA ops s.fr o=some true→H'.length=s.H.length∧∀ id,H'[id]? ≠ s.H[id]? → ∃ e∈W,e.1=j∧id∈e.2.1) ∧
  (isCallV o.op=true→callAlloc ops=true→clsOf pf o.op=.write→wantedA ops s.fr o=some true→∀ σ,FillOK W j s.H σ→Yields P pf ops o ⟨s.fr,setL σ s.H⟩ v (setL σ H'))
def apartRW (R:RList) (W:WList) (i j:Nat):Prop:=∀ id,(i,id)∈R→kept W j id
def pairOK (pf:FuncId→Bool) (ops:Array Oper) (R:RList) (W:WList) (i:Nat) (x:Oper) (j:Nat) (y:Oper):Prop :=
 compat pf x y=true∨(clsOf pf x.op=.read∧clsOf pf y.op=.write∧apartRW R W i j)∨(clsOf pf x.op=.write∧clsOf pf y.op=.read∧apartRW R W j i)∨(isAlloc x.op=true∧isAlloc y.op=true∧inHoles ops=true) ∨
  (clsOf pf x.op=.write∧isCallV x.op=true∧isAlloc y.op=true∧callAlloc ops=true∧∀ e∈W,e.1=j→∀ id∈e.2.1,kept W i id)
theorem alloc_cases {o:Oper} {s:St} {v:AV} {H':List AObj} (ho:isAlloc o.op=true) (h:Yields P pf ops o s v H') (hl:wantedA ops s.fr o=some true→H'.length=s.H.length) :
  (wantedA ops s.fr o = some false ∧ v = .tuple [] ∧ H' = s.H) ∨
   (wantedA ops s.fr o=some true∧∃ t id z k m,o.op=.alloc t∧zeroK P t=some z∧s.H[id]? = some (.vec k 0 [])∧k=z.length∧v=.ptr id 1 k 0 0∧H'=s.H.set id (.vec k 1 [zcs m z])):=by
 unfold Yields at h
 cases hw:wantedA ops s.fr o with
 | none=>rw [hw] at h; exact h.elim
 | some b =>
  rw [hw] at h
  cases b with
  | false=>exact .inl ⟨rfl,h.1,h.2⟩
  | true =>
   right
   refine ⟨rfl,?_⟩
   simp only [isAlloc_write ho] at h
   have hl:=hl hw
   rcases h with (h | ⟨f,args,h1,_⟩) | ⟨t,id,m,hop,hv⟩ | hst
   ·unfold isAlloc at ho
    split at ho
    ·rename_i t hop
     rw [hop] at h
     simp only [evW,allocA] at h
     split at h
     ·split at h
      ·cases h
       simp at hl
      ·cases h
     ·split at h
      ·cases h
       simp at hl
      ·cases h
    ·cases ho
   ·unfold isAlloc at ho
    split at ho
    ·rename_i t hop
     rw [hop] at h1
     cases h1
    ·cases ho
   ·obtain ⟨z, k, h1, h2, h3, h4, h5⟩ := allocVA_some hv
    exact ⟨t,id,z,k,m,hop,h1,h2,h3,h4,h5⟩
   ·unfold isAlloc at ho
    split at ho
    ·rename_i t hop
     rw [hop] at hst
     exact hst.elim
    ·cases ho
theorem alloc_yields {o:Oper} {s:St} {t:TypeId} {id k:Nat} {z:List Value} (hw:wantedA ops s.fr o=some true) (ho:o.op=.alloc t) (hz:zeroK P t=some z) (hid:s.H[id]? = some (.vec k 0 [])) (hk:k=z.length) (m:List (Option (List Kd))) :
  Yields P pf ops o s (.ptr id 1 k 0 0) (s.H.set id (.vec k 1 [zcs m z])):=by
 unfold Yields
 rw [hw,ho]
 exact .inr (.inl ⟨t,id,m,rfl,allocVA_of m hz hid hk⟩)
theorem yields_swapK {R:RList} {W:WList} {i j:Nat} {oi oj:Oper} {s:St} {v u:AV} {Hi Hj:List AObj} (h1:oi.apart ops oj=true) (h2:oj.apart ops oi=true) (hc:pairOK pf ops R W i oi j oj)
  (hi:Yields P pf ops oi s v Hi) (si:Step P pf ops R W i oi s v Hi) (hj:Yields P pf ops oj (s.put oi.dst v Hi) u Hj) (sj:Step P pf ops R W j oj (s.put oi.dst v Hi) u Hj) :
  ∃ Hj1,Yields P pf ops oj s u Hj1∧Step P pf ops R W j oj s u Hj1∧Yields P pf ops oi (s.put oj.dst u Hj1) v Hj∧Step P pf ops R W i oi (s.put oj.dst u Hj1) v Hj:=by
 obtain ⟨a1,a2,a3⟩:=Oper.apart_spec h1
 have wj:wantedA ops (s.put oi.dst v Hi).fr oj=wantedA ops s.fr oj:=wantedA_put a1
 have wi:∀ H2,wantedA ops (s.put oj.dst u H2).fr oi=wantedA ops s.fr oi:=fun H2=>wantedA_put a3
 have ej:∀ x∈oj.op.operands,(s.put oi.dst v Hi).eval x=s.eval x:=fun x hx=>eval_put a1 hx
 have ei:∀ H2,∀ x∈oi.op.operands,(s.put oj.dst u H2).eval x=s.eval x:=fun H2 x hx=>eval_put a3 hx
 have cj:=addrR_congr oj.op ej
 have ci:=fun H2=>addrR_congr oi.op (ei H2)
 have evj:=evR_congr (P:=P) (H:=Hi) oj.op ej
 -- what the reads have read,in either heap
 have readJ:clsOf pf oj.op=.read→Step P pf ops R W j oj s u s.H:=fun hr=>⟨fun hw=>(by rw [hr] at hw; cases hw),fun _ hw id hid=>sj.2.1 hr (by rw [wj]; exact hw) id (by rw [cj]; exact hid),noAlloc (by rw [hr]; simp),fun _ _ hw=>(by rw [hr] at hw; cases hw)⟩
 have readI:clsOf pf oi.op=.read→∀ H2 H3,Step P pf ops R W i oi (s.put oj.dst u H2) v H3:=fun hr H2 H3=>⟨fun hw=>(by rw [hr] at hw; cases hw),fun _ hw id hid=>si.2.1 hr (by rw [wi] at hw; exact hw) id (by rw [ci] at hid; exact hid),noAlloc (by rw [hr]; simp),fun _ _ hw=>(by rw [hr] at hw; cases hw)⟩
 have frj:∀ {H2 H3:List AObj} {v':AV},Yields P pf ops oj ⟨(s.put oi.dst v Hi).fr,H2⟩ v' H3→Yields P pf ops oj ⟨s.fr,H2⟩ v' H3:=fun {H2 _ _} h=>(yields_congr (s1:=⟨(s.put oi.dst v Hi).fr,H2⟩) (s:=⟨s.fr,H2⟩) wj (fun x hx=>by
  have:=ej x hx
  cases x<;>exact this) rfl).1 h
 have fri:∀ {H1 H2 H3:List AObj} {v':AV},Yields P pf ops oi ⟨s.fr,H2⟩ v' H3→Yields P pf ops oi ⟨(s.put oj.dst u H1).fr,H2⟩ v' H3:=fun {H1 H2 _ _} h=>(yields_congr (s1:=⟨(s.put oj.dst u H1).fr,H2⟩) (s:=⟨s.fr,H2⟩) (wi H1) (fun x hx=>by
  have:=ei H1 x hx
  cases x<;>exact this) rfl).2 h
 have toJ:Hi=s.H→Step P pf ops R W j oj s u Hj:=by
  intro e
  subst e
  exact ⟨fun hw A hA=>sj.1 hw A hA,fun hr hw id hid=>sj.2.1 hr (by rw [wj]; exact hw) id (by rw [cj]; exact hid),fun ha ht hw=>sj.2.2.1 ha ht (by rw [wj]; exact hw),
   fun hv hca hw hwa σ hσ=>frj (sj.2.2.2 hv hca hw (by rw [wj]; exact hwa) σ hσ)⟩
 have toI:Hj=Hi→Step P pf ops R W i oi (s.put oj.dst u s.H) v Hj:=by
  intro e
  subst e
  exact ⟨fun hw A hA=>si.1 hw A hA,fun hr hw id hid=>si.2.1 hr (by rw [wi] at hw; exact hw) id (by rw [ci] at hid; exact hid),fun ha ht hw=>si.2.2.1 ha ht (by rw [wi] at hw; exact hw),
   fun hv hca hw hwa σ hσ=>fri (si.2.2.2 hv hca hw (by rw [wi] at hwa; exact hwa) σ hσ)⟩
 have old:compat pf oi oj=true→∃ Hj1,Yields P pf ops oj s u Hj1∧Yields P pf ops oi (s.put oj.dst u Hj1) v Hj:=fun hc=>yields_swap h1 h2 hc hi hj
 cases hci:clsOf pf oi.op with
 | pure =>
  obtain ⟨e1,g1⟩:=yields_pure hci hi
  subst e1
  refine ⟨Hj,(yields_congr wj ej rfl).1 hj,toJ rfl,
   (yields_congr (s1:=s.put oj.dst u Hj) (s:=⟨s.fr,Hj⟩) (wi Hj) (fun x hx=>by rw [ei Hj x hx]; cases x<;>rfl) rfl).2 (g1 Hj),⟨fun hw=>(by rw [hci] at hw; cases hw),fun hr=>(by rw [hci] at hr; cases hr),noAlloc (by rw [hci]; simp),fun _ _ hw=>(by rw [hci] at hw; cases hw)⟩⟩
 | read =>
  have e1:=yields_read hci hi
  subst e1
  have hj':=(yields_congr wj ej rfl).1 hj
  refine ⟨Hj,hj',toJ rfl,?_,readI hci _ _⟩
  -- the read gives the same behind the other one
  have key:∀ H2:List AObj,St.eval ⟨s.fr,H2⟩=s.eval:=fun H2=>by funext x; cases x<;>rfl
  have same:wantedA ops s.fr oi=some true→evR P s.eval Hj oi.op=evR P s.eval s.H oi.op:=by
   intro hw
   cases hcj:clsOf pf oj.op with
   | pure =>
    have:=(yields_pure hcj hj').1
    rw [this]
   | read =>
    have:=yields_read hcj hj'
    rw [this]
   | write =>
    rcases hc with hc | ⟨_,_,hap⟩ | ⟨hw',_,_⟩ | ⟨hw',_,_⟩ | ⟨hw',_⟩
    ·obtain ⟨Hj1, q1, q2⟩ := old hc
     have q3:=(yields_congr (s1:=s.put oj.dst u Hj1) (s:=⟨s.fr,Hj1⟩) (wi Hj1) (fun x hx=>by rw [ei Hj1 x hx]; cases x<;>rfl) rfl).1 q2
     have e2:Hj=Hj1:=yields_read hci q3
     subst e2
     unfold Yields at q3 hi
     simp only [hci,hw] at q3 hi
     rw [key] at q3
     rw [q3.2,hi.2]
    ·exact evR_same fun id hid=>sj.1 hcj id (hap id (si.2.1 hci hw id hid))
    ·rw [hci] at hw'
     cases hw'
    ·rw [isAlloc_write hw'] at hci
     cases hci
    ·rw [hci] at hw'
     cases hw'
  refine (yields_congr (s1:=s.put oj.dst u Hj) (s:=⟨s.fr,Hj⟩) (wi Hj) (fun x hx=>by rw [ei Hj x hx]; cases x<;>rfl) rfl).2 ?_
  unfold Yields at hi ⊢
  simp only [hci] at hi ⊢
  cases hw:wantedA ops s.fr oi with
  | none=>rw [hw] at hi; exact hi.elim
  | some b =>
   rw [hw] at hi
   cases b with
   | false=>exact ⟨hi.1,by simp⟩
   | true =>
    refine ⟨by simp,?_⟩
    rw [key,same hw]
    exact hi.2
 | write =>
  cases hcj:clsOf pf oj.op with
  | pure =>
   obtain ⟨e1,g1⟩:=yields_pure hcj hj
   have e1':Hj=Hi:=e1
   subst e1'
   refine ⟨s.H,?_,⟨fun hw=>(by rw [hcj] at hw; cases hw),fun hr=>(by rw [hcj] at hr; cases hr),noAlloc (by rw [hcj]; simp),fun _ _ hw=>(by rw [hcj] at hw; cases hw)⟩,(yields_congr (s1:=s.put oj.dst u s.H) (s:=s) (wi s.H) (ei s.H) rfl).2 hi,toI rfl⟩
   exact (yields_congr (s1:=⟨(s.put oi.dst v Hj).fr,s.H⟩) (s:=s) wj (fun x hx=>by
    have:=ej x hx
    cases x<;>exact this) rfl).1 (g1 s.H)
  | read =>
   have e2:=yields_read hcj hj
   have e2':Hj=Hi:=e2
   subst e2'
   refine ⟨s.H,?_,readJ hcj,(yields_congr (s1:=s.put oj.dst u s.H) (s:=s) (wi s.H) (ei s.H) rfl).2 hi,toI rfl⟩
   have same:wantedA ops s.fr oj=some true→evR P s.eval Hj oj.op=evR P s.eval s.H oj.op:=by
    intro hw
    rcases hc with hc | ⟨hr',_,_⟩ | ⟨_,_,hap⟩ | ⟨_,hr',_⟩ | ⟨_,_,hr',_⟩
    ·unfold compat at hc
     rw [hci,hcj] at hc
     cases hc
    ·rw [hci] at hr'
     cases hr'
    ·exact evR_same fun id hid=>si.1 hci id (hap id (sj.2.1 hcj (by rw [wj]; exact hw) id (by rw [cj]; exact hid)))
    ·rw [isAlloc_write hr'] at hcj
     cases hcj
    ·rw [isAlloc_write hr'] at hcj
     cases hcj
   unfold Yields at hj ⊢
   simp only [hcj] at hj ⊢
   rw [wj] at hj
   cases hw:wantedA ops s.fr oj with
   | none=>rw [hw] at hj; exact hj.elim
   | some b =>
    rw [hw] at hj
    cases b with
    | false=>exact ⟨hj.1,by simp⟩
    | true =>
     refine ⟨by simp,?_⟩
     rw [←same hw,←evj]
     exact hj.2
  | write =>
   rcases hc with hc | ⟨hr',_,_⟩ | ⟨_,hr',_⟩ | ⟨hai,haj,htw⟩ | ⟨_,hvi,haj,hca,hap⟩
   ·unfold compat at hc
    rw [hci,hcj] at hc
    cases hc
   ·rw [hci] at hr'
    cases hr'
   ·rw [hcj] at hr'
    cases hr'
   ·-- two allocations, each in its own place
    have ck:∀ {f:Option Bool},f=some true→f=some false→False:=fun h1 h2=>by rw [h1] at h2; cases h2
    rcases alloc_cases hai hi (fun hw=>(si.2.2.1 hai htw hw).1) with ⟨wi',rfl,e1⟩ | ⟨wi',ti,idi,zi,ki,mi,oi',z1,z2,z3,rfl,e1⟩
    ·subst e1
     refine ⟨Hj,(yields_congr wj ej rfl).1 hj,toJ rfl,?_,⟨fun _ A _=>rfl,fun hr=>(by rw [hci] at hr; cases hr),fun _ _ _=>⟨rfl,fun _ h=>(h rfl).elim⟩,fun hv=>(by rw [isAlloc_call hai] at hv; cases hv)⟩⟩
     unfold Yields
     rw [wi,wi']
     exact ⟨rfl,rfl⟩
    ·rcases alloc_cases haj hj (fun hw => (sj.2.2.1 haj htw hw).1) with ⟨wj', rfl, e2⟩ | ⟨wj', tj, idj, zj, kj, mj, oj', y1, y2, y3, rfl, e2⟩
     ·have e2' : Hj = Hi := e2
      subst e2'
      refine ⟨s.H,?_,⟨fun _ A _=>rfl,fun hr=>(by rw [hcj] at hr; cases hr),fun _ _ _=>⟨rfl,fun _ h=>(h rfl).elim⟩,fun hv=>(by rw [isAlloc_call haj] at hv; cases hv)⟩,(yields_congr (s1:=s.put oj.dst (.tuple []) s.H) (s:=s) (wi s.H) (ei s.H) rfl).2 hi,toI rfl⟩
      unfold Yields
      rw [wj] at wj'
      rw [wj']
      exact ⟨rfl,rfl⟩
     ·have e2' : Hj = Hi.set idj (.vec kj 1 [zcs mj zj]) := e2
      have y2':Hi[idj]? = some (.vec kj 0 []):=y2
      have hne:idj≠idi:=by
       intro e
       subst e
       rw [e1,List.getElem?_set_self (lt_of_getElem? z2)] at y2'
       simp at y2'
      have y2s:s.H[idj]? = some (.vec kj 0 []):=by rw [e1,List.getElem?_set_ne (Ne.symm hne)] at y2'; exact y2'
      have wjs:wantedA ops s.fr oj=some true:=by rw [←wj]; exact wj'
      have hjj:∀ A,kept W j A→A≠idj:=by
       intro A hA e
       subst e
       have h:=sj.1 hcj A hA
       have h':Hj[A]? = Hi[A]? := h
       rw [e2',List.getElem?_set_self (lt_of_getElem? y2'),y2'] at h'
       simp at h'
      have hii:∀ A,kept W i A→A≠idi:=by
       intro A hA e
       subst e
       have h:=si.1 hci A hA
       rw [e1,List.getElem?_set_self (lt_of_getElem? z2),z2] at h
       simp at h
      have hcomm:Hj=(s.H.set idj (.vec kj 1 [zcs mj zj])).set idi (.vec ki 1 [zcs mi zi]):=by rw [e2',e1,List.set_comm _ _ (Ne.symm hne)]
      refine ⟨s.H.set idj (.vec kj 1 [zcs mj zj]),alloc_yields wjs oj' y1 y2s y3 mj,⟨fun _ A hA=>List.getElem?_set_ne (Ne.symm (hjj A hA)),fun hr=>(by rw [hcj] at hr; cases hr),fun _ _ _=>⟨by simp,fun id hne=>?_⟩,fun hv=>(by rw [isAlloc_call haj] at hv; cases hv)⟩,?_,
       ⟨fun _ A hA=>?_,fun hr=>(by rw [hci] at hr; cases hr),fun _ _ _=>⟨?_,fun id hne=>?_⟩,fun hv=>(by rw [isAlloc_call hai] at hv; cases hv)⟩⟩
      ·have e : id = idj := Decidable.byContradiction fun e => hne (List.getElem?_set_ne (Ne.symm e))
       subst e
       refine (sj.2.2.1 haj htw wj').2 id ?_
       show Hj[id]? ≠ Hi[id]?
       rw [e2',List.getElem?_set_self (lt_of_getElem? y2'),y2']
       simp
      ·rw [hcomm]
       refine alloc_yields (s:=s.put oj.dst (.ptr idj 1 kj 0 0) (s.H.set idj (.vec kj 1 [zcs mj zj]))) (by rw [wi]; exact wi') oi' z1 ?_ z3 mi
       show (s.H.set idj _)[idi]? = _
       rw [List.getElem?_set_ne hne]
       exact z2
      ·show Hj[A]? = (s.H.set idj _)[A]?
       rw [hcomm,List.getElem?_set_ne (Ne.symm (hii A hA))]
      ·show Hj.length = (s.H.set idj _).length
       rw [hcomm]
       simp
      ·have e:id=idi:=Decidable.byContradiction fun e=>hne (by
        show Hj[id]? = (s.H.set idj _)[id]?
        rw [hcomm,List.getElem?_set_ne (Ne.symm e)])
       subst e
       refine (si.2.2.1 hai htw wi').2 id ?_
       rw [e1,List.getElem?_set_self (lt_of_getElem? z2),z2]
       simp
   ·-- a call, and an allocation in a place that it does not touch
    have hih:inHoles ops=true:=by
     unfold inHoles
     rw [hca]
     simp
    rcases alloc_cases haj hj (fun hw=>(sj.2.2.1 haj hih hw).1) with ⟨wj',rfl,e2⟩ | ⟨wj',tj,idj,zj,kj,mj,oj',y1,y2,y3,rfl,e2⟩
    ·have e2' : Hj = Hi := e2
     subst e2'
     refine ⟨s.H,?_,⟨fun _ A _=>rfl,fun hr=>(by rw [hcj] at hr; cases hr),fun _ _ _=>⟨rfl,fun _ h=>(h rfl).elim⟩,fun hv=>(by rw [isAlloc_call haj] at hv; cases hv)⟩,(yields_congr (s1:=s.put oj.dst (.tuple []) s.H) (s:=s) (wi s.H) (ei s.H) rfl).2 hi,toI rfl⟩
     unfold Yields
     rw [wj] at wj'
     rw [wj']
     exact ⟨rfl,rfl⟩
    ·have e2' : Hj = Hi.set idj (.vec kj 1 [zcs mj zj]) := e2
     have y2':Hi[idj]? = some (.vec kj 0 []):=y2
     obtain ⟨e,he,hej,hid⟩:=(sj.2.2.1 haj hih wj').2 idj (by
      show Hj[idj]? ≠ Hi[idj]?
      rw [e2',List.getElem?_set_self (lt_of_getElem? y2'),y2']
      simp)
     have hk:=hap e he hej idj hid
     have y2s:s.H[idj]? = some (.vec kj 0 []):=by rw [←si.1 hci idj hk]; exact y2'
     have wjs:wantedA ops s.fr oj=some true:=by rw [←wj]; exact wj'
     have hjj:∀ A,kept W j A→A≠idj:=by
      intro A hA e
      subst e
      have h:=sj.1 hcj A hA
      have h':Hj[A]? = Hi[A]? := h
      rw [e2',List.getElem?_set_self (lt_of_getElem? y2'),y2'] at h'
      simp at h'
     have hfill:FillOK W i s.H [(idj,.vec kj 1 [zcs mj zj])]:=by
      intro p hp
      rw [List.mem_singleton.1 hp]
      exact ⟨hk,kj,_,y2s,rfl⟩
     -- the call behind the allocation
     have hcall:Yields P pf ops oi ⟨s.fr,s.H.set idj (.vec kj 1 [zcs mj zj])⟩ v Hj∧(wantedA ops s.fr oi=some true→∀ σ,FillOK W i (s.H.set idj (.vec kj 1 [zcs mj zj])) σ→Yields P pf ops oi ⟨s.fr,setL σ (s.H.set idj (.vec kj 1 [zcs mj zj]))⟩ v (setL σ Hj)):=by
      cases hw:wantedA ops s.fr oi with
      | none =>
       unfold Yields at hi
       rw [hw] at hi
       exact hi.elim
      | some b =>
       cases b with
       | false =>
        refine ⟨?_,fun h=>by cases h⟩
        unfold Yields at hi ⊢
        rw [hw] at hi
        rw [show wantedA ops (St.mk s.fr (s.H.set idj (.vec kj 1 [zcs mj zj]))).fr oi=some false from hw]
        refine ⟨hi.1,?_⟩
        show Hj=s.H.set idj _
        rw [e2',hi.2]
       | true =>
        have h4:=si.2.2.2 hvi hca hci hw
        refine ⟨?_,fun _ σ hσ=>?_⟩
        ·have := h4 _ hfill
         rw [e2']
         exact this
        ·have:=h4 ((idj,.vec kj 1 [zcs mj zj])::σ) (by
          intro p hp
          rcases List.mem_cons.1 hp with rfl | hp
          ·exact hfill _ List.mem_cons_self
          ·obtain ⟨a2, k, r, a3, a4⟩ := hσ p hp
           refine ⟨a2,k,r,?_,a4⟩
           have hne:p.1≠idj:=fun e=>by
            rw [e,List.getElem?_set_self (lt_of_getElem? y2s)] at a3
            simp at a3
           rwa [List.getElem?_set_ne (Ne.symm hne)] at a3)
         rw [e2']
         exact this
     refine ⟨s.H.set idj (.vec kj 1 [zcs mj zj]),alloc_yields wjs oj' y1 y2s y3 mj,⟨fun _ A hA=>List.getElem?_set_ne (Ne.symm (hjj A hA)),fun hr=>(by rw [hcj] at hr; cases hr),fun _ _ _=>⟨by simp,fun id hne=>?_⟩,fun hv=>(by rw [isAlloc_call haj] at hv; cases hv)⟩,fri (H1:=s.H.set idj (.vec kj 1 [zcs mj zj])) hcall.1,
      ⟨fun _ A hA=>?_,fun hr=>(by rw [hci] at hr; cases hr),fun ha=>(by rw [isAlloc_call ha] at hvi; cases hvi),fun _ _ _ hwa σ hσ=>fri (H1:=s.H.set idj (.vec kj 1 [zcs mj zj])) (hcall.2 (by rw [wi] at hwa; exact hwa) σ hσ)⟩⟩
     ·have e : id = idj := Decidable.byContradiction fun e => hne (List.getElem?_set_ne (Ne.symm e))
      subst e
      exact ⟨_,he,hej,hid⟩
     ·show Hj[A]? = (s.H.set idj _)[A]?
      have h1:Hi[A]? = s.H[A]? := si.1 hci A hA
      by_cases e:A=idj
      ·subst e
       rw [e2',List.getElem?_set_self (lt_of_getElem? y2'),List.getElem?_set_self (lt_of_getElem? y2s)]
      ·rw [e2',List.getElem?_set_ne (Ne.symm e),List.getElem?_set_ne (Ne.symm e),h1]
def aOpK (P:Program) (pf:FuncId→Bool) (ops:Array Oper) (R:RList) (W:WList) (i:Nat) (K:St→Prop) (s:St):Prop :=
 match ops[i]? with
 | none=>K s
 | some o=>∃ v H',Yields P pf ops o s v H'∧Step P pf ops R W i o s v H'∧K (s.put o.dst v H')
def aAnyK (P:Program) (pf:FuncId→Bool) (ops:Array Oper) (R:RList) (W:WList) (s':St):Nat→Array Bool→St→Prop
 | 0,listed,s=>Region.ready .any ops listed=[]∧s=s'
 | fuel+1,listed,s=>(Region.ready .any ops listed=[]→s=s')∧∀ i∈Region.ready .any ops listed,aOpK P pf ops R W i (aAnyK P pf ops R W s' fuel (listed.setIfInBounds i true)) s
theorem aAny_of_K {R:RList} {W:WList} {s':St}:∀ (fuel:Nat) (listed:Array Bool) (s:St),aAnyK P pf ops R W s' fuel listed s→aAny P pf ops s' fuel listed s
 | 0,_,_,h=>h
 | fuel+1,listed,s,h=>by
  refine ⟨h.1,fun i hi=>?_⟩
  have h1:=h.2 i hi
  unfold aOpK at h1
  unfold aOp
  cases ho:ops[i]? with
  | none=>rw [ho] at h1; exact aAny_of_K fuel _ _ h1
  | some o =>
   rw [ho] at h1
   obtain ⟨v,H',g1,_,g2⟩:=h1
   exact ⟨v,H',g1,aAny_of_K fuel _ _ g2⟩
theorem aAnyK_first {R:RList} {W:WList} {s':St} {i:Nat} {oi:Oper} (hi:ops[i]? = some oi):∀ (fuel:Nat) (listed:Array Bool) (s:St) (v:AV) (H':List AObj),Closed ops listed →
  (∀ j oj,ops[j]? = some oj→j≠i→listed.getD j true=false→waits ops ops.size j i=false→oi.apart ops oj=true∧oj.apart ops oi=true∧pairOK pf ops R W i oi j oj) →
  i∈Region.ready .any ops listed→Yields P pf ops oi s v H'→Step P pf ops R W i oi s v H'→aAnyK P pf ops R W s' fuel (listed.setIfInBounds i true) (s.put oi.dst v H')→aAnyK P pf ops R W s' (fuel+1) listed s:=by
 intro fuel
 induction fuel with
 | zero =>
  intro listed s v H' _ _ hr hy hst H
  refine ⟨fun h=>(by rw [h] at hr; cases hr),fun j hj=>?_⟩
  by_cases hji:j=i
  ·subst hji
   unfold aOpK
   simp only [hi]
   exact ⟨v,H',hy,hst,H⟩
  ·have := ready_mono hj hji
   rw [H.1] at this
   cases this
 | succ fuel ih =>
  intro listed s v H' hcl hfree hr hy hst H
  refine ⟨fun h=>(by rw [h] at hr; cases hr),fun j hj=>?_⟩
  by_cases hji:j=i
  ·subst hji
   unfold aOpK
   simp only [hi]
   exact ⟨v,H',hy,hst,H⟩
  ·have h1 := H.2 j (ready_mono hj hji)
   obtain ⟨hjun,oj,hoj,hall⟩:=mem_ready.1 hj
   unfold aOpK at h1 ⊢
   simp only [hoj] at h1 ⊢
   obtain ⟨u,Hj,hyj,hsj,hrest⟩:=h1
   have hnw:waits ops ops.size j i=false:=by
    cases hw:waits ops ops.size j i with
    | false=>rfl
    | true =>
     have:=waits_listed hcl _ _ _ (ready_preds hj) hw
     rw [getD_of_mem_ready hr] at this
     cases this
   obtain ⟨a1,a2,a3⟩:=hfree j oj hoj hji hjun hnw
   obtain ⟨Hj1,q1,q2,q3,q4⟩:=yields_swapK a1 a2 a3 hy hst hyj hsj
   refine ⟨u,Hj1,q1,q2,?_⟩
   refine ih (listed.setIfInBounds j true) (s.put oj.dst u Hj1) v Hj (closed_set hcl hj) ?_ (ready_mono hr (Ne.symm hji)) q3 q4 ?_
   ·intro k ok hk hki hun hno
    refine hfree k ok hk hki ?_ hno
    by_cases hjk:j=k
    ·subst hjk; exact hjun
    ·rw [getD_set_ne true hjk] at hun; exact hun
   ·rw [Array.setIfInBounds_comm _ _ hji]
    have:=put_put s oi.dst oj.dst v u H' Hj Hj1 (Oper.apart_spec a1).2.1
    rw [←this]
    exact hrest
def aOpsK (P:Program) (pf:FuncId→Bool) (ops:Array Oper) (R:RList) (W:WList):List Oper→Nat→St→St→Prop
 | [],_,s,s'=>s=s'
 | o::l,j,s,s'=>∃ v H',Yields P pf ops o s v H'∧Step P pf ops R W j o s v H'∧aOpsK P pf ops R W l (j+1) (s.put o.dst v H') s'
def compatK (pf:FuncId→Bool) (x y:Oper):Bool :=
 compat pf x y||((match clsOf pf x.op,clsOf pf y.op with
  | .read,.write=>true
  | .write,.read=>true
  | _,_=>false)||((isAlloc x.op&&isAlloc y.op)||(match clsOf pf x.op with
  | .write=>isCallV x.op&&isAlloc y.op
  | _=>false)))
theorem twoAllocs_of {i j:Nat} {x y:Oper} (hi:ops[i]? = some x) (hj:ops[j]? = some y) (hlt:i<j) (hw:waits ops ops.size j i=false) (hx:isAlloc x.op=true) (hy:isAlloc y.op=true):twoAllocs ops=true:=by
 unfold twoAllocs
 refine List.any_eq_true.2 ⟨j,List.mem_range.2 (Array.getElem?_eq_some_iff.1 hj).1,List.any_eq_true.2 ⟨i,List.mem_range.2 hlt,?_⟩⟩
 rw [hi,hj]
 simp [hx,hy,hw]
theorem callAlloc_of {i j:Nat} {x y:Oper} (hi:ops[i]? = some x) (hj:ops[j]? = some y) (hlt:i<j) (hw:waits ops ops.size j i=false) (hx:isCallV x.op=true) (hy:isAlloc y.op=true):callAlloc ops=true:=by
 unfold callAlloc
 refine List.any_eq_true.2 ⟨j,List.mem_range.2 (Array.getElem?_eq_some_iff.1 hj).1,List.any_eq_true.2 ⟨i,List.mem_range.2 hlt,?_⟩⟩
 rw [hi,hj]
 simp [hx,hy,hw]
def anyOrderK (pf:FuncId→Bool) (ops:Array Oper):Bool :=
  Region.noSelect ops &&
  (List.range ops.size).all fun j=>(match ops[j]? with
    | some oj=>(oj.after.toList.all fun e => !Region.binds .any e||e.on<j) &&
      ((List.range j).all fun i => match ops[i]? with
        | some oi=>waits ops ops.size j i||(oi.apart ops oj&&oj.apart ops oi&&compatK pf oi oj)
        | none=>true)
    | none=>true)
def Fine (ops:Array Oper) (R:RList) (W:WList):Prop:=(∀ i id,(i,id)∈R→∀ e∈W,(i<e.1→waits ops ops.size e.1 i=false→id∉e.2.1∧id<e.2.2)∧(e.1<i→waits ops ops.size i e.1=false→id∉e.2.1∧id<e.2.2)) ∧
 ∀ e∈W,∀ e'∈W,e.1<e'.1→waits ops ops.size e'.1 e.1=false→∀ id∈e'.2.1,id∉e.2.1∧id<e.2.2
theorem pair_of {R:RList} {W:WList} (hF:Fine ops R W) {i j:Nat} {x y:Oper} (hi:ops[i]? = some x) (hj:ops[j]? = some y) (hlt:i<j) (hw:waits ops ops.size j i=false) (hc:compatK pf x y=true):pairOK pf ops R W i x j y:=by
 unfold compatK at hc
 simp only [Bool.or_eq_true] at hc
 rcases hc with hc | hc | hc | hc
 ·exact .inl hc
 ·split at hc
  ·rename_i h1 h2
   refine .inr (.inl ⟨h1,h2,fun id hid e he hj=>?_⟩)
   subst hj
   exact (hF.1 i id hid e he).1 hlt hw
  ·rename_i h1 h2
   refine .inr (.inr (.inl ⟨h1,h2,fun id hid e he hj=>?_⟩))
   subst hj
   exact (hF.1 j id hid e he).2 hlt hw
  ·cases hc
 ·simp only [Bool.and_eq_true] at hc
  refine .inr (.inr (.inr (.inl ⟨hc.1,hc.2,?_⟩)))
  unfold inHoles
  rw [twoAllocs_of hi hj hlt hw hc.1 hc.2]
  rfl
 ·split at hc
  ·rename_i h1
   simp only [Bool.and_eq_true] at hc
   refine .inr (.inr (.inr (.inr ⟨h1,hc.1,hc.2,callAlloc_of hi hj hlt hw hc.1 hc.2,fun e he hej id hid e' he' hei=>?_⟩)))
   subst hej hei
   exact hF.2 e' he' e he hlt hw id hid
  ·cases hc
theorem aAnyK_lex {R:RList} {W:WList} {s':St} (hB:anyOrderK pf ops=true) (hF:Fine ops R W):∀ (l:List Oper) (k:Nat) (listed:Array Bool) (s:St),l=ops.toList.drop k→Closed ops listed→listed.size=ops.size →
  (∀ j,j<ops.size→(listed.getD j true=false↔k≤j))→aOpsK P pf ops R W l k s s'→aAnyK P pf ops R W s' l.length listed s
 | [],k,listed,s,hl,_,hsz,hk,h=>by
  simp only [aOpsK] at h
  refine ⟨?_,h⟩
  apply List.eq_nil_iff_forall_not_mem.2
  intro j hj
  obtain ⟨h0,o,ho,_⟩:=mem_ready.1 hj
  have hlt:j<ops.size:=(Array.getElem?_eq_some_iff.1 ho).1
  have:=(hk j hlt).1 h0
  have hlen:(ops.toList.drop k).length=0:=by rw [←hl]; rfl
  simp at hlen
  omega
 | o::l,k,listed,s,hl,hcl,hsz,hk,h=>by
  obtain ⟨v,H',hy,hst,hrest⟩:=h
  have h0:ops[k]? = some o:=by
   have:(ops.toList.drop k)[0]? = some o:=by rw [←hl]; rfl
   simpa using this
  have hlt:k<ops.size:=(Array.getElem?_eq_some_iff.1 h0).1
  simp only [anyOrderK,Bool.and_eq_true,List.all_eq_true,List.mem_range] at hB
  obtain ⟨_,hall⟩:=hB
  have hlistedlt:∀ j,j<k→listed.getD j false=true:=by
   intro j hj
   have hn:¬ (listed.getD j true=false):=fun e=>by have:=(hk j (by omega)).1 e; omega
   have:j<listed.size:=by omega
   simp [this] at hn ⊢
   exact hn
  have hready:k∈Region.ready .any ops listed:=by
   refine mem_ready.2 ⟨(hk k hlt).2 (Nat.le_refl _),o,h0,fun e he hb=>?_⟩
   have:=hall k hlt
   rw [h0] at this
   simp only [Bool.and_eq_true,List.all_eq_true] at this
   have h1:=this.1 e (by simpa using he)
   simp only [hb,Bool.not_true,Bool.false_or,decide_eq_true_eq] at h1
   exact hlistedlt e.on h1
  refine aAnyK_first h0 l.length listed s v H' hcl ?_ hready hy hst ?_
  ·intro j oj hj hjk hun hnw
   have hjlt:j<ops.size:=(Array.getElem?_eq_some_iff.1 hj).1
   have hkj:k≤j:=(hk j hjlt).1 hun
   have:=hall j hjlt
   rw [hj] at this
   simp only [Bool.and_eq_true,List.all_eq_true,List.mem_range] at this
   have h1:=this.2 k (by omega)
   rw [h0] at h1
   simp only [hnw,Bool.false_or,Bool.and_eq_true] at h1
   exact ⟨h1.1.1,h1.1.2,pair_of hF h0 hj (by omega) hnw h1.2⟩
  ·refine aAnyK_lex (by simp only [anyOrderK, Bool.and_eq_true, List.all_eq_true, List.mem_range]; exact ⟨‹_›, hall⟩) hF l (k + 1) _ _ ?_ (closed_set hcl hready) (by simpa using hsz) ?_ hrest
   ·rw [←List.drop_drop,←hl]; rfl
   ·intro j hjlt
    by_cases e:k=j
    ·subst e
     have:k<listed.size:=by omega
     simp [this]
    ·rw [getD_set_ne true e, hk j hjlt]
     omega
theorem region_drawK {R:RList} {W:WList} {id:Nat} {s s':St} {E:Env} {a:Act} {Q:Exit→Act→World→Prop} (hm:P.follows .mixedOrders=true) (hB:anyOrderK pf ops=true) (hF:Fine ops R W) (hs:SRel s E a)
  (h:aOpsK P pf ops R W ops.toList 0 s s') (hQ:∀ a' w',CPost E s' a' w'→Q .normal a' w'):∀ ro:Option Nat,(Code.region id ops true).wpIn (fz ro) 0 P Q a E.w:=by
 intro ro
 have hs':SRel s { E with w:={ E.w with drawn:=E.w.drawn+1 } } a:=⟨hs.H,relList_le (Env.le_ext (Ext.drawn E.w _)) _ hs.fr,marksOk_le hs.heap (Env.le_ext (Ext.drawn E.w _)) hs.defers,hs.heap.ext (Ext.drawn E.w _)⟩
 refine wpIn_region_any hm (wpAny_of_aAny (pf:=pf) _ _ s { E with w:={ E.w with drawn:=E.w.drawn+1 } } a hs' ?_ (fun a' w' hc=>hQ a' w' (CPost.after (Env.le_ext (Ext.drawn E.w _)) hc)) ro)
 have:=aAny_of_K _ _ _ (aAnyK_lex (P:=P) (s':=s') hB hF ops.toList 0 (Array.replicate ops.size false) s (by simp) (by
  intro j hj
  exfalso
  rcases Nat.lt_or_ge j ops.size with h' | h'
  ·simp [h'] at hj
  ·simp [Array.getElem?_eq_none (xs:=Array.replicate ops.size false) (by simpa using h')] at hj) (by simp) (by intro j hj; simp [hj]) h)
 simpa using this
end Go.AL
