/-
 What is proved here: a walk along a string,on abstract values. No program in sight; no condition.
-/
import Derived.Test.YtpgfflhcmodgdaaGreatDoorMA
set_option linter.all false
open Array renaming length_toList->oH,ext'->mh,getElem?_setIfInBounds->Em,toList_modify->nc,toList_push->vl
open Bool renaming and_true->jQ,and_eq_true->aO
open Go renaming Value->ar,TypeId->aK,World->bh,Program->ak
open Go.Builtin renaming append_->rC,zeroCells->Ei,nextslicecap->OH,delete_->ZC,clear_->ZD
open Go.Instr renaming sureAddr->oG,storeAt->xC,buildSlice->OK,range->Zy,checkKey->xD,findAsking->Zz,findNow->En,sameNow->A4,findKey->ZA,lookup->m_,makeMap->ZB,sameBits->OL,mapUpdate->oJ,keyThatStays->sZ,mapEntry->Jf,entryStore->Eo
open Go.Result renaming andThen_ok->dZ
open Go.Sem renaming run_bind->dN,run_pure->ke,run->jA
open Go.Utf8 renaming decode->sY
open Go.Value.slice renaming injEq->qz
open List renaming append_nil->dY,length_map->cP,getElem_of_mem->pK,getElem?_eq_getElem->cB,mem_of_getElem?->gg,getElem?_append_left->fT,getElem?_append->jR,getElem?_set_self->cG,getElem?_set_ne->bL,getElem?_set->gh,getElem?_map->dw,eq_nil_of_length_eq_zero->A2,ext_getElem?->kg,length_take->mg,length_set->nV,mem_cons->c_,length_drop->A3,flatten_append->Ej,replicate->cn,mem_cons_self->dx,getElem?_modify->kI,mem_cons_of_mem->dh,mem_replicate->ar6,getElem?_append_right->lf,set_set->rE,map_append->kj,findIdx?_toArray->ar8,set_comm->s8,append_assoc->kl
open Nat renaming le_refl->aV,le_add_right->gI,zero_le->fy,zero_add->dj,add_mul->pL,sub_zero->iz,zero_mul->xB,add_zero->sU,mul_le_mul_right->sW,beq->aD,succ_mul->ar7,eq_of_beq_eq_true->bN,sub_self->oK,le_of_eq->OM
open Option renaming map_eq_some_iff->gj,map_some->ki,getD_some->rD
open Option.some renaming injEq->bD
open Prod.mk renaming injEq->bM
open Std.Legacy.Range renaming forIn_eq_forIn_range'->arX,size->arY
namespace Go.AL
open Go
variable [Dr]
def E8(P:ak)(t:aK)(x:AV)(H:List aj):Option (AV × List aj):=
 match dO P t,x with
 |.str,.lit (.string s)=>some (.ptr H.length 0 0 0 0,H++[.iter s 0])
 |_,_=>none
variable {E:ah} {H' H:List aj} {P:ak} {c d u:ar} {t ty:aK} {v x a k m s key:AV} {cl id b cl' n aq h l l0 h0 j w i bn:Nat} {ok:Bool} {rZ:List (List AV)} {q:Option (Nat × Nat)} {r:Nat->List (Option (Option (Nat × Nat)))} {o o':aj} {ms:Array MapEntry} {e:MapEntry}
theorem aaH(HE:aJ E)(s:ByteArray):
  dP E (.ptr E.H.length 0 0 0 0) (E.H++[.iter s 0]) (.pointer (some ⟨E.w.heap.size,0,none⟩)) { E.w with heap:=E.w.heap.push (.stringIter s 0) }:=by
 have d:=Ext.push E.w (.stringIter s 0);have k:=ah.nW (o:=.iter s 0) (l:=some (E.w.heap.size,0)) HE.len d (fun b n hb=>by cases hb; exact aV _);have h:(E.w.heap.push (.stringIter s 0))[E.w.heap.size]?=some (.stringIter s 0):=au;refine⟨E.ae++[some (E.w.heap.size,0)],E.X.r,?_,aJ.push HE d (fun b n hb=>?_) ?_,k⟩
 ·simp only[ad]
  refine⟨⟨_,_,rfl⟩,⟨.iter s 0,au,rfl,fun v y=>by simp⟩,fun _=>⟨E.w.heap.size,0,?_,au⟩⟩;rw[<-HE.len]; simp
 grind
 ·simp only[a6]
  refine⟨E.w.heap.size,0,?_,h⟩;simp only[ah.push]; rw[<-HE.len]; simp
theorem aaI(HE:aJ E)(h:E8 P t x E.H=some (v,H'))(d:ad E x c):
  ∃u w',(Zy t c).run P E.w=.ok u w'/\dP E v H' u w':=by
 unfold E8 at h;split at h
 ·rename_i s k
  cases h;simp only[ad]at d;subst d;refine⟨_,_,?_,aaH HE s⟩;simp[Zy,Sem.bT (vE k),newObj];rfl
 ·cases h
def E9(x:AV)(isString:Bool)(H:List aj):Option (AV × List aj):=
 match x,isString with
 |.ptr id 0 _ 0 0,true=>match H[id]? with
  |some (.iter s pos)=>if pos<s.size then some (.tuple [.lit (.bool true),.lit (goInt pos),.lit (.int .i32 (sY s pos).1)],H.set id (.iter s (pos+(sY s pos).2)))
    else some (.tuple [.lit (.bool false)],H)
  |_=>none
 |_,_=>none
theorem aaJ(HE:aJ E){isString:Bool}(h:E9 x isString E.H=some (v,H'))(hx:ad E x c):
  ∃u w',(Instr.next c isString ty).run P E.w=.ok u w'/\dP E v H' u w':=by
 unfold E9 at h;split at h
 case h_2=>cases h
 rename_i id k;split at h
 case h_2=>cases h
 rename_i s pos d;have ho:=HE.obj id _ d;simp only[a6]at ho;obtain⟨b,n,h1,h2⟩:=ho;simp only[ad]at hx;obtain⟨_,_,h6⟩:=hx;obtain⟨b',n',M,g2⟩:=h6 ⟨_,d,rfl⟩;rw[h1]at M;simp only[bD,bM]at M;obtain⟨rfl,rfl⟩:=M;have hb:=(HE.lt id b n h1).1;split at h
 ·rename_i I
  cases h;subst g2;have W:({ E.w with heap:=E.w.heap.setIfInBounds b (.stringIter s (pos+(sY s pos).2)) }:bh).heap.size=E.w.heap.size:=au;have U:∀y,y≠b->({ E.w with heap:=E.w.heap.setIfInBounds b (.stringIter s (pos+(sY s pos).2)) }:bh).heap[y]?=E.w.heap[y]?:=by
   intro y hy;simp only[Em]
   grind
  refine⟨.tuple #[.bool true,goInt pos,.int .i32 (sY s pos).1],{ E.w with heap:=E.w.heap.setIfInBounds b (.stringIter s (pos+(sY s pos).2)) },?_,E.ae,E.X.r,?_,?_,?_⟩
  ·have N:(getObj b).run P E.w=.ok (.stringIter s pos) E.w:=by grind[getObj,jA]
   have e2:(setObj b (.stringIter s (pos+(sY s pos).2))).run P E.w=.ok () { E.w with heap:=E.w.heap.setIfInBounds b (.stringIter s (pos+(sY s pos).2)) }:=by
    simp[setObj,jA,h2]
   simp only[Instr.next,xB,sU,dN,N,dZ,I,if_true]
   simp_all
  ·simp[ad,aw]
  ·exact HE.set d h1 (fun v O=>O) W U (by
    simp only[a6];exact⟨b,n,h1,by simp[hb]⟩)
  ·exact ah.rR HE d h1 (fun v O=>O) W U
 ·rename_i I
  cases h;subst g2;refine⟨.tuple #[.bool false],E.w,?_,E.ae,E.X.r,by simp[ad,aw],by simpa using HE,ah.le.refl E⟩;have N:(getObj b).run P E.w=.ok (.stringIter s pos) E.w:=by simp[getObj,jA,h2]
  simp only[Instr.next,xB,sU,dN,N,dZ,I,if_false];rfl
def jT(P:ak)(d:aK)(a:AV):Option (List ar):=
 match flatK P rP d with
 |none=>none
 |some ks=>match a with
  |.lit v=>if eL ks [v]=true/\rO (P.underlying d)=false then some [v] else none
  |.agg as=>match rN as with
   |some l=>if eL ks l=true/\rO (P.underlying d)=true then some l else none
   |none=>none
  |_=>none
def rT(P:ak)(d:aK)(l:List ar)(c:ar):Prop:=gM P d c l/\∃ks,flatK P rP d=some ks/\eL ks l=true
theorem kr{k:aK}{l:List ar}(h:jT P k a=some l)(hr:ad E a c):rT P k l c:=by
 unfold jT at h;split at h
 ·cases h
 rename_i ks y;split at h
 ·split at h
  ·rename_i v d
   cases h;simp only[ad]at hr;subst hr;refine⟨?_,ks,y,d.1⟩
   grind[gM,rO]
  ·cases h
 ·split at h
  ·rename_i as l' I
   split at h
   ·rename_i d
    cases h;simp only[ad]at hr;obtain⟨cs,rfl,_,M⟩:=hr;refine⟨?_,ks,y,d.1⟩
    grind[ER,gM,rO]
   ·cases h
  ·cases h
 ·cases h
theorem J_{P:ak}:∀(d:Nat) (y:List Field) (oF:Nat) (ks:List SK),Bj P d y oF=some ks->∀(k:Array ar),eL ks (k.toList.drop oF)=true->∀w:bh,∀f∈y,f.name ≠ "_" /\
  ∃M x O,flatK P d f.type=some M/\(part f.type k f.offset).run P w=.ok x w/\gM P f.type x O/\eL M O=true
 |d,[],oF,ks,h,k,U,w,f,v=>by cases v
 |d,g::y,oF,ks,h,k,U,w,f,v=>by
  unfold Bj vF at h;split at h
  ·cases h
  rename_i hc;split at h
  case h_2=>cases h
  rename_i M n ag W e2;split at h
  case isFalse=>cases h
  rename_i hn;split at h
  case h_2=>cases h
  rename_i l e3;cases h;have hoff:g.offset=oF:=by
   by_cases e:g.offset=oF
   ·exact e
   omega
  obtain⟨N,I⟩:=EP U;rw[<-hn]at N I;rcases c_.1 v with rfl|v
  ·obtain⟨x,px,vx⟩:=JQ e2 W hn k oF N w
   grind
  ·exact J_ d y (oF+n) l e3 k (by rw[List.drop_drop]at I; exact I) w f v
theorem J'{P:ak}(em:Bool):∀(d:Nat) (t:aK) (ks:List SK),flatK P d t=some ks->∀(D:Nat),d<=D->∀(x:ar) (v:List ar),gM P t x v->eL ks v=true ->
  ∀w,(xD em D t x).run P w=.ok () w
 |0,_,_,h=>by simp[flatK]at h
 |d+1,t,ks,h=>by
  intro D hD x v I U w;obtain⟨D,rfl⟩:∃D',D=D'+1:=⟨D-1,ab⟩
  unfold flatK at h;cases hu:P.underlying t with
  |none=>grind
  |some de=>
   rw[hu]at h;cases de with
   |struct M=>
    simp only[]at h;split at h
    ·cases h
    simp only[gM,hu]at I;obtain⟨a,rfl,rfl⟩:=I;have y:=J_ d M.toList 0 ks h a (by simpa using U) w;have O:∀f∈M.toList,f.name ≠ "_" /\ ∃x,(part f.type a f.offset).run P w=.ok x w/\(xD em D f.type x).run P w=.ok () w:=fun f hf=>by
     obtain⟨h1,N,x,v,W,h3,h4,h5⟩:=y f hf;exact⟨h1,x,h3,J' em d f.type N W D ab x v h4 h5 w⟩
    rw[xD];simp only[dN,Sem.bT hu,dZ];rw[<-Array.forIn_toList];clear y h;generalize M.toList=L at O
    induction L with
    |nil=>simp
    |cons f L ih=>
     obtain⟨hn,x,p1,p2⟩:=O f au
     simp_all
   |array m e=>
    simp only[]at h;split at h
    case h_2=>cases h
    rename_i n g hv;simp only[gM,hu]at I;obtain⟨a,rfl,rfl⟩:=I;obtain⟨i,d',h1,W,rfl,h4⟩:=nl hv;have y:=J_ d (xX e i.size m) 0 ks h a (by simpa using U) w;rw[xD];simp only[dN,Sem.bT hu,dZ,arX,arY,iz,Nat.add_sub_cancel,Nat.div_one];unfold xX at y;clear h;generalize List.range' 0 m=L at y
    induction L with
    |nil=>simp
    |cons j L ih=>
     obtain⟨_,N,x,v,q2,q3,q4,q5⟩:=y _ (List.mem_map_of_mem (dx ..));have q6:=J' em d e N q2 D ab x v q4 q5 w
     simp_all[Sem.run_sizeOf]
   |int k=>
    simp_all[xD,Sem.bT]
   |string=>
    simp_all[xD,Sem.bT]
   |bool=>
    simp_all[xD,Sem.bT]
   |_=>simp at h
theorem iU{d:aK}{l:List ar}(h:rT P d l c)(em:Bool)(w:bh):(xD em 10000 d c).run P w=.ok () w:=by
 obtain⟨h1,ks,k,v⟩:=h;exact J' em rP d ks k 10000 e_ c l h1 v w
theorem aaK{k:aK}{l m:List ar}(h:rT P k l c)(h':rT P k m d)(w:bh):(Op.equal k c d).run P w=.ok (fE l m) w:=by
 obtain⟨h1,ks,v,I⟩:=h;obtain⟨M,O,y,N⟩:=h';rw[v]at y;cases y;exact JR rP k ks v 10000 e_ c d l m h1 M I N w
def fW(P:ak)(d:aK)(k:List ar):List (AV × AV × Nat)->Nat->Option (Option (Nat × AV))
 |[],_=>some none
 |(h,v,_)::y,i=>match jT P d h with
  |some l=>bif fE k l then some (some (i,v)) else fW P d k y (i+1)
  |none=>none
def eE(E:ah)(h:List MapEntry)(d:Nat):Option (Nat × AV)->Option (Nat × ar)->Prop
 |none,none=>True
 |some (i,v),some (j,c)=>i=j/\ad E v c/\d<=i/\∃e,h[i-d]?=some e/\e.val=c
 |_,_=>False
theorem PL{P:ak}{E:ah}{M:aK}{k:List ar}{c:ar}(O:rT P M k c)(w:bh):∀(I:List (AV × AV × Nat)) (y:List MapEntry) (i:Nat) (r:Option (Nat × AV)),
  bX E I y->fW P M k I i=some r->∃d,(Zz M c y i).run P w=.ok d w/\eE E y i r d
 |[],[],i,r,_,h=>by
  simp only[fW,bD]at h;subst h;exact⟨none,rfl,trivial⟩
 |[],_::_,_,_,hr,_=>by simp[bX]at hr
 |(_,_,_)::_,[],_,_,hr,_=>by simp[bX]at hr
 |(k',v,n)::I,e::y,i,r,hr,h=>by
  simp only[bX]at hr;obtain⟨h1,W,h3,h4,h5,h6⟩:=hr;simp only[fW]at h;split at h
  case h_2=>cases h
  rename_i l hl;have he:=aaK O (kr hl h1) w;cases U:fE k l with
  |true=>
   rw[U]at h he;cases h;refine⟨some (i,e.val),by simp[Zz,he],rfl,W,aV _,e,au,rfl⟩
  |false=>
   rw[U]at h he;obtain⟨d,g1,N⟩:=PL O w I y (i+1) r h6 h;refine⟨d,by simp[Zz,he,g1],?_⟩;cases r with
   |none=>cases d with
    |none=>trivial
    |some _=>simp[eE]at N
   |some p=>cases d with
    |none=>simp[eE]at N
    |some q=>
     simp only[eE]at N|-
     grind
theorem PM{P:ak}{E:ah}{kt:aK}{k:List ar}{c:ar}{d:TypeDesc}(hu:P.underlying kt=some d)(hk:rT P kt k c):∀(es:List (AV × AV × Nat)) (I:List MapEntry) (i:Nat) (r:Option (Nat × AV)),
  bX E es I->fW P kt k es i=some r->(∃M,En d c I i=some M/\eE E I i r M)\/En d c I i=none
 |[],[],i,r,_,h=>by
  simp only[fW,bD]at h;subst h;exact .inl ⟨none,rfl,trivial⟩
 |[],_::_,_,_,hr,_=>by simp[bX]at hr
 |(_,_,_)::_,[],_,_,hr,_=>by simp[bX]at hr
 |(k',v,n)::es,e::I,i,r,hr,h=>by
  simp only[bX]at hr;obtain⟨h1,h2,h3,h4,h5,h6⟩:=hr;simp only[fW]at h;split at h
  case h_2=>cases h
  rename_i l hl;have hkv:=kr hl h1;have same:A4 d c e.key=some (fE k l)\/A4 d c e.key=none:=by
   obtain⟨p1,ks,y,N⟩:=hk;obtain⟨O,ks',q2,U⟩:=hkv;rw[y]at q2;cases q2;unfold rP at y;unfold flatK at y;rw[hu]at y;cases d with
   |struct fs=>grind[A4]
   |array m e=>grind[A4]
   |int kk=>
    simp at y;subst y;simp only[gM,hu]at p1 O;subst p1; subst O;simp only[eL,jQ]at N U;unfold kindOk at N U
    grind[A4,fE,tv]
   |string=>
    simp at y;subst y;simp only[gM,hu]at p1 O;subst p1; subst O;simp only[eL,jQ]at N U;unfold kindOk at N U
    grind[A4,fE,tv,beq_toListBytes]
   |bool=>
    simp at y;subst y;simp only[gM,hu]at p1 O;subst p1; subst O;simp only[eL,jQ]at N U;unfold kindOk at N U
    grind[A4,fE,tv]
   |_=>simp at y
  rcases same with W|W
  ·cases hv:fE k l with
   |true=>
    rw[hv]at h W;cases h;exact .inl ⟨some (i,e.val),by simp[En,W],rfl,h2,aV _,e,au,rfl⟩
   |false=>
    rw[hv]at h W;rcases PM hu hk es I (i+1) r h6 h with⟨M,g1,g2⟩|g
    ·refine .inl ⟨M,by simp[En,W,g1],?_⟩
     cases r with
     |none=>cases M with
      |none=>trivial
      |some _=>simp[eE]at g2
     |some p=>cases M with
      |none=>simp[eE]at g2
      |some q=>
       simp only[eE]at g2|-
       grind
    grind[En]
  grind[En]
theorem jE{y:aK}{k:List ar}(O:rT P y k c)(w:bh){I:List (AV × AV × Nat)}{v:List MapEntry}{r:Option (Nat × AV)}
  (hr:bX E I v) (h:fW P y k I 0=some r):∃M,(ZA y c v).run P w=.ok M w/\eE E v 0 r M:=by
 have hu:∃d,P.underlying y=some d:=by
  obtain⟨_,ks,N,_⟩:=O;unfold rP at N;unfold flatK at N;split at N<;>first|exact⟨_,by assumption⟩|cases N
 obtain⟨d,hu⟩:=hu;rcases PM hu O I v 0 r hr h with⟨M,U,W⟩|g
 simp_all[ZA,Sem.bT]
 ·obtain⟨M,U,W⟩:=PL O w I v 0 r hr h
  simp_all[ZA,Sem.bT]
def eT(P:ak)(t:aK):Option (aK × aK):=match P.underlying t with
 |some (.map k e)=>some (k,e)
 |_=>none
theorem gW{k e:aK}(h:eT P t=some (k,e)):P.underlying t=some (.map k e):=by
 unfold eT at h;split at h
 ·rename_i h1; cases h; exact h1
 ·cases h
def kK(P:ak)(t:aK):Option AV:=match P.info? t with
 |some i=>match i.zero with
  |some z=>some (AV.xS z)
  |none=>none
 |none=>none
theorem vI(h:kK P t=some a)(w:bh):∃z,(zeroValue t).run P w=.ok z w/\∀E,ad E a z:=by
 unfold kK at h;split at h
 ·rename_i i hi
  split at h
  ·rename_i z d
   cases h
   simp_all[pW,Pb]
  ·cases h
 ·cases h
def rU(P:ak)(t:aK):Option AV:=match kK P t,Bn P t with
 |some (.lit (.slice none 0 0)),some ks=>some (.listF ks [])
 |some z,_=>some z
 |none,_=>none
theorem PN(h:rU P t=some a)(w:bh):∃z,(zeroValue t).run P w=.ok z w/\∀E,ad E a z:=by
 unfold rU at h;split at h
 ·rename_i ks h1 v
  cases h;obtain⟨z,d,k⟩:=vI h1 w;refine⟨z,d,fun E=>?_⟩;have:=k E
  simp_all[ad,gJ,G.rZ]
 simp_all[vI]
 ·cases h
def jl(P:ak)(t:aK)(m k:AV)(ok:Bool)(H:List aj):Option AV:=
 match eT P t,m with
 |some (d,h),.map id=>match H[id]? with
  |some (.map y _)=>match jT P d k,rU P h with
   |some I,some z=>match fW P d I y 0 with
    |some r=>let v:=match r with
      |some (_,v)=>v
      |none=>z
     some (match ok with
      |true=>.tuple [v,.lit (.bool r.isSome)]
      |false=>v)
    |none=>none
   |_,_=>none
  |_=>none
 |_,_=>none
theorem vJ(HE:aJ E){k:List (AV × AV × Nat)}(h:E.H[id]? = some (.map k cl))(hr:ad E (.map id) c):
  ∃b n d,c=.map (some b)/\E.ae[id]?=some (some (b,n))/\E.w.heap[b]?=some (.map d cl)/\bX E k d.toList:=by
 have ho:=HE.obj id _ h;simp only[a6]at ho;obtain⟨b,n,d,h1,y,I⟩:=ho;simp only[ad]at hr;obtain⟨_,_,v⟩:=hr;obtain⟨M,N,O,U⟩:=v ⟨_,h,rfl⟩
 grind
theorem PO(HE:aJ E)(h:jl P t m k ok E.H=some v)(hm:ad E m c)(hk:ad E k d):
  ∃u,(m_ t c d ok).run P E.w=.ok u E.w/\ad E v u:=by
 unfold jl at h;split at h
 case h_2=>cases h
 rename_i kt et id M;split at h
 case h_2=>cases h
 rename_i es cl hid;split at h
 case h_2=>cases h
 rename_i kv z hkv hz;split at h
 case h_2=>cases h
 rename_i r hr;obtain⟨b,n,ms,rfl,h1,h2,h3⟩:=vJ HE hid hm;have I:=kr hkv hk;obtain⟨N,O,y⟩:=jE I E.w h3 hr;obtain⟨U,z1,z2⟩:=PN hz E.w;have W:(getObj b).run P E.w=.ok (.map ms cl) E.w:=by simp[getObj,jA,h2]
 cases h;cases r with
 |none=>
  cases N with
  |some _=>simp[eE]at y
  |none=>
   refine⟨if ok then .tuple #[U,.bool false] else U,?_,?_⟩
   ·simp only[m_,dN,Sem.bT (gW M),dZ,W,ke,iU I,O,z1]
   ·cases ok with
    |true=>simp[ad,aw,z2 E]
    |false=>grind
 |some p=>
  cases N with
  |none=>simp[eE]at y
  |some q=>
   simp only[eE]at y;obtain⟨q1,q2,_,_,_,_⟩:=y;refine⟨if ok then .tuple #[q.2,.bool true] else q.2,?_,?_⟩
   ·simp only[m_,dN,Sem.bT (gW M),dZ,W,ke,iU I,O]
   ·cases ok with
    |true=>simp[ad,aw,q2]
    |false=>grind
theorem aaL(HE:aJ E):dP E (.map E.H.length) (E.H++[.map [] 0]) (.map (some E.w.heap.size)) { E.w with heap:=E.w.heap.push (.map #[] 0) }:=by
 have d:=Ext.push E.w (.map #[] 0);have k:=ah.nW (o:=.map [] 0) (l:=some (E.w.heap.size,0)) HE.len d (fun b n hb=>by cases hb; exact aV _);have h:(E.w.heap.push (.map #[] 0))[E.w.heap.size]?=some (.map #[] 0):=au;refine⟨E.ae++[some (E.w.heap.size,0)],E.X.r,?_,aJ.push HE d (fun b n hb=>?_) ?_,k⟩
 ·simp only[ad]
  refine⟨⟨_,rfl⟩,⟨.map [] 0,au,rfl,fun v y=>fy _⟩,fun _=>⟨E.w.heap.size,0,?_,rfl⟩⟩;rw[<-HE.len]; simp
 grind
 ·simp only[a6]
  refine⟨E.w.heap.size,0,#[],?_,h,by simp[bX]⟩;simp only[ah.push]; rw[<-HE.len]; simp
def vK(id:Nat)(H:List aj):Option (AV × List aj):=
 match H[id]? with
 |some .eV=>some (.map id,H.set id (.map [] 0))
 |_=>none
theorem Ka(h:vK id H=some (v,H')):H[id]?=some .eV/\v=.map id/\H'=H.set id (.map [] 0):=by
 unfold vK at h;split at h
 ·rename_i d
  cases h;exact⟨d,rfl,rfl⟩
 ·cases h
theorem PQ(h:H[id]?=some .eV):vK id H=some (.map id,H.set id (.map [] 0)):=by
 unfold vK;rw[h]
theorem aaM(HE:aJ E)(k:E.H[id]?=some .eV):dP E (.map id) (E.H.set id (.map [] 0)) (.map (some E.w.heap.size)) { E.w with heap:=E.w.heap.push (.map #[] 0) }:=by
 have d:=Ext.push E.w (.map #[] 0);have N:=bl k;have I:(aj.eV).born=true->(aj.eV).aX=none->(aj.map [] 0).aX=none:=fun h=>by cases h
 have M:∀v,(aj.map [] 0).aX=some v->∀u,(aj.eV).aX=some u->u<v:=fun v _ u hu=>by cases hu
 have O:∀v u,(aj.map [] 0).aX=some v->(aj.eV).aX=some u->u<=v:=fun v u _ hu=>by cases hu
 have hblk:(E.w.heap.push (.map #[] 0))[E.w.heap.size]?=some (.map #[] 0):=au;have U:(E.ae.set id (some (E.w.heap.size,0)))[id]?=some (some (E.w.heap.size,0)):=cG (by rw[HE.len]; exact N);have W:E.le { w:={ E.w with heap:=E.w.heap.push (.map #[] 0) },H:=E.H.set id (.map [] 0),ae:=E.ae.set id (some (E.w.heap.size,0)),X:=E.X }:=
  ah.ng k HE.len d.size (fun x y _=>d.same x y) (fun b n h=>by cases h; exact .inl (aV _)) (.inr M) O I
 refine⟨E.ae.set id (some (E.w.heap.size,0)),E.X.r,?_,?_,W⟩
 ·simp only[ad]
  exact⟨⟨_,rfl⟩,⟨.map [] 0,by simp[N],rfl,fun v hv=>fy _⟩,fun _=>⟨E.w.heap.size,0,U,rfl⟩⟩
 ·refine aJ.oP HE k d.size (fun x y _=>d.same x y) (fun b n h=>by cases h; exact .inl ⟨aV _,au⟩) (.inr M) O I ?_
  grind[a6,bX]
theorem aaN(HE:aJ E)(h:vK id E.H=some (v,H')):
  ∃u w',(ZB t none).run P E.w=.ok u w'/\dP E v H' u w':=by
 obtain⟨h1,rfl,rfl⟩:=Ka h;exact⟨_,_,by simp[ZB,newObj]; rfl,aaM HE h1⟩
theorem Kb{a b:ByteArray}(h:a.toList=b.toList):a=b:=by
 have h1:(a==b)=true:=by rw[beq_toListBytes,h]; simp
 obtain⟨x⟩:=a;obtain⟨y⟩:=b;have e:x=y:=by simpa using(show (x==y)=true from h1)
 rw[e]
theorem PR:∀{l m:List ar} {ks:List SK},eL ks l=true->eL ks m=true->fE l m=true->l=m
 |[],[],_,_,_,_=>rfl
 |a::l,b::m,ks,h1,d,h=>by
  cases ks with
  |nil=>simp[eL]at h1
  |cons k ks=>
   simp only[eL,aO]at h1 d;simp only[fE,aO]at h;have e:a=b:=by
    have v:=h1.1;have y:=d.1;have I:=h.1;unfold kindOk at v y;split at v<;>split at y<;>simp_all[tv]
    exact Kb h.1
   rw[e,PR h1.2 d.2 h.2]
 |[],_::_,_,_,_,h|_::_,[],_,_,_,h=>by simp[fE]at h
theorem PS{ks:List SK}:∀{l:List ar},eL ks l=true->∀(n:Nat),(l.zip l).all (fun(x,y)=>OL n x y)=true:=by
 intro l
 induction l generalizing ks with
 |nil=>simp
 |cons a l d=>
  intro h n;cases ks with
  |nil=>simp[eL]at h
  |cons k ks=>
   simp only[eL,aO]at h;simp only[List.zip_cons_cons,List.all_cons,aO];refine⟨?_,d h.2 n⟩;have v:=h.1;unfold kindOk at v
   grind[OL,beq_toListBytes]
theorem Br{v:aK}{l m:List ar}(h:rT P v l c)(h':rT P v m d)(he:fE l m=true):c=d/\OL 10000 d c=true:=by
 obtain⟨h1,ks,N,k⟩:=h;obtain⟨O,ks',I,U⟩:=h';rw[N]at I;cases I;have e:=PR k U he;subst e;have h0:(∃x y:Array ar,c=.agg x/\x.toList=l/\d=.agg y/\y.toList=l)\/l=[c]/\l=[d]:=by
  unfold gM at h1 O
  grind
 rcases h0 with⟨x,y,rfl,M,rfl,W⟩|⟨g1,g2⟩
 ·have:x=y:=by apply mh; rw[M,W]
  subst this;refine⟨rfl,?_⟩;simp only[OL,beq_self_eq_true,Bool.true_and];rw[M];exact PS k 9999
 ·have:c=d:=by rw[g1]at g2; grind
  subst this;refine⟨rfl,?_⟩;have:=PS k 10000
  simp_all
def oT(P:ak)(t:aK)(m k v:AV)(H:List aj):Option (List aj):=
 match eT P t,m with
 |some (h,_),.map id=>match H[id]? with
  |some (.map d cl)=>match jT P h k with
   |some y=>if v.closed=true/\k.closed=true then
     match fW P h y d 0 with
     |some (some (i,_))=>some (H.set id (.map (d.modify i fun e=>(k,v,e.2.2)) cl))
     |some none=>some (H.set id (.map (d++[(k,v,cl)]) (cl+1)))
     |none=>none
    else none
   |none=>none
  |_=>none
 |_,_=>none
theorem fA{E:ah}:∀{es:List (AV × AV × Nat)} {d:List MapEntry},bX E es d↔es.length=d.length/\∀(i:Nat) x e,es[i]?=some x->d[i]?=some e ->
  ad E x.1 e.key/\ad E x.2.1 e.val/\e.born=x.2.2/\x.1.closed=true/\x.2.1.closed=true
 |[],[]=>by simp[bX]
 |[],_::_=>by simp[bX]
 |(_,_,_)::_,[]=>by simp[bX]
 |(k,v,n)::es,e::d=>by
  simp only[bX,fA (es:=es),List.length_cons];constructor
  grind
  ·rintro⟨h1,h⟩
   obtain⟨I,M,N,O,U⟩:=h 0 (k,v,n) e rfl rfl;exact⟨I,M,N,O,U,ab,fun i x y W hy=>h (i+1) x y (by simpa using W) (by simpa using hy)⟩
theorem E_(HE:aJ E){N es':List (AV × AV × Nat)}{O ms':Array MapEntry}(I:E.H[id]? = some (.map N cl)) (h:E.ae[id]? = some (some (b,n)))
  (hb:E.w.heap[b]?=some (.map O cl)) (hr:bX E es' ms'.toList) :
  ∃w',(setObj b (.map ms' cl')).run P E.w=.ok () w'/\aJ { w:=w',H:=E.H.set id (.map es' cl'),ae:=E.ae,X:=E.X }/\E.le { w:=w',H:=E.H.set id (.map es' cl'),ae:=E.ae,X:=E.X }:=by
 have U:=(HE.lt id b n h).1;have M:({ E.w with heap:=E.w.heap.setIfInBounds b (.map ms' cl') }:bh).heap.size=E.w.heap.size:=au;have k:∀y,y≠b->({ E.w with heap:=E.w.heap.setIfInBounds b (.map ms' cl') }:bh).heap[y]?=E.w.heap[y]?:=by
  intro y hy;simp only[Em]
  grind
 refine⟨{ E.w with heap:=E.w.heap.setIfInBounds b (.map ms' cl') },by simp[setObj,jA,hb],?_,?_⟩
 ·have W:E.le { w:={ E.w with heap:=E.w.heap.setIfInBounds b (.map ms' cl') },H:=E.H.set id (.map es' cl'),ae:=E.ae,X:=E.X }:=ah.rR HE I h (fun v d=>d) M k
  refine HE.set I h (fun v d=>d) M k ?_
  grind[a6,fA,bW]
 ·exact ah.rR HE I h (fun v d=>d) M k
theorem yc{P:ak}{y:aK}{k:List ar}:∀{d:List (AV × AV × Nat)} {i j:Nat} {v:AV},fW P y k d i=some (some (j,v))->i<=j/\∃ x l,d[j-i]? = some x/\jT P y x.1=some l/\fE k l=true
 |[],_,_,_,h=>by simp[fW]at h
 |(M,N,n)::d,i,j,v,h=>by
  simp only[fW]at h;split at h
  case h_2=>cases h
  rename_i l O;cases I:fE k l with
  |true=>
   simp_all
  |false=>
   rw[I]at h;obtain⟨h1,x,l',U,W,h4⟩:=yc h
   grind
theorem PT(HE:aJ E)(h:oT P t m k v E.H=some H')(hm:ad E m c)(hk:ad E k d)(hv:ad E v u):
  ∃w',(oJ t c d u).run P E.w=.ok () w'/\aJ { w:=w',H:=H',ae:=E.ae,X:=E.X }/\E.le { w:=w',H:=H',ae:=E.ae,X:=E.X }:=by
 unfold oT at h;split at h
 case h_2=>cases h
 rename_i kt et id ht;split at h
 case h_2=>cases h
 rename_i es cl U;split at h
 case h_2=>cases h
 rename_i kv hkv;split at h
 case isFalse=>cases h
 rename_i hcl;obtain⟨b,n,N,rfl,h1,W,h3⟩:=vJ HE U hm;have I:=kr hkv hk;have e1:(getObj b).run P E.w=.ok (.map N cl) E.w:=by simp[getObj,jA,W]
 obtain⟨hlen,hall⟩:=fA.1 h3;split at h
 ·rename_i i v0 O
  cases h;obtain⟨r',g1,M⟩:=jE I E.w h3 O;cases r' with
  |none=>simp[eE]at M
  |some q=>
   simp only[eE]at M;obtain⟨q1,q2,_,e',q4,q5⟩:=M;obtain⟨_,x,l,f1,f2,f3⟩:=yc O;simp only[iz]at q4 f1;obtain⟨a1,a2,a3,a4,a5⟩:=hall i x e' f1 q4;obtain⟨s1,s2⟩:=Br I (kr f2 a1) f3;have q4':N[i]?=some e':=gB;obtain⟨w',r1,r2,r3⟩:=E_ (P:=P) HE (es':=es.modify i fun e=>(k,v,e.2.2)) (ms':=N.modify i fun e=>{ e with key:=d,val:=u }) (cl':=cl) U h1 W (by
    rw[fA];refine⟨by simp[hlen],fun j y z hy hz=>?_⟩;simp only[kI]at hy;simp only[nc,kI]at hz;obtain⟨y0,hy0,rfl⟩:=gj.1 hy
    grind)
   refine⟨w',?_,r2,r3⟩;subst q1;have hst:(sZ e'.key d).run P E.w=.ok d E.w:=by simp[sZ,s2]
   simp only[oJ,dN,Sem.bT (gW ht),dZ,e1,iU I,g1,q4',ki,rD,hst];exact r1
 ·rename_i O
  cases h;obtain⟨r',g1,M⟩:=jE I E.w h3 O;cases r' with
  |some _=>simp[eE]at M
  |none=>
   obtain⟨w',r1,r2,r3⟩:=E_ (P:=P) HE (es':=es++[(k,v,cl)]) (ms':=N.push { key:=d,val:=u,born:=cl }) (cl':=cl+1) U h1 W (by
    rw[fA];refine⟨by simp[hlen],fun j y z hy hz=>?_⟩
    grind)
   refine⟨w',?_,r2,r3⟩;simp only[oJ,dN,Sem.bT (gW ht),dZ,e1,iU I,g1];exact r1
 ·cases h
def Bs(P:ak)(t:aK)(m k:AV)(H:List aj):Option (List aj):=
 match eT P t,m with
 |some (h,_),.map id=>match H[id]? with
  |some (.map d cl)=>match jT P h k with
   |some v=>match fW P h v d 0 with
    |some (some (i,_))=>some (H.set id (.map (d.eraseIdx i) cl))
    |some none=>some (H.set id (.map d cl))
    |none=>none
   |none=>none
  |_=>none
 |_,_=>none
theorem aaO(HE:aJ E){iG:Array aK}{cs:Array ar}(h:Bs P t m k E.H=some H')(h0:iG[0]? = some t)
  (h1':cs[0]?=some c) (h2':cs[1]?=some d) (hm:ad E m c) (hk:ad E k d) :
  ∃w',(ZC iG ty cs).run P E.w=.ok (.tuple #[]) w'/\aJ { w:=w',H:=H',ae:=E.ae,X:=E.X }/\E.le { w:=w',H:=H',ae:=E.ae,X:=E.X }:=by
 unfold Bs at h;split at h
 case h_2=>cases h
 rename_i kt et id ht;split at h
 case h_2=>cases h
 rename_i es cl O;split at h
 case h_2=>cases h
 rename_i kv hkv;obtain⟨b,n,v,rfl,h1,U,N⟩:=vJ HE O hm;have M:=kr hkv hk;have e1:(getObj b).run P E.w=.ok (.map v cl) E.w:=by simp[getObj,jA,U]
 obtain⟨hlen,hall⟩:=fA.1 N;split at h
 ·rename_i i v0 W
  cases h;obtain⟨r',g1,I⟩:=jE M E.w N W;cases r' with
  |none=>simp[eE]at I
  |some q=>
   simp only[eE]at I;obtain⟨q1,q2,_,e',q4,q5⟩:=I;obtain⟨w',r1,r2,r3⟩:=E_ (P:=P) HE (es':=es.eraseIdx i) (ms':=v.eraseIdxIfInBounds i) (cl':=cl) O h1 U (by
    rw[fA];have e:(v.eraseIdxIfInBounds i).toList=v.toList.eraseIdx i:=au;rw[e];refine⟨by simp[List.length_eraseIdx,hlen],fun j y z hy hz=>?_⟩;rw[List.getElem?_eraseIdx]at hy hz
    grind)
   refine⟨w',?_,r2,r3⟩;subst q1;simp only[ZC,h0,h1',h2',dN,Sem.bT (gW ht),dZ,e1,iU M,g1]
   simp_all
 ·rename_i W
  cases h;obtain⟨r',g1,I⟩:=jE M E.w N W;cases r' with
  |some _=>simp[eE]at I
  |none=>
   obtain⟨w',r1,r2,r3⟩:=E_ (P:=P) HE (es':=es) (ms':=v) (cl':=cl) O h1 U N;refine⟨w',?_,r2,r3⟩;simp only[ZC,h0,h1',h2',dN,Sem.bT (gW ht),dZ,e1,iU M,g1]
   simp_all
 ·cases h
theorem PU{α:Type}{k:Nat}:∀{l:List (List α)} (n:Nat),(∀ r∈l,r.length=k)->(l.take n).flatten=l.flatten.take (n*k)
 |[],n,_=>by simp
 |r::l,0,_=>by simp
 |r::l,n+1,h=>by
  have hr:r.length=k:=h r dx;have v:=PU (l:=l) n (fun x d=>h x (dh _ d))
  simp_all[pL,List.take_append,List.take_of_length_le]
theorem PV{α:Type}{k:Nat}:∀{l:List (List α)} (n:Nat),(∀ r∈l,r.length=k)->(l.drop n).flatten=l.flatten.drop (n*k)
 |[],n,_=>by simp
 |r::l,0,_=>by simp
 |r::l,n+1,h=>by
  have hr:r.length=k:=h r dx;have v:=PV (l:=l) n (fun x d=>h x (dh _ d))
  simp_all[pL,List.drop_append]
theorem aaP(HE:aJ E){k m oF:Nat}{news:List (List AV)}{vals:List ar}(U:E.H[id]? = some (.vQ k aq rZ)) (I:E.ae[id]? = some (some (b,m)))
  (y:aw E news.flatten vals) (h1:∀x∈vals,eW x=true) (hw:∀r∈news,r.length=k) (hcl:gn news) (hle:oF+news.length<=rZ.length) :
  ∃w',(storeCells ⟨b,oF*k,none⟩ vals).run P E.w=.ok () w'/\aJ { w:=w',H:=E.H.set id (.vQ k aq (rZ.take oF++news++rZ.drop (oF+news.length))),ae:=E.ae,X:=E.X } /\
   E.le { w:=w',H:=E.H.set id (.vQ k aq (rZ.take oF++news++rZ.drop (oF+news.length))),ae:=E.ae,X:=E.X }:=by
 rcases HE.obj id _ U with⟨e2,_⟩|⟨b',m',e2,⟨d,el,hblk,hsize⟩,e3,e4,e5⟩
 grind
 rw[I]at e2;cases e2;have N:∀r∈rZ,r.length=k:=J0 e5;have hlen:vals.length=news.length*k:=by grind[jh,ya]
 have hmul:(oF+news.length)*k<=rZ.length*k:=sW _ hle;rw[pL]at hmul;have hmul2:rZ.length*k<=m*k:=sW _ e3;have O:oF*k+0+vals.length<=d.size:=by rw[hsize]; omega
 have W:=run_storeCells_at P b (oF*k) el vals 0 d E.w hblk O (fun v y=>by rw[x9]; exact h1 v y);simp only[sU]at W O;generalize M:E.w.setRow b (d.toList.take (oF*k)++vals++d.toList.drop (oF*k+vals.length)).toArray=w' at W;have hsize':w'.heap.size=E.w.heap.size:=by rw[<-M]; simp
 have henv:fl E.w w':=by rw[<-M]; exact⟨rfl,rfl,rfl,by first|exact fun _=>aV _|exact fun _=>gI _ _⟩
 have hother:∀x,x≠b->w'.heap[x]?=E.w.heap[x]?:=by intro x hx; rw[<-M]; grind[setRow_other]
 have hb':w'.heap[b]?=some (.cells (d.toList.take (oF*k)++vals++d.toList.drop (oF*k+vals.length)).toArray el (0,0)):=by
  rw[<-M]; grind[setRow_heap]
 have hver:∀v,(aj.vQ k aq (rZ.take oF++news++rZ.drop (oF+news.length))).aX=some v->(aj.vQ k aq rZ).aX=some v:=fun v y=>by simpa[aj.aX]using y
 have hle':=ah.rR (o':=.vQ k aq (rZ.take oF++news++rZ.drop (oF+news.length))) HE U I hver hsize' hother;have hl2:(rZ.take oF++news++rZ.drop (oF+news.length)).length=rZ.length:=by
  simp only[List.length_append,mg,A3];omega
 refine⟨w',W,aJ.set HE U I hver hsize' hother ?_,hle'⟩;simp only[a6];right;refine⟨b,m,I,⟨_,el,hb',?_⟩,by rw[hl2]; exact e3,?_,?_⟩
 grind
 ·intro r hr
  simp only[List.mem_append]at hr;rcases hr with(h|h)|h
  ·exact e4 r (List.mem_of_mem_take h)
  ·exact hcl r h
  ·exact e4 r (List.mem_of_mem_drop h)
 ·refine EW ?_ ?_
  grind
  ·rw[Ej,Ej,PU oF N,PV _ N]
   have hflat:=EU e5;have cC:news.flatten.length=news.length*k:=ya hw;have:=EY (E:=E) (E':={ w:=w',H:=E.H.set id (.vQ k aq (rZ.take oF++news++rZ.drop (oF+news.length))),ae:=E.ae,X:=E.X }) (o:=0) (col:=oF*k) (as:=rZ.flatten) (cs:=news.flatten)
    (fun a c hr=>bW hle' a hr) hblk (by simpa using hb') (by simpa using O) hflat y h1 (by rw[ya N,cC]; omega)
   grind
def Bt(P:ak)(t:aK)(x:AV)(H:List aj):Option (List aj):=
 match dO P t,x with
 |.slice e sz _,.vQ w id aq oF n=>match gC P e,H[id]? with
  |some z,some (.vQ k v rZ)=>if k=w/\w=sz/\v=aq/\z.length=sz/\0<sz/\oF+n<=rZ.length then
    some (H.set id (.vQ k v (rZ.take oF++cn n (z.map AV.lit)++rZ.drop (oF+n)))) else none
  |_,_=>none
 |_,_=>none
theorem aaQ(HE:aJ E){iG:Array aK}{cs:Array ar}(h:Bt P t x E.H=some H')(h0:iG[0]? = some t)
  (h1':cs[0]?=some c) (y:ad E x c) :
  ∃w',(ZD iG ty cs).run P E.w=.ok (.tuple #[]) w'/\aJ { w:=w',H:=H',ae:=E.ae,X:=E.X }/\E.le { w:=w',H:=H',ae:=E.ae,X:=E.X }:=by
 unfold Bt at h;split at h
 case h_2=>cases h
 rename_i e sz by_ w id aq oF n hk;obtain⟨hu,i,hi,hs,_⟩:=kn hk;split at h
 case h_2=>cases h
 rename_i z k v rZ hz M;split at h
 case isFalse=>cases h
 rename_i hc;obtain⟨rfl,rfl,rfl,hzl,hpos,hle⟩:=hc;cases h;obtain⟨i',I,O,hz1,U,hz3⟩:=pV hz;rw[hi]at O;cases O;simp only[ad]at y;obtain⟨⟨aU,cap,rfl,hcap,hb⟩,_,hlive⟩:=y;obtain⟨q1,q2⟩:=hlive ⟨_,M,rfl⟩;cases n with
 |zero=>
  refine⟨E.w,?_,?_,?_⟩
  ·simp only[ZD,h0,h1',dN,Sem.bT hu,dZ]
   cases aU<;>rfl
  simp_all[qF]
  simp_all[qF,ah.le.refl]
 |succ n=>
  obtain⟨b,o,rfl⟩:=hb ab;have d:∃b m,E.ae[id]?=some (some (b,m)):=by
   rcases HE.obj id _ M with⟨_,e2⟩|⟨W,m',e2,_⟩
   grind
   grind
  obtain⟨W,m,d⟩:=d;obtain⟨g1,o',g2,g3⟩:=q2 W m d;have ho:=g2 ab;subst ho;simp only[qz,bD,Addr.mk.injEq]at g3;obtain⟨⟨rfl,rfl,_⟩,_,_⟩:=g3;have hvals:(Ei I.cells (n+1)).toList=(cn (n+1) z).flatten:=by
   rw[<-U];have hzs:0<I.cells.size:=by
    have:I.cells.size=z.length:=by rw[<-U]; simp
    omega
   exact range_zero I.cells (n+1) hzs
  have N:∀ r∈cn (n+1) (z.map AV.lit),r=z.map AV.lit:=fun r hr=>(ar6.1 hr).2;obtain⟨w',r1,r2,r3⟩:=aaP (P:=P) HE (oF:=oF) (news:=cn (n+1) (z.map AV.lit)) (vals:=(cn (n+1) z).flatten) M d (Bp z (n+1))
   (fun x y=>hz3 x (Bq y)) (fun r hr=>by rw[N r hr]; simp[hzl]) (fun r hr=>by rw[N r hr]; exact J9 z) (by simpa using hle)
  simp_all[ZD,Sem.bT,pW]
theorem aaR{w:bh}{xt e:aK}{i:TypeInfo}{z:ar}{sz:Nat}{aU:Option Addr}{m:Nat}{k k':IntKind}
  (y:P.underlying t=some (.slice e)) (I:P.underlying xt=some (.int k)) (hi:P.info? e=some i) (M:i.size=sz) (N:i.zero=some z) (d:0<sz) (h0:0<m) (hm:m<=1048576) (hb:i.bytes<=1048576) :
  ∃ C,m<=C/\(rC #[t,xt] ty #[.slice aU 0 0,.int k' (m:Int)]).run P w =
   .ok (.slice (some ⟨w.heap.size,0,none⟩) m C) (w.drew.alloc (.cells ((Ei z.cells m).toList++(Ei z.cells (C-m)).toList).toArray e)):=by
 have h:IntKind.i64.wrap (m:Int)=m:=wrap_small ab ab;have h1:¬ (m<=0):=ab;have O:¬ ((m:Int)<0):=ab;have v:m*i.bytes<=1048576*1048576:=Nat.mul_le_mul hm hb;have U:¬ ((281474976710656:Int)<(m:Int)*(i.bytes:Int)):=by
  have:((m*i.bytes:Nat):Int)<=1099511627776:=Int.ofNat_le.2 (Nat.le_trans v e_);rw[Int.natCast_mul]at this;omega
 have h4:¬ (IntKind.i64.max<(m:Int)):=by
  show ¬ ((9223372036854775807:Int)<(m:Int))
  omega
 have h5:OH m 0*i.bytes<=281474976710656:=growslice_fits ab ab;have W:¬ (281474976710656<OH m 0*i.bytes):=ab;have h7:¬ (m*sz=0):=by
  have:=Nat.mul_pos h0 d;omega
 refine⟨grownCap w m 0 e,?_,?_⟩
 ·simp[grownCap,Question.cut]
 ·simp[rC,run_underlying y,run_underlying I,sizeOf,typeInfo,zeroValue,hi,N,M,asInt,asIntOf,h,O,U,W,h7,Question.forced,newRow,grownCap,Builtin.firstCells]
  rw[iN (by omega:¬ m=0),iN (by omega:¬ (9223372036854775807:Int)<(m:Int))];cases aU<;>simp[loadCells,loadCellsFrom]<;>(congr 2; grind)
def vL(P:ak)(t xt:aK)(s x:AV)(H:List aj):Option (AV × List aj):=
 match dO P t,dO P xt,s,x with
 |.slice e sz d,.int _,.lit (.slice none 0 0),.lit (.int _ n)=>match gC P e with
  |some z=>if z.length=sz/\0<sz/\d<=1048576/\0<n/\n<=1048576 then some (.vQ sz H.length 0 0 n.toNat,H++[.vQ sz 0 (cn n.toNat (z.map AV.lit))]) else none
  |none=>none
 |_,_,_,_=>none
theorem aaS(HE:aJ E){xt:aK}{O:ar}(h:vL P t xt s x E.H=some (v,H'))(U:ad E s c)(d:ad E x O):
  ∃u w',(rC #[t,xt] ty #[c,O]).run P E.w=.ok u w'/\dP E v H' u w':=by
 unfold vL at h;split at h
 case h_2=>cases h
 rename_i e sz by_ k k' n hk hkx;split at h
 case h_2=>cases h
 rename_i z hz;split at h
 case isFalse=>cases h
 rename_i hc;obtain⟨h1,h2,h3,h4,h5⟩:=hc;cases h;obtain⟨hu,i,hi,hsz,hby⟩:=kn hk;obtain⟨i',y,M,hz1,N,hz3⟩:=pV hz;rw[hi]at M;cases M;simp only[ad]at U d;subst U;subst d;obtain⟨m,rfl⟩:∃m:Nat,n=(m:Int):=⟨n.toNat,ab⟩
 obtain⟨C,g1,W⟩:=aaR (P:=P) (w:=E.w) (ty:=ty) (aU:=none) (k':=k') (m:=m) hu (Pm hkx) hi hsz hz1 h2 ab ab ab;have hzs:0<y.cells.size:=by
  have:y.cells.size=z.length:=by rw[<-N]; simp
  omega
 have hvals:(Ei y.cells m).toList=(cn m z).flatten:=by rw[<-N]; exact range_zero y.cells m hzs
 rw[hvals]at W;have I:∀r∈cn m (z.map AV.lit),r=z.map AV.lit:=fun r hr=>(ar6.1 hr).2;refine⟨_,_,W,?_⟩;simp only[Int.toNat_natCast];refine Pz HE (Bp z m) (fun x d=>hz3 x (Bq d)) (fun r hr=>by rw[I r hr]; simp[h1]) (fun r hr=>by rw[I r hr]; exact J9 z) au g1 ?_
 grind[size_zeroCells]
def Bu(P:ak)(t:aK)(n:Nat)(parts:List (Nat × AV))(H:List aj):Option (AV × List aj):=
 match yb P t n parts with
 |some (.list sz rZ)=>some (.vQ sz H.length 0 0 rZ.length,H++[.vQ sz 0 rZ])
 |_=>none
theorem PW(k:Nat):∀(n:Nat) (out:List AV),out.length=n*k->(chunk k n out).flatten=out
 |0,out,h=>by
  have:out=[]:=A2 (by simpa using h);subst this;rfl
 |n+1,out,h=>by
  simp only[chunk,List.flatten_cons];rw[PW k n (out.drop k) (by rw[A3,h,ar7]; omega)];simp
theorem PX(k:Nat):∀(n:Nat) (out:List AV),out.length=n*k->∀ r∈chunk k n out,r.length=k
 |0,_,_,r,hr=>by simp[chunk]at hr
 |n+1,out,h,r,hr=>by
  simp only[chunk]at hr;rw[ar7]at h;rcases c_.1 hr with rfl|hr
  grind
  ·exact PX k n (out.drop k) (by rw[A3]; omega) r hr
theorem aaT(HE:aJ E){parts:List (Nat × AV)}{cparts:List (Nat × ar)}(h:Bu P t n parts E.H=some (v,H'))
  (hm:parts.map (·.1)=cparts.map (·.1)) (hv:aw E (parts.map (·.2)) (cparts.map (·.2))) :
  ∃u w',(OK t n cparts.toArray).run P E.w=.ok u w'/\dP E v H' u w':=by
 unfold Bu at h;split at h
 case h_2=>cases h
 rename_i y rows0 h0;cases h;unfold yb at h0;split at h0
 case h_2=>cases h0
 rename_i e sz by_ hk;obtain⟨hu,i,hi,U,_⟩:=kn hk;split at h0
 case h_2=>cases h0
 rename_i z hz;obtain⟨i',k,N,hz1,O,hz3⟩:=pV hz;rw[hi]at N;cases N;split at h0
 case isFalse=>cases h0
 rename_i hc;obtain⟨g1,g2,g3⟩:=hc;split at h0
 case h_2=>cases h0
 rename_i out W;split at h0
 case isFalse=>cases h0
 rename_i I;have hzs:k.cells.size=sz:=by rw[<-g1,<-O]; simp
 obtain⟨d,M⟩:∃d:Array ar,d.toList=(cn n z).flatten:=⟨((cn n z).flatten).toArray,au⟩
 obtain⟨o,f1,f2,f3⟩:=Bk (E:=E) (cs:=d) W (by rw[M]; exact Bp z n) (by rw[M]; intro x hx; exact hz3 x (Bq hx)) hm hv;cases n with
 |zero=>cases h0
 |succ n=>
 cases h0;refine⟨.slice (some ⟨E.w.heap.size,0,none⟩) (n+1) (n+1),{ E.w with heap:=E.w.heap.push (.cells (o.toList++[]).toArray e) },?_,?_⟩
 ·have hno:¬ ((n+1)*i.size>2 ^ 24):=by rw[U]; omega
  simp only[OK,dN,Sem.bT hu,dZ,Sem.run_sizeOf hi];rw[iN hno];have h0:¬ ((n+1)*i.size=0):=by
   intro h;rcases Nat.mul_eq_zero.1 h with h|h
   ·omega
   ·omega
  rw[iN h0];simp only[dN,pW hi hz1,dZ,ke];have:(Array.map (fun x=>k.cells[x%k.cells.size]!) (Array.range ((n+1)*i.size)))=d:=by
   apply mh;rw[U,<-hzs,range_zero k.cells (n+1) ab,O,M]
  simp_all[newRow]
 ·rw[Bl]
  exact PD HE (C:=n+1) (by rw[PW y (n+1) out I.2]; exact f2) f3 (PX y (n+1) out I.2) (JY y _ out I.1) (Bl ..) (aV _) au
def gp (r:Nat->List (Option (Option (Nat × Nat)))) (d:Nat) (q:Option (Nat × Nat)):Nat->List (Option (Option (Nat × Nat))):=fun l=>if l=d then r l++[some q] else r l
def jm (r:Nat->List (Option (Option (Nat × Nat)))) (d h:Nat):Nat->List (Option (Option (Nat × Nat))):=fun l=>if l=d then (r l).set h none else r l
def jU (r:Nat->List (Option (Option (Nat × Nat)))) (d:Nat):Nat->List (Option (Option (Nat × Nat))):=fun l=>if l=d then (r l).map fun _=>none else r l
theorem aaU{d:Nat}{x:Option (Option (Nat × Nat))}(hq:(gp r d q l)[h]?=some x):(r l)[h]?=some x\/(l=d/\h=(r l).length/\x=some q):=by
 unfold gp at hq
 grind
theorem Kc(d:h<(r l).length):h<(gp r l0 q l).length/\(gp r l0 q l)[h]?=(r l)[h]?:=by
 unfold gp
 grind
theorem aaV{d:Nat}(hq:(jm r d h0 l)[h]?=some (some q)):(r l)[h]?=some (some q)/\¬ (l=d/\h=h0):=by
 unfold jm at hq;split at hq
 ·rw[gh]at hq
  split at hq
  ·split at hq<;>cases hq
  ·rename_i h1
   exact⟨hq,fun e=>h1 e.2.symm⟩
 ·rename_i h1
  exact⟨hq,fun e=>h1 e.1⟩
theorem Fa{d:Nat}(k:¬ (l=d/\h=h0)):(jm r d h0 l)[h]?=(r l)[h]?:=by
 unfold jm;split
 ·rename_i e
  exact bL (fun v=>k ⟨e,v.symm⟩)
 ·rfl
theorem aaW{d:Nat}:(jm r d h0 l).length=(r l).length:=by
 unfold jm;split<;>simp
theorem lk{d:Nat}(hq:(jU r d l)[h]?=some (some q)):(r l)[h]?=some (some q)/\l≠d:=by
 unfold jU at hq;split at hq
 ·rw[dw]at hq
  cases k:(r l)[h]? with
  |none=>rw[k]at hq; cases hq
  |some y=>rw[k]at hq; cases hq
 ·rename_i e
  exact⟨hq,e⟩
theorem PY{d:Nat}:(jU r d l).length=(r l).length:=by
 unfold jU;split<;>simp
theorem aJ.attach(H:aJ E){d:Nat}{oj:aj}(hid:E.H[id]? = some o)(hlab:o.label=some d)(hlab':o'.label=some d)(hver:o'.aX = o.aX)(hj:E.H[j]? = some oj)(hlj:oj.label=none)(hq:E.ae[j]? = some q)
  (ho:E.le { w:=E.w,H:=(E.H.set id o').set j .dead,ae:=E.ae.set j none,X:=E.X.re (gp E.X.r d q) }->a6 { w:=E.w,H:=(E.H.set id o').set j .dead,ae:=E.ae.set j none,X:=E.X.re (gp E.X.r d q) } id o')
  (hmm:o.eS=none\/o'.eS=o.eS:=by first|exact .inl rfl|exact .inr rfl|assumption) :
  aJ { w:=E.w,H:=(E.H.set id o').set j .dead,ae:=E.ae.set j none,X:=E.X.re (gp E.X.r d q) }/\E.le { w:=E.w,H:=(E.H.set id o').set j .dead,ae:=E.ae.set j none,X:=E.X.re (gp E.X.r d q) }:=by
 have hne:j≠id:=fun e=>by rw[e,hid]at hj; cases hj; rw[hlab]at hlj; cases hlj
 have hlt:=bl hid;have hltj:=bl hj;have loc_old:∀(i:Nat) x,(E.ae.set j none)[i]?=some (some x)->i≠j/\E.ae[i]?=some (some x):=fun i x hi=>by
  rw[gh]at hi;split at hi
  ·split at hi<;>cases hi
  ·rename_i e
   exact⟨Ne.symm e,hi⟩
 have H_old:∀(i:Nat) x,((E.H.set id o').set j .dead)[i]?=some x->(i=j/\x=.dead)\/(i=id/\x=o')\/(i≠j/\i≠id/\E.H[i]?=some x):=fun i x hi=>by
  by_cases e:i=j
  ·subst e
   rw[cG (by simp; exact hltj)]at hi;cases hi;exact .inl ⟨rfl,rfl⟩
  ·rw[bL (Ne.symm e)]at hi
   by_cases M:i=id
   ·subst M
    rw[cG hlt]at hi;cases hi;exact .inr (.inl ⟨rfl,rfl⟩)
   ·rw[bL (Ne.symm M)]at hi
    exact .inr (.inr ⟨e,M,hi⟩)
 have hid':((E.H.set id o').set j .dead)[id]?=some o':=by
  grind
 have rcase:∀(l h b m:Nat),(gp E.X.r d q l)[h]?=some (some (some (b,m)))->(E.X.r l)[h]?=some (some (some (b,m)))\/(l=d/\h=(E.X.r l).length/\E.ae[j]?=some (some (b,m))):=fun l h b m N=>by
  rcases aaU N with g|⟨O,g2,g3⟩
  ·exact .inl g
  ·cases g3
   exact .inr ⟨O,g2,hq⟩
 have hle:E.le { w:=E.w,H:=(E.H.set id o').set j .dead,ae:=E.ae.set j none,X:=E.X.re (gp E.X.r d q) }:=by
  refine⟨fun i aq hp=>?_,aV _,fun _ _ _=>rfl,fun b hb hno=>?_,fun i aq hp hl=>?_,⟨rfl,rfl⟩,fun l h hh=>?_,.refl _,fun i l x h1 I hv=>?_⟩
  rotate_right
  ·by_cases e:i=j
   ·subst e
    obtain⟨y,U,h4⟩:=hv;simp only[]at U;rw[cG (by simp; exact hltj)]at U;cases U;cases h4
   ·by_cases M:i=id
    ·subst M
     rw[hid]at h1;cases h1;have e3:d=l:=by
      have:=aj.pR I;rw[hlab]at this;cases this;rfl
     subst e3;rcases hmm with h|h
     grind
     ·exact⟨⟨[some q],iP rfl⟩,o',hid',by rw[h]; exact I⟩
    ·have e3:l≠d:=fun e3=>M (H.uniq i id x o l h1 hid (aj.pR I) (by rw[e3]; exact hlab))
     exact⟨⟨[],by rw[dY]; exact iN e3⟩,x,by simp only[]; rw[bL (Ne.symm e),bL (Ne.symm M)]; exact h1,I⟩
  ·obtain⟨x,h1,I⟩:=hp
   by_cases e:i=j
   ·subst e
    exact⟨.dead,by simp only[]; rw[cG (by simp; exact hltj)],rfl,fun v hv=>by cases hv⟩
   ·by_cases M:i=id
    ·subst M
     rw[hid]at h1;cases h1;exact⟨o',hid',aj.EB hlab',fun v hv=>I.2 v (by rw[<-hver]; exact hv)⟩
    ·exact⟨x,by simp only[]; rw[bL (Ne.symm e),bL (Ne.symm M)]; exact h1,I⟩
  ·rintro (⟨i,c,hi⟩ | ⟨l,h,m,hm⟩)
   ·exact hno (.inl ⟨i,c,(loc_old i _ hi).2⟩)
   ·rcases rcase l h b m hm with h1 | ⟨_,_,h1⟩
    ·exact hno (.inr ⟨l,h,m,h1⟩)
    ·exact hno (.inl ⟨j,m,h1⟩)
  ·obtain⟨x,h1,I⟩:=hl
   rcases H_old i x h1 with⟨_,rfl⟩|⟨rfl,rfl⟩|⟨e1,M,U⟩
   ·cases I
   ·exact⟨⟨o,hid,by rw[<-hver]; exact I⟩,by simp only[]; rw[bL hne]⟩
   ·exact⟨⟨x,U,I⟩,by simp only[]; rw[bL (Ne.symm e1)]⟩
  ·obtain⟨O,g2⟩:=Kc (r:=E.X.r) (l0:=d) (q:=q) hh
   simp_all
 refine⟨⟨by simp[H.len],fun i k b m n hi N=>H.inj i k b m n (loc_old i _ hi).2 (loc_old k _ N).2,fun i b m hi=>H.lt i b m (loc_old i _ hi).2,fun b hb=>H.X b hb,fun i x hi=>?_,H.iT.ct hle.toC,fun l h l' h' b m n h1 I=>?_,fun i b m l h n hi N=>?_,fun l h b m N=>?_,fun i k x y l hi N h1 I=>?_,fun l hn h y hy=>?_⟩,hle⟩
 ·rcases H_old i x hi with⟨rfl,rfl⟩ | ⟨rfl,rfl⟩ | ⟨e1,M,U⟩
  grind[a6]
  grind
  ·refine oO (fun a _ hr=>bW hle a hr) (by simp only[]; rw[bL (Ne.symm e1)]) (fun _ _ _=>rfl) (fun l hl=>?_) (H.obj i x U)
   have hne2:l≠d:=fun e=>M (H.uniq i id x o l U hid hl (by rw[hlab,e]));exact⟨iN hne2,fun _ _ _ _=>rfl⟩
 ·rcases rcase l h b m h1 with O | ⟨O,g2,g3⟩<;>rcases rcase l' h' b n I with W | ⟨W,k2,k3⟩
  ·exact H.gK _ _ _ _ _ _ _ O W
  ·exact(H.d_ _ _ _ _ _ _ k3 O).elim
  ·exact(H.d_ _ _ _ _ _ _ g3 W).elim
  grind
 ·obtain⟨g0,O⟩:=loc_old i _ hi
  rcases rcase l h b n N with W|⟨W,k2,k3⟩
  ·exact H.d_ _ _ _ _ _ _ O W
  ·exact g0 (H.inj _ _ _ _ _ O k3)
 ·rcases rcase l h b m N with W | ⟨W,k2,k3⟩
  ·exact H.dp _ _ _ _ W
  ·exact H.lt _ _ _ k3
 ·have key:∀ (i:Nat) x,((E.H.set id o').set j .dead)[i]?=some x->x.label=some l->∃y,E.H[i]?=some y/\y.label=some l:=by
   intro i x hi hl;rcases H_old i x hi with⟨_,rfl⟩|⟨rfl,rfl⟩|⟨e1,M,U⟩
   ·cases hl
   grind
   grind
  obtain⟨x',a1,a2⟩:=key i x hi h1;obtain⟨y',b1,b2⟩:=key k y N I;exact H.uniq i k x' y' l a1 b1 a2 b2
 ·have hne2:l≠d:=fun e=>hn id o' hid' (by rw[hlab',e])
  have hy:(gp E.X.r d q l)[h]?=some (some y):=hy;unfold gp at hy;rw[iN hne2]at hy;refine H.jS l (fun i x hi hl=>?_) h y hy
  grind
theorem aJ.Fb(H:aJ E){ov:aj}(hid:E.H[id]? = some o)(hlab:o.label=some l0)(hlab':o'.label=some l0)(hver:o'.aX = o.aX)(hlv:ov.label=none) (hq:∀ b m,q=some (b,m)->(E.X.r l0)[h0]? = some (some (some (b,m))))
  (ho:E.le { w:=E.w,H:=E.H.set id o'++[ov],ae:=E.ae++[q],X:=E.X.re (jm E.X.r l0 h0) }->a6 { w:=E.w,H:=E.H.set id o'++[ov],ae:=E.ae++[q],X:=E.X.re (jm E.X.r l0 h0) } id o'/\a6 { w:=E.w,H:=E.H.set id o'++[ov],ae:=E.ae++[q],X:=E.X.re (jm E.X.r l0 h0) } E.H.length ov)
  (hmm:o.eS=none:=by first|rfl|assumption) :
  aJ { w:=E.w,H:=E.H.set id o'++[ov],ae:=E.ae++[q],X:=E.X.re (jm E.X.r l0 h0) }/\E.le { w:=E.w,H:=E.H.set id o'++[ov],ae:=E.ae++[q],X:=E.X.re (jm E.X.r l0 h0) }:=by
 have hlt:=bl hid;have W:∀(i:Nat) x,(E.ae++[q])[i]?=some x->E.ae[i]?=some x\/(i=E.ae.length/\x=q):=fun i x hi=>by
  rw[jR]at hi;split at hi
  ·exact .inl hi
  ·right
   cases d:i-E.ae.length with
   |zero=>rw[d]at hi; simp at hi; exact⟨ab,hi.symm⟩
   |succ n=>rw[d]at hi; simp at hi
 have H_old:∀(i:Nat) x,(E.H.set id o'++[ov])[i]?=some x->(i=E.H.length/\x=ov)\/(i=id/\x=o')\/(i≠id/\E.H[i]?=some x):=fun i x hi=>by
  rw[jR]at hi;split at hi
  ·by_cases I:i=id
   ·subst I
    rw[cG hlt]at hi;cases hi;exact .inr (.inl ⟨rfl,rfl⟩)
   ·rw[bL (Ne.symm I)]at hi
    exact .inr (.inr ⟨I,hi⟩)
  ·left
   cases d:i-(E.H.set id o').length with
   |zero=>rw[d]at hi; simp at hi; simp at d; rename_i h1; simp at h1; exact⟨ab,hi.symm⟩
   |succ n=>rw[d]at hi; simp at hi
 have hid':(E.H.set id o'++[ov])[id]?=some o':=by
  grind
 have O:∀(l h:Nat) y,(jm E.X.r l0 h0 l)[h]?=some (some y)->(E.X.r l)[h]?=some (some y)/\¬ (l=l0/\h=h0):=fun l h y d=>aaV d;have hle:E.le { w:=E.w,H:=E.H.set id o'++[ov],ae:=E.ae++[q],X:=E.X.re (jm E.X.r l0 h0) }:=by
  refine⟨fun i aq hp=>?_,aV _,fun _ _ _=>rfl,fun b hb hno=>?_,fun i aq hp hl=>?_,⟨rfl,rfl⟩,fun l h hh=>?_,.refl _,fun i l x h1 M hv=>?_⟩
  rotate_right
  ·by_cases I:i=id
   grind
   ·have e3:l≠l0:=fun e3=>I (H.uniq i id x o l h1 hid (aj.pR M) (by rw[e3]; exact hlab))
    exact⟨⟨[],by rw[dY]; exact iN e3⟩,x,by simp only[]; rw[fT (by rw[nV]; exact bl h1),bL (Ne.symm I)]; exact h1,M⟩
  ·obtain⟨x,h1,M⟩:=hp
   by_cases I:i=id
   ·subst I
    rw[hid]at h1;cases h1;exact⟨o',hid',aj.EB hlab',fun v hv=>M.2 v (by rw[<-hver]; exact hv)⟩
   ·exact⟨x,by simp only[]; rw[fT (by simp; exact bl h1),bL (Ne.symm I)]; exact h1,M⟩
  ·rintro (⟨i,c,hi⟩ | ⟨l,h,m,hm⟩)
   ·rcases W i _ hi with h1 | ⟨_,h1⟩
    ·exact hno (.inl ⟨i,c,h1⟩)
    ·exact hno (.inr ⟨l0,h0,c,hq b c h1.symm⟩)
   ·exact hno (.inr ⟨l,h,m,(O l h _ hm).1⟩)
  ·obtain⟨x0,N,_⟩:=hp
   have hii:=bl N;obtain⟨x,h1,M⟩:=hl;have hloc:(E.ae++[q])[i]?=E.ae[i]?:=fT (by rw[H.len]; exact hii);rcases H_old i x h1 with⟨e,rfl⟩|⟨rfl,rfl⟩|⟨I,U⟩
   ·omega
   ·exact⟨⟨o,hid,by rw[<-hver]; exact M⟩,hloc⟩
   ·exact⟨⟨x,U,M⟩,hloc⟩
  ·refine⟨?_,fun y hy=>(O l h y hy).1⟩
   show h<(jm E.X.r l0 h0 l).length
   grind[aaW]
 refine⟨⟨by simp[H.len],fun i k b m n hi d=>?_,fun i b m hi=>?_,fun b hb=>H.X b hb,fun i x hi=>?_,H.iT.ct hle.toC,fun l h l' h' b m n h1 M=>H.gK _ _ _ _ _ _ _ (O l h _ h1).1 (O l' h' _ M).1,fun i b m l h n hi d=>?_,fun l h b m d=>H.dp _ _ _ _ (O l h _ d).1,fun i k x y l hi d h1 M=>?_,fun l hn h y hy=>?_⟩,hle⟩
 ·rcases W i _ hi with N | ⟨N,g2⟩<;>rcases W k _ d with k1 | ⟨k1,k2⟩
  ·exact H.inj _ _ _ _ _ N k1
  ·exact(H.d_ _ _ _ _ _ _ N (hq b n k2.symm)).elim
  ·exact(H.d_ _ _ _ _ _ _ k1 (hq b m g2.symm)).elim
  ·omega
 ·rcases W i _ hi with N | ⟨N,g2⟩
  ·exact H.lt _ _ _ N
  ·exact H.dp _ _ _ _ (hq b m g2.symm)
 ·rcases H_old i x hi with⟨rfl,rfl⟩ | ⟨rfl,rfl⟩ | ⟨I,U⟩
  grind
  grind
  ·refine oO (fun a _ hr=>bW hle a hr) (by simp only[]; rw[fT (by rw[H.len]; exact bl U)]) (fun _ _ _=>rfl) (fun l hl=>?_) (H.obj i x U)
   have hne2:l≠l0:=fun e=>I (H.uniq i id x o l U hid hl (by rw[hlab,e]));exact⟨iN hne2,fun _ _ _ _=>rfl⟩
 ·obtain⟨r1,r2⟩:=O l h _ d
  rcases W i _ hi with N|⟨N,g2⟩
  ·exact H.d_ _ _ _ _ _ _ N r1
  ·exact r2 (H.gK _ _ _ _ _ _ _ r1 (hq b m g2.symm))
 ·have key:∀ (i:Nat) x,(E.H.set id o'++[ov])[i]?=some x->x.label=some l->∃y,E.H[i]?=some y/\y.label=some l:=by
   intro i x hi hl;rcases H_old i x hi with⟨_,rfl⟩|⟨rfl,rfl⟩|⟨I,U⟩
   grind
   grind
   grind
  obtain⟨x',a1,a2⟩:=key i x hi h1;obtain⟨y',b1,b2⟩:=key k y d M;exact H.uniq i k x' y' l a1 b1 a2 b2
 ·refine H.jS l (fun i x hi hl=>?_) h y (O l h y hy).1
  grind
theorem aJ.Ke(H:aJ E){M:Nat}(O:E.H[id]? = some o)(hlab:o.label=some M)(hlab':o'.label=none)(hver:o'.aX = o.aX)
  (ho:E.le { w:=E.w,H:=E.H.set id o',ae:=E.ae,X:=E.X.re (jU E.X.r M) }->a6 { w:=E.w,H:=E.H.set id o',ae:=E.ae,X:=E.X.re (jU E.X.r M) } id o')
  (hmm:o.eS=none:=by first|rfl|assumption) (hborn:o'.born=true:=by first|rfl|assumption) :
  aJ { w:=E.w,H:=E.H.set id o',ae:=E.ae,X:=E.X.re (jU E.X.r M) }/\E.le { w:=E.w,H:=E.H.set id o',ae:=E.ae,X:=E.X.re (jU E.X.r M) }:=by
 have hlt:=bl O;have H_old:∀(i:Nat) x,(E.H.set id o')[i]?=some x->(i=id/\x=o')\/(i≠id/\E.H[i]?=some x):=fun i x hi=>by
  by_cases d:i=id
  ·subst d
   rw[cG hlt]at hi;cases hi;exact .inl ⟨rfl,rfl⟩
  ·rw[bL (Ne.symm d)]at hi
   exact .inr ⟨d,hi⟩
 have hle:E.le { w:=E.w,H:=E.H.set id o',ae:=E.ae,X:=E.X.re (jU E.X.r M) }:=by
  refine⟨fun i aq hp=>?_,aV _,fun _ _ _=>rfl,fun b hb hno=>?_,fun i aq hp U=>?_,⟨rfl,rfl⟩,fun l h hh=>?_,.refl _,fun i l x h1 I hv=>?_⟩
  rotate_right
  ·by_cases d:i=id
   grind
   ·have e3:l≠M:=fun e3=>d (H.uniq i id x o l h1 O (aj.pR I) (by rw[e3]; exact hlab))
    exact⟨⟨[],by rw[dY]; exact iN e3⟩,x,by simp only[]; rw[bL (Ne.symm d)]; exact h1,I⟩
  ·obtain⟨x,h1,I⟩:=hp
   by_cases d:i=id
   ·subst d
    rw[O]at h1;cases h1;exact⟨o',by simp only[]; rw[cG hlt],hborn,fun v hv=>I.2 v (by rw[<-hver]; exact hv)⟩
   ·exact⟨x,by simp only[]; rw[bL (Ne.symm d)]; exact h1,I⟩
  ·rintro (⟨i,c,hi⟩ | ⟨l,h,m,hm⟩)
   ·exact hno (.inl ⟨i,c,hi⟩)
   ·exact hno (.inr ⟨l,h,m,(lk hm).1⟩)
  ·obtain⟨x,h1,I⟩:=U
   rcases H_old i x h1 with⟨rfl,rfl⟩|⟨d,N⟩
   ·exact⟨⟨o,O,by rw[<-hver]; exact I⟩,rfl⟩
   ·exact⟨⟨x,N,I⟩,rfl⟩
  ·refine⟨?_,fun y hy=>(lk hy).1⟩
   show h<(jU E.X.r M l).length
   grind[PY]
 refine⟨⟨by simp[H.len],H.inj,H.lt,H.X,fun i x hi=>?_,H.iT.ct hle.toC,fun l h l' h' b m n h1 I=>H.gK _ _ _ _ _ _ _ (lk h1).1 (lk I).1,fun i b m l h n hi W=>H.d_ _ _ _ _ _ _ hi (lk W).1,fun l h b m W=>H.dp _ _ _ _ (lk W).1,fun i k x y l hi W h1 I=>?_,fun l hn h y hy=>?_⟩,hle⟩
 ·rcases H_old i x hi with⟨rfl,rfl⟩ | ⟨d,N⟩
  grind
  ·refine oO (fun a _ hr=>bW hle a hr) rfl (fun _ _ _=>rfl) (fun l U=>?_) (H.obj i x N)
   have hne2:l≠M:=fun e=>d (H.uniq i id x o l N O U (by rw[hlab,e]));exact⟨iN hne2,fun _ _ _ _=>rfl⟩
 ·have key:∀ (i:Nat) x,(E.H.set id o')[i]?=some x->x.label=some l->E.H[i]?=some x:=by
   intro i x hi U;rcases H_old i x hi with⟨rfl,rfl⟩|⟨d,N⟩
   grind
   ·exact N
  exact H.uniq i k x y l (key i x hi h1) (key k y W I) h1 I
 ·obtain⟨g1,g2⟩:=lk hy
  refine H.jS l (fun i x hi U=>?_) h y g1
  grind
theorem Fc(HE:aJ E){h:List (AV × Option (List (List AV)) × Nat)}(k:E.H[id]? = some (.ba l w h cl))(hr:ad E (.map id) c):
  ∃b n d,c=.map (some b)/\E.ae[id]?=some (some (b,n))/\E.w.heap[b]?=some (.map d cl)/\bX E (dX h) d.toList/\mr E l w h d.toList:=by
 have ho:=HE.obj id _ k;simp only[a6]at ho;obtain⟨b,n,d,h1,y,I,M⟩:=ho;simp only[ad]at hr;obtain⟨_,_,v⟩:=hr;obtain⟨N,O,U,W⟩:=v ⟨_,k,rfl⟩
 grind
theorem Kf{d:aK}{v:List ar}(h:jT P d k=some v):ji k=(k,.undef):=by
 unfold jT at h;split at h
 ·cases h
 ·split at h
  ·rfl
  ·rfl
  ·cases h
theorem Bv{d:List (AV × Option (List (List AV)) × Nat)}{x:AV × Option (List (List AV)) × Nat}(h:d[i]?=some x):(dX d)[i]?=some ((ji x.1).1,(ji x.1).2,x.2.2):=by
 unfold dX;rw[dw,h];rfl
def Fe(P:ak)(t:aK):Option Nat:=match dO P t with
 |.slice _ w _=>some w
 |_=>none
def tz (d:List (AV × Option (List (List AV)) × Nat)) (i:Nat):Option (AV × List (List AV) × Nat):=match d[i]? with
 |some (key,some rZ,n)=>some (key,rZ,n)
 |_=>none
def vM(P:ak)(t:aK)(m k:AV)(H:List aj):Option (AV × List aj):=
 match eT P t,m with
 |some (h,v),.map id=>match H[id]? with
  |some (.ba l w d cl)=>match jT P h k,Fe P v,kK P v with
   |some y,some w',some (.lit (.slice none 0 0))=>match aD w' w with
    |true=>match fW P h y (dX d) 0 with
     |some (some (i,_))=>match tz d i with
      |some (key,rZ,n)=>some (.vQ w H.length 0 0 rZ.length,H.set id (.ba l w (d.set i (key,none,n)) cl)++[.vQ w 0 rZ])
      |none=>none
     |some none=>some (.vQ w H.length 0 0 0,H.set id (.ba l w d cl)++[.vQ w 0 []])
     |none=>none
    |false=>none
   |_,_,_=>none
  |_=>none
 |_,_=>none
theorem aaX{k:List (AV × Option (List (List AV)) × Nat)}{M:List MapEntry}{x:AV × Option (List (List AV)) × Nat}(U:x.2.1=none)(h:mr E l w k M):mr E l w (k.set i x) M:=by
 obtain⟨W,h1,h2⟩:=h;have v:∀(j:Nat) y,(k.set i x)[j]?=some y->y.2.1.isSome=true->k[j]?=some y/\j≠i:=fun j y d I=>by
  rw[gh]at d;split at d
  ·split at d
   ·cases d
    rw[U]at I;cases I
   ·cases d
  ·rename_i O
   exact⟨d,Ne.symm O⟩
 refine⟨W,fun a b y z d hz N sz he=>h1 a b y z (v a y d N).1 (v b z hz sz).1 N sz he,fun a y rZ e d hr he=>h2 a y rZ e (v a y d (by rw[hr]; rfl)).1 hr he⟩
theorem Kg{d:List (AV × Option (List (List AV)) × Nat)}{k:List MapEntry}{x y:AV × Option (List (List AV)) × Nat}(hi:d[i]?=some x)(h1:y.1=x.1)(v:y.2.2=x.2.2)(h:bX E (dX d) k):bX E (dX (d.set i y)) k:=by
 have e:dX (d.set i y)=dX d:=by
  apply kg;intro j;unfold dX;rw[dw,dw,gh];split
  grind
  ·rfl
 grind
theorem aaY(HE:aJ E)(h:vM P t m k E.H=some (v,H'))(hm:ad E m c)(hk:ad E k d):
  ∃u w',(m_ t c d false).run P E.w=.ok u w'/\dP E v H' u w':=by
 unfold vM at h;split at h
 case h_2=>cases h
 rename_i kt et id ht;split at h
 case h_2=>cases h
 rename_i l w I cl hid;split at h
 case h_2=>cases h
 rename_i kv w' hkv hw' hz;split at h
 case h_2=>cases h
 rename_i hww;have hww:=bN hww;clear hw' hww;obtain⟨b,n,ms,rfl,h1,h2,h3,h4⟩:=Fc HE hid hm;have hkv':=kr hkv hk;have hpk:=Kf hkv;have e1:(getObj b).run P E.w=.ok (.map ms cl) E.w:=by simp[getObj,jA,h2]
 have hlenH:E.H.length=E.ae.length:=HE.len.symm;split at h
 ·rename_i i v0 hf
  split at h
  case h_2=>cases h
  rename_i key rZ bn hat;cases h;have hes:I[i]?=some (key,some rZ,bn):=by
   unfold tz at hat;split at hat
   grind
   ·cases hat
  obtain⟨r',g1,g2⟩:=jE hkv' E.w h3 hf;cases r' with
  |none=>simp[eE]at g2
  |some q=>
   simp only[eE]at g2;obtain⟨q1,q2,_,e',q4,q5⟩:=g2;simp only[iz]at q4;have hval:q.2=e'.val:=q5.symm;obtain⟨U,k1,k2⟩:=h4;have hsl:=k2 i _ rZ e' hes rfl q4;obtain⟨M,h0,z1,z2,z3⟩:∃(M:Option (Nat × Nat)) (h0:Nat),(∀b m,M=some (b,m)->(E.X.r l)[h0]?=some (some (some (b,m)))) /\
     (∀j y,I[j]?=some y->y.2.1.isSome=true->j≠i->∀b m,(E.X.r l)[U j]?=some (some (some (b,m)))->U j≠h0) /\
     ((M=none/\rZ=[]/\∃aU,e'.val=.slice aU 0 0)\/∃b m,M=some (b,m)/\e'.val=.slice (some ⟨b,0,none⟩) rZ.length m/\isRow E.w b (m*w)/\rZ.length<=m/\gn rZ/\dI E w rZ b 0):=by
    rcases hsl with⟨s1,s2⟩|⟨N,mm,s1,s2,s3,s4,s5,s6⟩
    ·exact⟨none,(E.X.r l).length,fun _ _ e=>(by cases e),fun j y _ _ _ b m hb e=>(by rw[e]at hb; have:=bl hb; omega),.inl ⟨rfl,s1,s2⟩⟩
    ·exact⟨some (N,mm),U i,fun _ _ e=>(by cases e; exact s1),fun j y O hsy hne _ _ _ e=>hne (k1 j i _ _ O hes hsy rfl e),.inr ⟨N,mm,rfl,s2,s3,s4,s5,s6⟩⟩
   obtain⟨r1,r2⟩:=aJ.Fb HE (id:=id) (l0:=l) (h0:=h0) (o':=.ba l w (I.set i (key,none,bn)) cl) (ov:=.vQ w 0 rZ) (q:=M) hid rfl rfl rfl rfl z1 fun hle=>by
    refine⟨?_,?_⟩
    ·simp only[a6]
     refine⟨b,n,ms,?_,h2,?_,?_⟩
     grind
     grind[iF,bW,Kg]
     ·obtain⟨_,k3,k4⟩:=aaX (i:=i) (x:=(key,none,bn)) rfl (show mr E l w I ms.toList from ⟨U,k1,k2⟩)
      refine⟨U,fun a b' y z O hz sy sz he=>?_,fun a y rws e O hr he=>?_⟩
      all_goals
       have old:∀(j:Nat) y,(I.set i (key,none,bn))[j]?=some y->y.2.1.isSome=true->I[j]?=some y/\j≠i:=fun j y O hsm=>by
        rw[gh]at O;split at O<;>grind
      grind
      ·obtain⟨o1,o2⟩:=old a y O (by rw[hr]; rfl)
       rcases k2 a y rws e o1 hr he with hl|⟨N,mm,s1,s2,s3,s4,s5,s6⟩
       ·exact .inl hl
       ·refine .inr ⟨N,mm,?_,s2,s3,s4,s5,iE (fun a _ hr=>bW hle a hr) rfl s6⟩
        have hne:=z2 a y o1 (by rw[hr]; rfl) o2 N mm s1;show (jm E.X.r l h0 l)[U a]?=_
        grind[Fa]
    grind[a6,iE,bW]
   refine⟨q.2,E.w,?_,E.ae++[M],jm E.X.r l h0,?_,r1,r2⟩
   ·simp only[m_,dN,Sem.bT (gW ht),dZ,e1,ke,iU hkv',g1]
    rfl
   ·have hnew:(E.H.set id (.ba l w (I.set i (key,none,bn)) cl)++[.vQ w 0 rZ])[E.H.length]?=some (.vQ w 0 rZ):=by
     rw[lf au];simp
    have hl:(E.ae++[M])[E.H.length]?=some M:=by rw[hlenH]; simp
    rw[hval];simp only[ad];rcases z3 with⟨rfl,s1,aU,s2⟩|⟨N,mm,rfl,s2,s3,s4,s5,s6⟩
    ·subst s1
     refine⟨⟨aU,0,by rw[s2]; rfl,aV _,fun h=>by simp at h⟩,⟨_,hnew,rfl,fun v hv=>by cases hv; exact aV _⟩,fun _=>⟨fun _=>⟨by first|rfl|trivial,by first|rfl|trivial,aU,s2⟩,fun b' m' W=>?_⟩⟩
     grind
    ·refine⟨⟨_,mm,s2,s4,fun _=>⟨N,0,rfl⟩⟩,⟨_,hnew,rfl,fun v hv=>by cases hv; exact aV _⟩,fun _=>⟨fun W=>?_,fun b' m' W=>?_⟩⟩<;>grind
 ·rename_i hf
  cases h;obtain⟨r',g1,g2⟩:=jE hkv' E.w h3 hf;cases r' with
  |some _=>simp[eE]at g2
  |none=>
   obtain⟨zv,z1,z2⟩:=vI hz E.w;have hzv:zv=.slice none 0 0:=by have:=z2 E; grind[ad]
   obtain⟨r1,r2⟩:=aJ.Fb HE (id:=id) (l0:=l) (h0:=(E.X.r l).length) (o':=.ba l w I cl) (ov:=.vQ w 0 []) (q:=none) hid rfl rfl rfl rfl (fun _ _ e=>by cases e) fun hle=>by
    refine⟨?_,?_⟩
    ·simp only[a6]
     refine⟨b,n,ms,?_,h2,iF (fun a _ hr=>bW hle a hr) h3,Bd (E:=E) (fun h g m hk=>⟨?_,rfl⟩) (fun _ _ _ _ _ b' W _ hr=>iE (fun a _ hr=>bW hle a hr) W hr) h4⟩
     grind
     ·show (jm E.X.r l (E.X.r l).length l)[h]?=_
      grind[Fa]
    grind[a6]
   refine⟨zv,E.w,?_,E.ae++[none],jm E.X.r l (E.X.r l).length,?_,r1,r2⟩
   ·simp only[m_,dN,Sem.bT (gW ht),dZ,e1,ke,iU hkv',g1,z1]
    rfl
   ·have hnew:(E.H.set id (.ba l w I cl)++[.vQ w 0 []])[E.H.length]?=some (.vQ w 0 []):=by
     rw[lf au];simp
    have hl:(E.ae++[(none:Option (Nat × Nat))])[E.H.length]?=some none:=by rw[hlenH]; simp
    rw[hzv];simp only[ad];refine⟨⟨none,0,rfl,aV _,fun h=>by simp at h⟩,⟨_,hnew,rfl,fun v hv=>by cases hv; exact aV _⟩,fun _=>⟨fun _=>⟨by first|rfl|trivial,by first|rfl|trivial,none,rfl⟩,fun b' m' W=>?_⟩⟩
    grind
 ·cases h
theorem PZ{d:List (AV × Option (List (List AV)) × Nat)}{x:AV × Option (List (List AV)) × Nat}{f:AV × Option (List (List AV)) × Nat->AV × Option (List (List AV)) × Nat}(h:d[i]?=some x):d.modify i f=d.set i (f x):=by
 apply kg
 grind
def rW(P:ak)(t:aK)(m k v:AV)(H:List aj):Option (List aj):=
 match eT P t,m,v with
 |some (h,_),.map id,.vQ w j aq oF n=>match H[id]?,H[j]? with
  |some (.ba l w' d cl),some (.vQ I y rZ)=>match jT P h k with
   |some M=>if (w=w'/\w=I)/\(aq=y/\oF=0)/\n=rZ.length/\k.closed=true then
     match fW P h M (dX d) 0 with
     |some (some (i,_))=>some ((H.set id (.ba l w' (d.modify i fun e=>(k,some rZ,e.2.2)) cl)).set j .dead)
     |some none=>some ((H.set id (.ba l w' (d++[(k,some rZ,cl)]) (cl+1))).set j .dead)
     |none=>none
    else none
   |none=>none
  |_,_=>none
 |_,_,_=>none
theorem Bw(HE:aJ E){es k:List (AV × Option (List (List AV)) × Nat)}{d:Array MapEntry}(O:E.H[id]? = some (.ba l w es cl)) (v:E.ae[id]? = some (some (b,n)))
  (hb:E.w.heap[b]?=some (.map ms cl)) (hr:bX E (dX k) d.toList) (U:mr E l w k d.toList) :
  ∃w',(setObj b (.map d cl')).run P E.w=.ok () w'/\aJ { w:=w',H:=E.H.set id (.ba l w k cl'),ae:=E.ae,X:=E.X }/\E.le { w:=w',H:=E.H.set id (.ba l w k cl'),ae:=E.ae,X:=E.X } /\
   w'.heap[b]?=some (.map d cl')/\∀y,y≠b->w'.heap[y]?=E.w.heap[y]?:=by
 have W:=(HE.lt id b n v).1;have hsz:({ E.w with heap:=E.w.heap.setIfInBounds b (.map d cl') }:bh).heap.size=E.w.heap.size:=au;have I:∀y,y≠b->({ E.w with heap:=E.w.heap.setIfInBounds b (.map d cl') }:bh).heap[y]?=E.w.heap[y]?:=by
  intro y hy;simp only[Em]
  grind
 have key:=aJ.xQ (E:=E) (w':={ E.w with heap:=E.w.heap.setIfInBounds b (.map d cl') }) (o':=.ba l w k cl') (r':=E.X.r) HE O rfl rfl rfl (by rw[hsz]; exact aV _) (fun x _ hne _=>I x fun e=>hne n (by rw[e]; exact v)) (fun _ _=>rfl) (fun _ _ _ h=>.inl h) (fun h hh=>⟨hh,fun _ hq=>hq⟩) (fun M=>by
  simp only[a6];refine⟨b,n,d,v,by simp[W],iF (fun a _ hr=>bW M a hr) hr,Bd (E:=E) (fun h g m N=>⟨N,I g fun e=>HE.d_ _ _ _ _ _ _ v (by rw[<-e]; exact N)⟩) (fun _ _ _ _ _ b' hb' _ hr=>iE (fun a _ hr=>bW M a hr) hb' hr) U⟩) ⟨rfl,rfl,rfl,by first|exact fun _=>aV _|exact fun _=>gI _ _⟩
 grind[XS.JD,setObj,jA]
theorem Kh(HE:aJ E){d:List (AV × Option (List (List AV)) × Nat)}{M:Array MapEntry}(hid:E.H[id]? = some (.ba l w d cl))(N:E.H[j]? = some (.vQ w aq rZ))
  (hi:d[i]?=some (key,none,bn)) (hloc:E.ae[id]?=some (some (b,n))) (hb:E.w.heap[b]?=some (.map M cl)) (he:M.toList[i]?=some e) (hr:bX E (dX d) M.toList) (hsl:mr E l w d M.toList) (hv:ad E (.vQ w j aq 0 rZ.length) e.val) :
  ∃loc' r',aJ { w:=E.w,H:=(E.H.set id (.ba l w (d.set i (key,some rZ,bn)) cl)).set j .dead,ae:=loc',X:=E.X.re r' }/\E.le { w:=E.w,H:=(E.H.set id (.ba l w (d.set i (key,some rZ,bn)) cl)).set j .dead,ae:=loc',X:=E.X.re r' }:=by
 have hne:j≠id:=fun e=>by rw[e,hid]at N; cases N
 have W:=HE.obj j _ N;simp only[ad]at hv;obtain⟨_,_,v3⟩:=hv;obtain⟨v4,v5⟩:=v3 ⟨_,N,rfl⟩;simp only[a6]at W;obtain⟨q,hq⟩:∃q,E.ae[j]?=some q:=by
  rcases W with⟨h1,_⟩|⟨b',m',h1,_⟩
  ·exact⟨_,h1⟩
  ·exact⟨_,h1⟩
 obtain⟨U,k1,k2⟩:=hsl;have htl:∀h,h<(E.X.r l).length->(gp E.X.r l q l)[h]?=(E.X.r l)[h]?:=fun h v=>(Kc v).2;have hnew:(gp E.X.r l q l)[(E.X.r l).length]?=some (some q):=by
  unfold gp;rw[iP rfl];simp
 obtain⟨r1,r2⟩:=aJ.attach HE (id:=id) (j:=j) (o':=.ba l w (d.set i (key,some rZ,bn)) cl) (q:=q) hid rfl rfl rfl N rfl hq fun hle=>by
  simp only[a6];refine⟨b,n,M,?_,hb,iF (fun a _ hr=>bW hle a hr) (Kg hi rfl rfl hr),?_⟩
  grind
  ·-- handles: the O ones,but at i the new one; empty ones take none
   have O:∀(a:Nat) y,(d.set i (key,some rZ,bn))[a]?=some y->a≠i->d[a]?=some y:=fun a y k hne=>by
    rwa [bL (Ne.symm hne)]at k
   have at_i:∀y,(d.set i (key,some rZ,bn))[i]?=some y->y=(key,some rZ,bn):=fun y k=>by
    rw[cG (bl hi)]at k;cases k;rfl
   refine⟨fun a=>if a=i then (E.X.r l).length else if U a<(E.X.r l).length then U a else (E.X.r l).length+1+U a,fun a c y z k hz sy sz v=>?_,fun a y rws e' k hr' he'=>?_⟩
   ·by_cases I:a=i
    grind
    ·by_cases ec:c=i
     grind
     ·simp only[iN I,iN ec]at v
      refine k1 a c y z (O a y k I) (O c z hz ec) sy sz ?_;split at v<;>split at v<;>omega
   ·by_cases I:a=i
    ·subst I
     have:=at_i y k;subst this;cases hr';rw[he]at he';cases he';rcases W with⟨h1,h2⟩|⟨b',m',h1,h2,h3,h4,h5⟩
     ·obtain⟨_,_,aU,h3⟩:=v4 h1
      subst h2;exact .inl ⟨rfl,aU,h3⟩
     ·obtain⟨h6,o,h7,h8⟩:=v5 b' m' h1
      rw[hq]at h1;cases h1;simp only[dj,xB,iz]at h6 h7 h8;by_cases hm:0<m'
      ·have:=h7 hm
       subst this;refine .inr ⟨b',m',?_,h8,h2,h3,h4,iE (fun a _ hr=>bW hle a hr) rfl h5⟩;simp only[if_true];exact hnew
      ·have hr0:rZ=[]:=A2 ab
       have hm0:m'=0:=ab;subst hr0;subst hm0;exact .inl ⟨rfl,_,h8⟩
    ·rcases k2 a y rws e' (O a y k I) hr' he' with hl | ⟨bb,mm,s1,s2,s3,s4,s5,s6⟩
     ·exact .inl hl
     ·refine .inr ⟨bb,mm,?_,s2,s3,s4,s5,iE (fun a _ hr=>bW hle a hr) rfl s6⟩
      have v:=bl s1;simp only[iN I,iP v];show (gp E.X.r l q l)[U a]?=_
      grind
 grind
theorem aaZ(HE:aJ E)(h:rW P t m k v E.H=some H')(hm:ad E m c)(hk:ad E k d)(hv:ad E v u):
  ∃w',(oJ t c d u).run P E.w=.ok () w'/\∀x,dP E .undef H' x w':=by
 unfold rW at h;split at h
 case h_2=>cases h
 rename_i kt et id w j aq oF n ht;split at h
 case h_2=>cases h
 rename_i l w' M cl w2 ver' rZ hid hj;split at h
 case h_2=>cases h
 rename_i kv hkv;split at h
 case isFalse=>cases h
 rename_i hc;obtain⟨⟨rfl,rfl⟩,⟨rfl,rfl⟩,rfl,hcl⟩:=hc;obtain⟨b,n,W,rfl,h1,h2,h3,h4⟩:=Fc HE hid hm;have hne:j≠id:=fun e=>by rw[e,hid]at hj; cases hj
 have hkv':=kr hkv hk;have hpk:=Kf hkv;have e1:(getObj b).run P E.w=.ok (.map W cl) E.w:=by simp[getObj,jA,h2]
 obtain⟨hlen,hall⟩:=fA.1 h3;rw[JG]at hlen;split at h
 ·rename_i i v0 hf
  cases h;obtain⟨r',g1,g2⟩:=jE hkv' E.w h3 hf;cases r' with
  |none=>simp[eE]at g2
  |some q=>
   simp only[eE]at g2;obtain⟨q1,q2,_,e',q4,q5⟩:=g2;obtain⟨_,x,y,f1,f2,f3⟩:=yc hf;simp only[iz]at q4 f1;obtain⟨a1,a2,a3,a4,a5⟩:=hall i x e' f1 q4;obtain⟨s1,s2⟩:=Br hkv' (kr f2 a1) f3;have q4':W[i]?=some e':=gB;have hlt:i<M.length:=by have:=bl q4; omega
   obtain⟨N,hx0⟩:∃N,M[i]?=some N:=⟨M[i],cB hlt⟩
   have hx:x=((ji N.1).1,(ji N.1).2,N.2.2):=by rw[Bv hx0]at f1; cases f1; rfl
   have hkk:(k,(none:Option (List (List AV))),N.2.2)=(k,none,N.2.2):=rfl;have hre:bX E (dX (M.set i (k,none,N.2.2))) (W.modify i fun e=>{ e with key:=d,val:=u }).toList:=by
    rw[fA];refine⟨by simp[dX,hlen],fun a y z I O=>?_⟩;simp only[nc,kI]at O;obtain⟨z0,hz0,rfl⟩:=gj.1 O;unfold dX at I;rw[dw,gh]at I;by_cases e:i=a
    ·subst e
     rw[iP rfl,iP hlt]at I;cases I
     simp_all[ad,AV.closed]
    grind[dX]
   have hsl2:mr E l w (M.set i (k,none,N.2.2)) (W.modify i fun e=>{ e with key:=d,val:=u }).toList:=by
    obtain⟨hs,k1,k2⟩:=h4;have U:∀(a:Nat) y,(M.set i (k,none,N.2.2))[a]?=some y->y.2.1.isSome=true->M[a]?=some y/\a≠i:=fun a y I hsm=>by
     by_cases ei:i=a
     ·subst ei
      rw[cG hlt]at I;cases I;cases hsm
     ·rw[bL ei]at I
      exact⟨I,Ne.symm ei⟩
    refine⟨hs,fun a c y z I O sy sz he=>k1 a c y z (U a y I sy).1 (U c z O sz).1 sy sz he,fun a y rws e I hr he=>?_⟩;obtain⟨o1,o2⟩:=U a y I (by rw[hr]; rfl);simp only[nc,kI]at he;obtain⟨z0,hz0,rfl⟩:=gj.1 he;rw[iN (Ne.symm o2)]
    grind
   obtain⟨w',p1,p2,p3,p4,p5⟩:=Bw (P:=P) HE (cl':=cl) hid h1 h2 hre hsl2;have hst:(sZ e'.key d).run P E.w=.ok d E.w:=by simp[sZ,s2]
   have hrun:(oJ t (.map (some b)) d u).run P E.w=.ok () w':=by
    subst q1;simp only[oJ,dN,Sem.bT (gW ht),dZ,e1,iU hkv',g1,q4',ki,rD,hst];exact p1
   have hidE:({ w:=w',H:=E.H.set id (.ba l w (M.set i (k,none,N.2.2)) cl),ae:=E.ae,X:=E.X }:ah).H[id]?=some (.ba l w (M.set i (k,none,N.2.2)) cl):=by
    simp only[]
    grind
   have hjE:({ w:=w',H:=E.H.set id (.ba l w (M.set i (k,none,N.2.2)) cl),ae:=E.ae,X:=E.X }:ah).H[j]?=some (.vQ w aq rZ):=by
    simp only[];rw[bL (Ne.symm hne)];exact hj
   have hobj:=p2.obj id _ hidE;simp only[a6]at hobj;obtain⟨b2,n2,ms2,o1,o2,o3,o4⟩:=hobj;rw[h1]at o1;simp only[bD,bM]at o1;obtain⟨rfl,rfl⟩:=o1;rw[p4]at o2;cases o2;obtain⟨loc',r',r1,r2⟩:=Kh p2 (i:=i) (key:=k) (bn:=N.2.2) (e:={ e' with key:=d,val:=u }) hidE hjE (by rw[cG hlt]) h1 p4 (by
    simp only[nc,kI,q4];simp) o3 o4 (bW p3 _ hv)
   refine⟨w',hrun,fun xx=>⟨loc',r',by simp[ad],?_,p3.trans ?_⟩⟩<;>grind[rE,PZ]
 ·rename_i hf
  cases h;obtain⟨r',g1,g2⟩:=jE hkv' E.w h3 hf;cases r' with
  |some _=>simp[eE]at g2
  |none=>
   have hml:W.toList.length=M.length:=ab;have hre:bX E (dX (M++[(k,none,cl)])) (W.push { key:=d,val:=u,born:=cl }).toList:=by
    rw[fA];refine⟨by simp[dX,hlen],fun a y z I O=>?_⟩;unfold dX at I;rw[kj]at I;simp only[vl,jR,cP]at I O;rw[hml]at O;by_cases e:a<M.length
    grind[dX]
    ·simp only[iN e]at I O
     cases hj2:a-M.length with
     |zero=>
      grind[ad,AV.closed]
     |succ _=>grind
   have hsl2:mr E l w (M++[(k,none,cl)]) (W.push { key:=d,val:=u,born:=cl }).toList:=by
    obtain⟨hs,k1,k2⟩:=h4;have U:∀(a:Nat) y,(M++[(k,(none:Option (List (List AV))),cl)])[a]?=some y->y.2.1.isSome=true->M[a]?=some y/\a<M.length:=fun a y I hsm=>by
     rw[jR]at I;split at I
     ·rename_i hh
      exact⟨I,hh⟩
     ·cases hk2:a - M.length with
      |zero=>
       rw[hk2]at I;simp at I;subst I;cases hsm
      |succ _=>rw[hk2]at I; simp at I
    refine⟨hs,fun a c y z I O sy sz he=>k1 a c y z (U a y I sy).1 (U c z O sz).1 sy sz he,fun a y rws e I hr he=>?_⟩;obtain⟨o1,o2⟩:=U a y I (by rw[hr]; rfl);simp only[vl]at he;rw[fT ab]at he
    grind
   obtain⟨w',p1,p2,p3,p4,p5⟩:=Bw (P:=P) HE (cl':=cl+1) hid h1 h2 hre hsl2;have hrun:(oJ t (.map (some b)) d u).run P E.w=.ok () w':=by
    simp only[oJ,dN,Sem.bT (gW ht),dZ,e1,iU hkv',g1];exact p1
   have hidE:({ w:=w',H:=E.H.set id (.ba l w (M++[(k,none,cl)]) (cl+1)),ae:=E.ae,X:=E.X }:ah).H[id]?=some (.ba l w (M++[(k,none,cl)]) (cl+1)):=by
    simp only[]
    grind
   have hjE:({ w:=w',H:=E.H.set id (.ba l w (M++[(k,none,cl)]) (cl+1)),ae:=E.ae,X:=E.X }:ah).H[j]?=some (.vQ w aq rZ):=by
    simp only[];rw[bL (Ne.symm hne)];exact hj
   have hobj:=p2.obj id _ hidE;simp only[a6]at hobj;obtain⟨b2,n2,ms2,o1,o2,o3,o4⟩:=hobj;rw[h1]at o1;simp only[bD,bM]at o1;obtain⟨rfl,rfl⟩:=o1;rw[p4]at o2;cases o2;obtain⟨loc',r',r1,r2⟩:=Kh p2 (i:=M.length) (key:=k) (bn:=cl) (e:={ key:=d,val:=u,born:=cl }) hidE hjE au h1 p4 (by
    simp only[vl];rw[lf ab];simp[hml]) o3 o4 (bW p3 _ hv)
   have e2:(M++[(k,(none:Option (List (List AV))),cl)]).set M.length (k,some rZ,cl)=M++[(k,some rZ,cl)]:=by
    rw[List.set_append_right _ _ (aV _),oK];rfl
   refine⟨w',hrun,fun xx=>⟨loc',r',by simp[ad],?_,p3.trans ?_⟩⟩<;>simp_all
 ·cases h
theorem aJ.Bx(H:aJ E)(O:E.H[id]? = some o)(hlab:o.label=none)(hlab':o'.label=some l0)(hver:o'.aX = o.aX)(hno:∀(i:Nat) x,E.H[i]? = some x->x.label≠some l0)
  (ho:E.le { w:=E.w,H:=E.H.set id o',ae:=E.ae,X:=E.X }->a6 { w:=E.w,H:=E.H.set id o',ae:=E.ae,X:=E.X } id o') :
  aJ { w:=E.w,H:=E.H.set id o',ae:=E.ae,X:=E.X }/\E.le { w:=E.w,H:=E.H.set id o',ae:=E.ae,X:=E.X }:=by
 have hlt:=bl O;have N:∀(i:Nat) x,(E.H.set id o')[i]?=some x->(i=id/\x=o')\/(i≠id/\E.H[i]?=some x):=fun i x hi=>by
  by_cases d:i=id
  ·subst d
   rw[cG hlt]at hi;cases hi;exact .inl ⟨rfl,rfl⟩
  ·rw[bL (Ne.symm d)]at hi
   exact .inr ⟨d,hi⟩
 have U:E.le { w:=E.w,H:=E.H.set id o',ae:=E.ae,X:=E.X }:=by
  refine⟨fun i aq hp=>?_,aV _,fun _ _ _=>rfl,fun b hb hno=>hno,fun i aq hp W=>?_,⟨rfl,rfl⟩,fun l h hh=>⟨hh,fun _ hq=>hq⟩,.refl _,fun i l x h1 I hv=>⟨⟨[],(dY _).symm⟩,?_⟩⟩
  rotate_right
  ·by_cases d:i=id<;>simp_all[aj.EC,Ne.symm]
  ·obtain⟨x,h1,I⟩:=hp
   by_cases d:i=id
   ·subst d
    rw[O]at h1;cases h1;exact⟨o',by simp only[]; rw[cG hlt],aj.EB hlab',fun v hv=>I.2 v (by rw[<-hver]; exact hv)⟩
   ·exact⟨x,by simp only[]; rw[bL (Ne.symm d)]; exact h1,I⟩
  ·obtain⟨x,h1,I⟩:=W
   rcases N i x h1 with⟨rfl,rfl⟩|⟨d,M⟩
   ·exact⟨⟨o,O,by rw[<-hver]; exact I⟩,rfl⟩
   ·exact⟨⟨x,M,I⟩,rfl⟩
 refine⟨⟨by simp[H.len],H.inj,H.lt,H.X,fun i x hi=>?_,H.iT.ct U.toC,H.gK,H.d_,H.dp,fun i k x y l hi hk h1 I=>?_,fun l hn h y hy=>?_⟩,U⟩
 ·rcases N i x hi with⟨rfl,rfl⟩ | ⟨d,M⟩
  grind
  ·exact oO (fun a _ hr=>bW U a hr) rfl (fun _ _ _=>rfl) (fun l W=>⟨rfl,fun _ _ _ _=>rfl⟩) (H.obj i x M)
 ·rcases N i x hi with⟨rfl,rfl⟩ | ⟨d,M⟩<;>rcases N k y hk with⟨rfl,rfl⟩ | ⟨e4,h5⟩
  ·rfl
  grind
  grind
  ·exact H.uniq i k x y l M h5 h1 I
 ·refine H.jS l (fun i x hi W=>?_) h y hy
  grind
theorem aa0(HE:aJ E)(d:E.H[id]? = some (.map [] cl))(h:mu E.H l=true):
  aJ { w:=E.w,H:=E.H.set id (.ba l w [] cl),ae:=E.ae,X:=E.X }/\E.le { w:=E.w,H:=E.H.set id (.ba l w [] cl),ae:=E.ae,X:=E.X }:=
 aJ.Bx HE d rfl rfl rfl (rS h) fun k=>by
  have ho:=HE.obj id _ d;simp only[a6]at ho|-;obtain⟨b,n,v,h1,I,M⟩:=ho;refine⟨b,n,v,h1,I,iF (fun a _ hr=>bW k a hr) M,fun _=>0,fun i j x y hi=>by simp at hi,fun i x rZ e hi=>by simp at hi⟩
theorem aa1(HE:aJ E){d:List (AV × AV × Nat)}{es:List (AV × Option (List (List AV)) × Nat)}(h:E.H[id]? = some (.map d cl))(he:dX es=d)(hn:∀ x∈es,x.2.1=none)(k:mu E.H l=true):
  aJ { w:=E.w,H:=E.H.set id (.ba l w es cl),ae:=E.ae,X:=E.X }/\E.le { w:=E.w,H:=E.H.set id (.ba l w es cl),ae:=E.ae,X:=E.X }:=
 aJ.Bx HE h rfl rfl rfl (rS k) fun v=>by
  have ho:=HE.obj id _ h;simp only[a6]at ho|-;obtain⟨b,n,I,h1,M,N⟩:=ho;refine⟨b,n,I,h1,M,iF (fun a _ hr=>bW v a hr) (by rw[he]; exact N),fun i=>i,fun i j x y hi U O=>?_,fun i x rZ e hi O=>?_⟩<;>grind
theorem aa2(HE:aJ E){d:List (AV × Option (List (List AV)) × Nat)}{N:Array MapEntry}{e':MapEntry}(hid:E.H[id]? = some (.ba l w d cl))(hes:d[i]? = some (key,some rZ,bn))
  (h1:E.ae[id]?=some (some (b,n))) (h2:E.w.heap[b]?=some (.map N cl)) (h3:bX E (dX d) N.toList) (h4:mr E l w d N.toList) (q4:N.toList[i]?=some e') :
  ∃loc' r',aJ { w:=E.w,H:=E.H.set id (.ba l w (d.set i (key,none,bn)) cl)++[.vQ w 0 rZ],ae:=loc',X:=E.X.re r' }/\E.le { w:=E.w,H:=E.H.set id (.ba l w (d.set i (key,none,bn)) cl)++[.vQ w 0 rZ],ae:=loc',X:=E.X.re r' } /\
   ad { w:=E.w,H:=E.H.set id (.ba l w (d.set i (key,none,bn)) cl)++[.vQ w 0 rZ],ae:=loc',X:=E.X.re r' } (.vQ w E.H.length 0 0 rZ.length) e'.val:=by
 have hlenH:E.H.length=E.ae.length:=HE.len.symm;obtain⟨O,k1,k2⟩:=h4;have hsl:=k2 i _ rZ e' hes rfl q4;obtain⟨k,h0,z1,z2,z3⟩:∃(k:Option (Nat × Nat)) (h0:Nat),(∀b m,k=some (b,m)->(E.X.r l)[h0]?=some (some (some (b,m)))) /\
   (∀j y,d[j]?=some y->y.2.1.isSome=true->j≠i->∀b m,(E.X.r l)[O j]?=some (some (some (b,m)))->O j≠h0) /\
   ((k=none/\rZ=[]/\∃aU,e'.val=.slice aU 0 0)\/∃b m,k=some (b,m)/\e'.val=.slice (some ⟨b,0,none⟩) rZ.length m/\isRow E.w b (m*w)/\rZ.length<=m/\gn rZ/\dI E w rZ b 0):=by
  rcases hsl with⟨s1,s2⟩|⟨I,mm,s1,s2,s3,U,W,s6⟩
  ·exact⟨none,(E.X.r l).length,fun _ _ e=>(by cases e),fun j y _ _ _ b m hb e=>(by rw[e]at hb; have:=bl hb; omega),.inl ⟨rfl,s1,s2⟩⟩
  ·exact⟨some (I,mm),O i,fun _ _ e=>(by cases e; exact s1),fun j y M hsy hne _ _ _ e=>hne (k1 j i _ _ M hes hsy rfl e),.inr ⟨I,mm,rfl,s2,s3,U,W,s6⟩⟩
 obtain⟨r1,r2⟩:=aJ.Fb HE (id:=id) (l0:=l) (h0:=h0) (o':=.ba l w (d.set i (key,none,bn)) cl) (ov:=.vQ w 0 rZ) (q:=k) hid rfl rfl rfl rfl z1 fun hle=>by
  refine⟨?_,?_⟩
  ·simp only[a6]
   refine⟨b,n,N,?_,h2,?_,?_⟩
   grind
   grind[iF,bW,Kg]
   ·refine⟨O,fun a b' y z M hz sy sz he=>?_,fun a y rws e M hr he=>?_⟩
    all_goals
     have old:∀(j:Nat) y,(d.set i (key,none,bn))[j]?=some y->y.2.1.isSome=true->d[j]?=some y/\j≠i:=fun j y M hsm=>by
      rw[gh]at M;split at M<;>grind
    grind
    ·obtain⟨o1,o2⟩:=old a y M (by rw[hr]; rfl)
     rcases k2 a y rws e o1 hr he with hl|⟨I,mm,s1,s2,s3,U,W,s6⟩
     ·exact .inl hl
     ·refine .inr ⟨I,mm,?_,s2,s3,U,W,iE (fun a _ hr=>bW hle a hr) rfl s6⟩
      have hne:=z2 a y o1 (by rw[hr]; rfl) o2 I mm s1;show (jm E.X.r l h0 l)[O a]?=_
      grind[Fa]
  grind[a6,iE,bW]
 refine⟨E.ae++[k],jm E.X.r l h0,r1,r2,?_⟩;have hnew:(E.H.set id (.ba l w (d.set i (key,none,bn)) cl)++[.vQ w 0 rZ])[E.H.length]?=some (.vQ w 0 rZ):=by
  rw[lf au];simp
 have hl:(E.ae++[k])[E.H.length]?=some k:=by rw[hlenH]; simp
 simp only[ad];rcases z3 with⟨rfl,s1,aU,s2⟩|⟨I,mm,rfl,s2,s3,U,W,s6⟩
 ·subst s1
  refine⟨⟨aU,0,by rw[s2]; rfl,aV _,fun h=>by simp at h⟩,⟨_,hnew,rfl,fun v hv=>by cases hv; exact aV _⟩,fun _=>⟨fun _=>⟨by first|rfl|trivial,by first|rfl|trivial,aU,s2⟩,fun b' m' hb'=>?_⟩⟩
  grind
 ·refine⟨⟨_,mm,s2,U,fun _=>⟨I,0,rfl⟩⟩,⟨_,hnew,rfl,fun v hv=>by cases hv; exact aV _⟩,fun _=>⟨fun hb'=>?_,fun b' m' hb'=>?_⟩⟩<;>grind
theorem Ki(HE:aJ E)(w:Nat):
  aJ { w:=E.w,H:=E.H++[.vQ w 0 []],ae:=E.ae++[none],X:=E.X }/\E.le { w:=E.w,H:=E.H++[.vQ w 0 []],ae:=E.ae++[none],X:=E.X } /\
   ad { w:=E.w,H:=E.H++[.vQ w 0 []],ae:=E.ae++[none],X:=E.X } (.vQ w E.H.length 0 0 0) (.slice none 0 0):=by
 have k:E.le (E.push E.w (.vQ w 0 []) none):=ah.nW HE.len (Ext.refl _) (fun b n h=>by cases h);have I:(E.ae++[(none:Option (Nat × Nat))])[E.H.length]?=some none:=by rw[<-HE.len]; simp
 have d:a6 (E.push E.w (.vQ w 0 []) none) E.H.length (.vQ w 0 []):=by
  simp only[a6,ah.push]
  grind
 refine⟨aJ.push HE (Ext.refl _) (fun b n h=>by cases h) d,k,?_⟩;simp only[ad];refine⟨⟨none,0,rfl,aV _,fun h=>by simp at h⟩,⟨.vQ w 0 [],au,rfl,fun v y=>by cases y; exact aV _⟩,fun _=>⟨fun _=>⟨by first|rfl|trivial,by first|rfl|trivial,none,rfl⟩,fun N m' M=>?_⟩⟩
 grind
def lQ(P:ak)(t:aK)(m k:AV)(H:List aj):Option (AV × List aj):=
 match eT P t,m with
 |some (h,v),.map id=>match H[id]? with
  |some (.ba l w d cl)=>match jT P h k,Fe P v,kK P v with
   |some y,some w',some (.lit (.slice none 0 0))=>match aD w' w&&k.closed with
    |true=>match fW P h y (dX d) 0 with
     |some (some (i,_))=>match tz d i with
      |some (_,rZ,n)=>some (.tuple [.vQ w H.length 0 0 rZ.length,.lit (goInt n)],H.set id (.ba l w (d.set i (k,none,n)) cl)++[.vQ w 0 rZ])
      |none=>none
     |some none=>some (.tuple [.vQ w H.length 0 0 0,.lit (goInt cl)],H.set id (.ba l w (d++[(k,none,cl)]) (cl+1))++[.vQ w 0 []])
     |none=>none
    |false=>none
   |_,_,_=>none
  |_=>none
 |_,_=>none
theorem aa3(HE:aJ E)(h:lQ P t m k E.H=some (v,H'))(hm:ad E m c)(hk:ad E k d):
  ∃u w',(Jf t c d).run P E.w=.ok u w'/\dP E v H' u w':=by
 unfold lQ at h;split at h
 case h_2=>cases h
 rename_i kt et id ht;split at h
 case h_2=>cases h
 rename_i l w M cl hid;split at h
 case h_2=>cases h
 rename_i kv w' hkv hw' N;split at h
 case h_2=>cases h
 rename_i hww;simp only[aO]at hww;have hcl:=hww.2;clear hw' hww;obtain⟨b,n,U,rfl,h1,h2,h3,h4⟩:=Fc HE hid hm;have hkv':=kr hkv hk;have hpk:=Kf hkv;have e1:(getObj b).run P E.w=.ok (.map U cl) E.w:=by simp[getObj,jA,h2]
 obtain⟨hlen,hall⟩:=fA.1 h3;rw[JG]at hlen;have hidE:∀(w':bh) es' cl',({ w:=w',H:=E.H.set id (.ba l w es' cl'),ae:=E.ae,X:=E.X }:ah).H[id]?=some (.ba l w es' cl'):=fun w' es' cl'=>by
  simp only[];rw[cG (bl hid)]
 split at h
 ·rename_i i v0 hf
  split at h
  case h_2=>cases h
  rename_i key rZ W hat;cases h;have hes:M[i]?=some (key,some rZ,W):=by
   unfold tz at hat;split at hat
   grind
   ·cases hat
  have hlt:=bl hes;obtain⟨r',g1,g2⟩:=jE hkv' E.w h3 hf;cases r' with
  |none=>simp[eE]at g2
  |some q=>
   simp only[eE]at g2;obtain⟨q1,q2,_,e',q4,q5⟩:=g2;obtain⟨_,x,y,f1,f2,f3⟩:=yc hf;simp only[iz]at q4 f1;obtain⟨a1,a2,a3,a4,a5⟩:=hall i x e' f1 q4;obtain⟨s1,s2⟩:=Br hkv' (kr f2 a1) f3;have q4':U[i]?=some e':=gB;have hx:x=((ji key).1,(ji key).2,W):=by rw[Bv hes]at f1; cases f1; rfl
   have hre:bX E (dX (M.set i (k,some rZ,W))) (U.modify i fun e=>{ e with key:=d }).toList:=by
    rw[fA];refine⟨by simp[dX,hlen],fun a y z I N=>?_⟩;simp only[nc,kI]at N;obtain⟨z0,hz0,rfl⟩:=gj.1 N;unfold dX at I;rw[dw,gh]at I;by_cases e:i=a
    ·subst e
     rw[iP rfl,iP hlt]at I;cases I
     simp_all[ad,AV.closed]
    grind[dX]
   have hsl2:mr E l w (M.set i (k,some rZ,W)) (U.modify i fun e=>{ e with key:=d }).toList:=by
    obtain⟨hs,k1,k2⟩:=h4;have O:∀(a:Nat) y,(M.set i (k,some rZ,W))[a]?=some y->∃z,M[a]?=some z/\z.2.1=y.2.1:=fun a y I=>by
     by_cases ei:i=a
     ·subst ei
      rw[cG hlt]at I;cases I;exact⟨_,hes,rfl⟩
     ·rw[bL ei]at I
      exact⟨y,I,rfl⟩
    refine⟨hs,fun a c y z I N sy sz he=>?_,fun a y rws e I hr he=>?_⟩
    ·obtain⟨y',hy',ey⟩:=O a y I
     obtain⟨z',hz',ez⟩:=O c z N
     grind
    ·obtain⟨y',hy',ey⟩:=O a y I
     simp only[nc,kI]at he;obtain⟨z0,hz0,rfl⟩:=gj.1 he;have:=k2 a y' rws z0 hy' (by rw[ey]; exact hr) hz0;split<;>exact this
   obtain⟨w1,p1,p2,p3,p4,p5⟩:=Bw (P:=P) HE (cl':=cl) hid h1 h2 hre hsl2;have hobj:=p2.obj id _ (hidE w1 _ _);simp only[a6]at hobj;obtain⟨b2,n2,ms2,o1,o2,o3,o4⟩:=hobj;rw[h1]at o1;simp only[bD,bM]at o1;obtain⟨rfl,rfl⟩:=o1;rw[p4]at o2;cases o2;obtain⟨loc',r',r1,r2,r3⟩:=aa2 p2 (i:=i) (key:=k) (rZ:=rZ) (bn:=W) (e':={ e' with key:=d }) (hidE w1 _ _) (by rw[cG hlt]) h1 p4 o3 o4 (by
    simp only[nc,kI,q4];simp)
   simp only[rE,nV]at r1 r2 r3;refine⟨.tuple #[e'.val,goInt W],w1,?_,loc',r',?_,r1,p3.trans r2⟩
   ·have hst:(sZ e'.key d).run P E.w=.ok d E.w:=by simp_all[sZ]
    subst q1;simp only[Jf,dN,Sem.bT (gW ht),dZ,e1,iU hkv',g1,q4',ki,rD,hst]
    simp_all
   ·simp only[ad]
    refine⟨_,rfl,?_⟩;simp only[aw,and_true]
    grind[ad]
 ·rename_i hf
  cases h;obtain⟨r',g1,g2⟩:=jE hkv' E.w h3 hf;cases r' with
  |some _=>simp[eE]at g2
  |none=>
   obtain⟨zv,z1,z2⟩:=vI N E.w;have hzv:zv=.slice none 0 0:=by have:=z2 E; grind[ad]
   have hml:U.toList.length=M.length:=ab;have hre:bX E (dX (M++[(k,none,cl)])) (U.push { key:=d,val:=zv,born:=cl }).toList:=by
    rw[fA];refine⟨by simp[dX,hlen],fun a y z I N=>?_⟩;unfold dX at I;rw[kj]at I;simp only[vl,jR,cP]at I N;rw[hml]at N;by_cases e:a<M.length
    grind[dX]
    ·simp only[iN e]at I N
     cases hj2:a-M.length with
     |zero=>
      grind[ad,AV.closed]
     |succ _=>grind
   have hsl2:mr E l w (M++[(k,none,cl)]) (U.push { key:=d,val:=zv,born:=cl }).toList:=by
    obtain⟨hs,k1,k2⟩:=h4;have O:∀(a:Nat) y,(M++[(k,(none:Option (List (List AV))),cl)])[a]?=some y->y.2.1.isSome=true->M[a]?=some y/\a<M.length:=fun a y I hsm=>by
     rw[jR]at I;split at I
     ·rename_i hh
      exact⟨I,hh⟩
     ·cases hk2:a - M.length with
      |zero=>
       rw[hk2]at I;simp at I;subst I;cases hsm
      |succ _=>rw[hk2]at I; simp at I
    refine⟨hs,fun a c y z I N sy sz he=>k1 a c y z (O a y I sy).1 (O c z N sz).1 sy sz he,fun a y rws e I hr he=>?_⟩;obtain⟨o1,o2⟩:=O a y I (by rw[hr]; rfl);simp only[vl]at he;rw[fT ab]at he
    grind
   obtain⟨w1,p1,p2,p3,p4,p5⟩:=Bw (P:=P) HE (cl':=cl+1) hid h1 h2 hre hsl2;obtain⟨r1,r2,r3⟩:=Ki p2 w;simp only[nV]at r3;refine⟨.tuple #[zv,goInt cl],w1,?_,E.ae++[none],E.X.r,?_,r1,p3.trans r2⟩
   ·simp only[Jf,dN,Sem.bT (gW ht),dZ,e1,iU hkv',g1,z1]
    simp_all
   simp_all[ad,aw]
 ·cases h
def vN (d:List (AV × Option (List (List AV)) × Nat)) (st:Int):Option Nat:=d.findIdx? fun x=>(x.2.2:Int)==st
def plainKey:AV->Bool
 |.tuple _=>false
 |_=>true
theorem aa4(h:plainKey k=true):ji k=(k,.undef):=by
 cases k<;>first|rfl|cases h
def oU(m s v:AV)(H:List aj):Option (List aj):=
 match m,s,v with
 |.map id,.lit (.int .i64 st),.vQ w j aq oF n=>match H[id]?,H[j]? with
  |some (.ba l w' d cl),some (.vQ k h rZ)=>if (w=w'/\w=k)/\(aq=h/\oF=0)/\n=rZ.length then
    match vN d st with
    |some i=>match d[i]? with
     |some (key,_,y)=>match plainKey (ji key).1 with
      |true=>some ((H.set id (.ba l w' (d.set i ((ji key).1,some rZ,y)) cl)).set j .dead)
      |false=>none
     |none=>none
    |none=>none
   else none
  |_,_=>none
 |_,_,_=>none
theorem P0{E:ah}{st:Int}:∀{d:List (AV × Option (List (List AV)) × Nat)} {k:List MapEntry},bX E (dX d) k->k.findIdx? (fun e=>(e.born:Int)==st)=vN d st
 |[],[],_=>rfl
 |[],_::_,h=>by simp[dX,bX]at h
 |_::_,[],h=>by simp[dX,bX]at h
 |x::d,e::k,h=>by
  have h':bX E (((ji x.1).1,(ji x.1).2,x.2.2)::dX d) (e::k):=h;simp only[bX]at h';obtain⟨_,_,y,_,_,v⟩:=h';have I:=P0 (st:=st) v
  grind[vN]
theorem aa5(HE:aJ E)(h:oU m s v E.H=some H')(hm:ad E m c)(hs:ad E s d)(hv:ad E v u):
  ∃w',(Eo t c d u).run P E.w=.ok () w'/\∀x,dP E .undef H' x w':=by
 unfold oU at h;split at h
 case h_2=>cases h
 rename_i id st w j aq oF n;split at h
 case h_2=>cases h
 rename_i l w' M cl w2 ver' rZ W hj;split at h
 case isFalse=>cases h
 rename_i hc;obtain⟨⟨rfl,rfl⟩,⟨rfl,rfl⟩,rfl⟩:=hc;split at h
 case h_2=>cases h
 rename_i i hi;split at h
 case h_2=>cases h
 rename_i key0 O N hes;split at h
 case h_2=>cases h
 rename_i hpl;cases h;have hpk:=aa4 hpl;obtain⟨key,hkey⟩:∃key,key=(ji key0).1:=⟨_,rfl⟩
 rw[<-hkey]at hpk|-;obtain⟨b,n,I,rfl,h1,h2,h3,h4⟩:=Fc HE W hm;have hne:j≠id:=fun e=>by rw[e,W]at hj; cases hj
 have e1:(getObj b).run P E.w=.ok (.map I cl) E.w:=by simp[getObj,jA,h2]
 obtain⟨hlen,hall⟩:=fA.1 h3;rw[JG]at hlen;have hlt:=bl hes;obtain⟨e',q4⟩:∃e',I.toList[i]?=some e':=⟨I.toList[i]'ab,cB _⟩
 have hfind:I.findIdx? (fun e=>(e.born:Int)==st)=some i:=by
  have e0:I=I.toList.toArray:=au;rw[e0,ar8,P0 h3,hi]
 have hre:bX E (dX (M.set i (key,none,N))) (I.modify i fun e=>{ e with val:=u }).toList:=by
  rw[fA];refine⟨by simp[dX,hlen],fun a y z k U=>?_⟩;simp only[nc,kI]at U;obtain⟨z0,hz0,rfl⟩:=gj.1 U;unfold dX at k;rw[dw,gh]at k;by_cases e:i=a
  ·subst e
   rw[iP rfl,iP hlt]at k;cases k;obtain⟨b1,b2,b3,b4,b5⟩:=hall i _ z0 (Bv hes) hz0
   simp_all[ad,AV.closed]
  grind[dX]
 have hsl2:mr E l w (M.set i (key,none,N)) (I.modify i fun e=>{ e with val:=u }).toList:=by
  obtain⟨hs,k1,k2⟩:=h4;have O:∀(a:Nat) y,(M.set i (key,none,N))[a]?=some y->y.2.1.isSome=true->M[a]?=some y/\a≠i:=fun a y k hsm=>by
   by_cases ei:i=a
   ·subst ei
    rw[cG hlt]at k;cases k;cases hsm
   ·rw[bL ei]at k
    exact⟨k,Ne.symm ei⟩
  refine⟨hs,fun a c y z k U sy sz he=>k1 a c y z (O a y k sy).1 (O c z U sz).1 sy sz he,fun a y rws e k hr he=>?_⟩;obtain⟨o1,o2⟩:=O a y k (by rw[hr]; rfl);simp only[nc,kI]at he;obtain⟨z0,hz0,rfl⟩:=gj.1 he;rw[iN (Ne.symm o2)]
  grind
 obtain⟨w',p1,p2,p3,p4,p5⟩:=Bw (P:=P) HE (cl':=cl) W h1 h2 hre hsl2;have hd:d=.int .i64 st:=by grind[ad]
 have hrun:(Eo t (.map (some b)) d u).run P E.w=.ok () w':=by
  subst hd;simp only[Eo,asInt,asIntOf,dN,dZ,e1,ke,hfind];exact p1
 have hidE:({ w:=w',H:=E.H.set id (.ba l w (M.set i (key,none,N)) cl),ae:=E.ae,X:=E.X }:ah).H[id]?=some (.ba l w (M.set i (key,none,N)) cl):=by
  simp only[]
  grind
 have hjE:({ w:=w',H:=E.H.set id (.ba l w (M.set i (key,none,N)) cl),ae:=E.ae,X:=E.X }:ah).H[j]?=some (.vQ w aq rZ):=by
  simp only[];rw[bL (Ne.symm hne)];exact hj
 have hobj:=p2.obj id _ hidE;simp only[a6]at hobj;obtain⟨b2,n2,ms2,o1,o2,o3,o4⟩:=hobj;rw[h1]at o1;simp only[bD,bM]at o1;obtain⟨rfl,rfl⟩:=o1;rw[p4]at o2;cases o2;obtain⟨loc',r',r1,r2⟩:=Kh p2 (i:=i) (key:=key) (bn:=N) (e:={ e' with val:=u }) hidE hjE (by rw[cG hlt]) h1 p4 (by
  simp only[nc,kI,q4];simp) o3 o4 (bW p3 _ hv)
 refine⟨w',hrun,fun xx=>⟨loc',r',by simp[ad],?_,p3.trans ?_⟩⟩<;>simp_all
theorem P1{r:List (Option (Option (Nat × Nat)))}(h:∀(i:Nat) q,r[i]?≠some (some q)):fo r=[]:=by
 unfold fo;rw[List.filterMap_eq_nil_iff];intro x d;obtain⟨i,hi,e⟩:=pK d;cases x with
 |none=>rfl
 |some q=>exact absurd (by rw[cB hi,e]) (h i q)
theorem P2(HE:aJ E)(d:E.H[id]? = some (.map [] cl))(h:mu E.H l=true):
  aJ { w:=E.w,H:=E.H.set id (.mm l [] [] cl),ae:=E.ae,X:=E.X }/\E.le { w:=E.w,H:=E.H.set id (.mm l [] [] cl),ae:=E.ae,X:=E.X }:=
 aJ.Bx HE d rfl rfl rfl (rS h) fun k=>by
  have ho:=HE.obj id _ d;simp only[a6]at ho|-;obtain⟨b,n,v,h1,y,I⟩:=ho;have N:=P1 (HE.jS l (rS h));refine⟨b,n,v,h1,y,iF (fun a _ hr=>bW k a hr) I,?_,fun i x e M=>by simp at M,fun j m b hm=>by simp at hm⟩
  grind
theorem Kj(HE:aJ E){h:List (AV × Option Nat × Nat)}{v:List (List (AV × AV × Nat) × Nat)}(k:E.H[id]? = some (.mm l h v cl))(hr:ad E (.map id) c):
  ∃b n d,c=.map (some b)/\E.ae[id]?=some (some (b,n))/\E.w.heap[b]?=some (.map d cl)/\bX E (jk h) d.toList/\EF E l h v d.toList:=by
 have ho:=HE.obj id _ k;simp only[a6]at ho;obtain⟨b,n,d,h1,I,M,N⟩:=ho;simp only[ad]at hr;obtain⟨_,_,y⟩:=hr;obtain⟨O,U,W,g2⟩:=y ⟨_,k,rfl⟩
 grind
theorem P3(HE:aJ E){y:List (AV × Option Nat × Nat)}{v:List (List (AV × AV × Nat) × Nat)}{m:List (AV × AV × Nat) × Nat}(k:E.H[id]? = some (.mm l y v cl))(hm:v[i]? = some m) (hr:ad E (.sub id l (some i)) c):
  ∃b d,c=.map (some b)/\(fo (E.X.r l))[i]?=some b/\E.w.heap[b]?=some (.map d m.2)/\bX E m.1 d.toList:=by
 have ho:=HE.obj id _ k;simp only[a6]at ho;obtain⟨_,_,d,_,_,_,_,_,M⟩:=ho;simp only[ad]at hr;rcases hr with⟨h,_⟩|⟨N,h1,_,_,I⟩
 ·cases h
 cases h1;obtain⟨_,b,O,U⟩:=I ⟨_,k,rfl⟩
 grind
def vO(P:ak)(t:aK)(m k:AV)(H:List aj):Option AV:=
 match eT P t,m with
 |some (d,v),.map id=>match H[id]? with
  |some (.mm l h _ _)=>match jT P d k,kK P v with
   |some y,some (.lit (.map none))=>match fW P d y (jk h) 0 with
    |some (some (i,_))=>(h[i]?).map fun x=>.sub id l x.2.1
    |some none=>some (.sub id l none)
    |none=>none
   |_,_=>none
  |_=>none
 |_,_=>none
theorem aa6(HE:aJ E)(h:vO P t m k E.H=some v)(hm:ad E m c)(hk:ad E k d):
  ∃u,(m_ t c d false).run P E.w=.ok u E.w/\ad E v u:=by
 unfold vO at h;split at h
 case h_2=>cases h
 rename_i kt et id W;split at h
 case h_2=>cases h
 rename_i l es ms cl M;split at h
 case h_2=>cases h
 rename_i kv hkv hz;obtain⟨b,n,mes,rfl,h1,h2,h3,_,hmm,_⟩:=Kj HE M hm;have I:=kr hkv hk;obtain⟨zv,z1,z2⟩:=vI hz E.w;have hzv:zv=.map none:=by simpa[ad]using z2 E
 subst hzv;have e1:(getObj b).run P E.w=.ok (.map mes cl) E.w:=by simp[getObj,jA,h2]
 split at h
 ·rename_i i v0 N
  obtain⟨O,U,y⟩:=jE I E.w h3 N;cases O with
  |none=>simp[eE]at y
  |some q=>
   simp only[eE]at y;obtain⟨q1,_,_,e,q4,q5⟩:=y;obtain⟨x,hx,rfl⟩:=gj.1 h;refine⟨q.2,?_,?_⟩
   ·simp only[m_,dN,Sem.bT (gW W),dZ,e1,ke,iU I,U]
    rfl
   ·rw[<- q5]
    simp only[ad];rcases hmm i x e hx (by simpa using q4)with⟨a1,a2⟩|⟨j,bj,a1,a2,a3⟩
    grind
    ·exact .inr ⟨j,a1,⟨bj,a3⟩,⟨_,M,rfl,fun v _=>fy v⟩,fun _=>⟨⟨_,M,rfl⟩,bj,a2,a3⟩⟩
 ·rename_i N
  obtain⟨O,U,y⟩:=jE I E.w h3 N;cases h;cases O with
  |some _=>simp[eE]at y
  |none=>
   refine⟨.map none,?_,by simp[ad]⟩;simp only[m_,dN,Sem.bT (gW W),dZ,e1,ke,iU I,U,z1];rfl
 ·cases h
def yd(P:ak)(t:aK)(m k:AV)(ok:Bool)(H:List aj):Option AV:=
 match eT P t,m with
 |some (d,h),.sub id l (some i)=>match H[id]? with
  |some (.mm l' _ y _)=>match aD l l',y[i]?,jT P d k,rU P h with
   |true,some mm,some I,some z=>match fW P d I mm.1 0 with
    |some r=>let v:=match r with
      |some (_,v)=>v
      |none=>z
     some (match ok with
      |true=>.tuple [v,.lit (.bool r.isSome)]
      |false=>v)
    |none=>none
   |_,_,_,_=>none
  |_=>none
 |_,_=>none
theorem aa7(HE:aJ E)(h:yd P t m k ok E.H=some v)(hm:ad E m c)(hk:ad E k d):
  ∃u,(m_ t c d ok).run P E.w=.ok u E.w/\ad E v u:=by
 unfold yd at h;split at h
 case h_2=>cases h
 rename_i kt et id l i N;split at h
 case h_2=>cases h
 rename_i l' es ms cl hid;split at h
 case h_2=>cases h
 rename_i mm kv z M hmm hkv hz;have M:=bN M;subst M;split at h
 case h_2=>cases h
 rename_i r hr;obtain⟨b,mes,rfl,_,h2,h3⟩:=P3 HE hid hmm hm;have I:=kr hkv hk;obtain⟨O,U,y⟩:=jE I E.w h3 hr;obtain⟨W,z1,z2⟩:=PN hz E.w;have e1:(getObj b).run P E.w=.ok (.map mes mm.2) E.w:=by simp[getObj,jA,h2]
 cases h;cases r with
 |none=>
  cases O with
  |some _=>simp[eE]at y
  |none=>
   refine⟨if ok then .tuple #[W,.bool false] else W,?_,?_⟩
   ·simp only[m_,dN,Sem.bT (gW N),dZ,e1,ke,iU I,U,z1]
   ·cases ok with
    |true=>simp[ad,aw,z2 E]
    |false=>grind
 |some p=>
  cases O with
  |none=>simp[eE]at y
  |some q=>
   simp only[eE]at y;obtain⟨q1,q2,_,_,_,_⟩:=y;refine⟨if ok then .tuple #[q.2,.bool true] else q.2,?_,?_⟩
   ·simp only[m_,dN,Sem.bT (gW N),dZ,e1,ke,iU I,U]
   ·cases ok with
    |true=>simp[ad,aw,q2]
    |false=>grind
theorem P4:∀{r:List (Option (Option (Nat × Nat)))},(∀(h h' b m n:Nat),r[h]? = some (some (some (b,m)))->r[h']? = some (some (some (b,n)))->h=h')->(fo r).Nodup
 |[],_=>List.nodup_nil
 |x::r,H=>by
  have d:=P4 (r:=r) fun h h' b m n h1 k=>by
   have:=H (h+1) (h'+1) b m n (by simpa using h1) (by simpa using k);omega
  match x,H with
  |none,_=>exact d
  |some none,_=>exact d
  |some (some (b,m)),H=>
   show (b::fo r).Nodup
   refine List.nodup_cons.2 ⟨fun hm=>?_,d⟩;obtain⟨i,n,hi⟩:=te hm;have:=H 0 (i+1) b m n rfl (by simpa using hi);omega
theorem P5(HE:aJ E) (h1:(fo (E.X.r l))[i]?=some b) (d:(fo (E.X.r l))[j]?=some b):i=j:=
 (List.getElem?_inj (bl h1) (P4 fun h h' b m n k v=>(HE.gK l h l h' b m n k v).2)).1 (by rw[h1,d])
def ob(P:ak)(t:aK)(m k:AV)(ok:Bool)(H:List aj):Option AV:=
 match m with
 |.sub id l j=>yd P t (.sub id l j) k ok H
 |.map id=>match ok with
  |false=>vO P t (.map id) k H
  |true=>none
 |_=>none
theorem aa8(HE:aJ E)(h:ob P t m k ok E.H=some v)(hm:ad E m c)(y:ad E k d):
  ∃u,(m_ t c d ok).run P E.w=.ok u E.w/\ad E v u:=by
 unfold ob at h
 grind[aa7,aa6]
theorem P6{H2:List aj}(M:∀(i l:Nat) d y (cl:Nat),H[i]?=some (aj.mm l d y cl)->H2[i]?=some (aj.mm l d y cl))(h:ob P t m k ok H=some v):ob P t m k ok H2=some v/\jl P t m k ok H2=none:=by
 unfold ob at h|-;unfold jl;split at h
 ·rename_i id l j
  refine⟨?_,by split<;>first|rfl|(rename_i e; cases e)⟩;unfold yd at h|-
  grind
 ·rename_i id
  split at h
  case h_2=>cases h
  cases I:eT P t with
  |none=>
   simp_all[vO]
  |some p=>
   simp only[vO,I]at h|-
   grind
 ·cases h
theorem aa9{d:List aj}(h1:∀id,m=.map id->d[id]?=H[id]?)(h:∀id l j,m=.sub id l j->d[id]?=H[id]?):ob P t m k ok d=ob P t m k ok H:=by
 unfold ob;cases m<;>try rfl
 ·rename_i id
  cases ok with
  |true=>rfl
  |false=>
   unfold vO
   grind
 ·rename_i id l j
  unfold yd;cases eT P t<;>grind
theorem P7(HE:aJ E){k:List (AV × Option Nat × Nat)}{d:List (List (AV × AV × Nat) × Nat)}{m m':List (AV × AV × Nat) × Nat}{mes mes':Array MapEntry}(O:E.H[id]? = some (.mm l k d cl))(hm:d[i]? = some m)
  (hb:(fo (E.X.r l))[i]?=some b) (h2:E.w.heap[b]?=some (.map mes m.2)) (hr:bX E m'.1 mes'.toList) :
  ∃w',(setObj b (.map mes' m'.2)).run P E.w=.ok () w'/\aJ { w:=w',H:=E.H.set id (.mm l k (d.set i m') cl),ae:=E.ae,X:=E.X }/\E.le { w:=w',H:=E.H.set id (.mm l k (d.set i m') cl),ae:=E.ae,X:=E.X }:=by
 obtain⟨h,v,I⟩:=te (gg hb);have hlt:=(HE.dp l h b v I).1;have hsz:({ E.w with heap:=E.w.heap.setIfInBounds b (.map mes' m'.2) }:bh).heap.size=E.w.heap.size:=au;have hsame:∀y,y≠b->({ E.w with heap:=E.w.heap.setIfInBounds b (.map mes' m'.2) }:bh).heap[y]?=E.w.heap[y]?:=by
  intro y hy;simp only[Em]
  grind
 have key:=aJ.xQ (w':={ E.w with heap:=E.w.heap.setIfInBounds b (.map mes' m'.2) }) (r':=E.X.r) (o':=.mm l k (d.set i m') cl) HE O rfl rfl rfl (OM hsz.symm) (fun x _ _ hx=>hsame x fun e=>by
   subst e;exact hx h v I) (fun _ _=>rfl) (fun _ _ _ M=>.inl M) (fun _ M=>⟨M,fun _ hq=>hq⟩) (fun hle=>?_) ⟨rfl,rfl,rfl,fun _=>aV _⟩ (.inr ⟨rfl,[],(dY _).symm⟩)
 simp_all[setObj,jA]
 ·have ho:=HE.obj id _ O
  simp only[a6]at ho|-;obtain⟨N,n,mes0,W,g2,g3,g4,g5,g6⟩:=ho;have hne:N≠b:=fun e=>HE.d_ id N n l h v W (by rw[e]; exact I);refine⟨N,n,mes0,W,?_,iF (fun a _ hr=>bW hle a hr) g3,?_,g5,fun j mj bj hj U=>?_⟩
  grind
  simp_all
  ·have U:(fo (E.X.r l))[j]?=some bj:=U
   grind[iF,bW,P5]
def vP(P:ak)(t:aK)(m k v:AV)(H:List aj):Option (List aj):=
 match eT P t,m with
 |some (M,_),.sub id l (some h)=>match H[id]? with
  |some (.mm l' y d I)=>match aD l l',d[h]?,jT P M k with
   |true,some mm,some N=>if v.closed=true/\k.closed=true then
     match fW P M N mm.1 0 with
     |some (some (i,_))=>some (H.set id (.mm l y (d.set h (mm.1.modify i fun e=>(k,v,e.2.2),mm.2)) I))
     |some none=>some (H.set id (.mm l y (d.set h (mm.1++[(k,v,mm.2)],mm.2+1)) I))
     |none=>none
    else none
   |_,_,_=>none
  |_=>none
 |_,_=>none
theorem aa_(HE:aJ E)(h:vP P t m k v E.H=some H')(hm:ad E m c)(hk:ad E k d)(hv:ad E v u):
  ∃w',(oJ t c d u).run P E.w=.ok () w'/\aJ { w:=w',H:=H',ae:=E.ae,X:=E.X }/\E.le { w:=w',H:=H',ae:=E.ae,X:=E.X }:=by
 unfold vP at h;split at h
 case h_2=>cases h
 rename_i kt et id l i0 ht;split at h
 case h_2=>cases h
 rename_i l' oes oms ocl U;split at h
 case h_2=>cases h
 rename_i mm kv W hmm hkv;have W:=bN W;subst W;obtain⟨es,cl⟩:=mm;split at h
 case isFalse=>cases h
 rename_i hcl;obtain⟨b,N,rfl,h1,h2,h3⟩:=P3 HE U hmm hm;have I:=kr hkv hk;have e1:(getObj b).run P E.w=.ok (.map N cl) E.w:=by simp[getObj,jA,h2]
 obtain⟨hlen,hall⟩:=fA.1 h3;split at h
 ·rename_i i v0 O
  cases h;obtain⟨r',g1,M⟩:=jE I E.w h3 O;cases r' with
  |none=>simp[eE]at M
  |some q=>
   simp only[eE]at M;obtain⟨q1,q2,_,e',q4,q5⟩:=M;obtain⟨_,x,l,f1,f2,f3⟩:=yc O;simp only[iz]at q4 f1;obtain⟨a1,a2,a3,a4,a5⟩:=hall i x e' f1 q4;obtain⟨s1,s2⟩:=Br I (kr f2 a1) f3;have q4':N[i]?=some e':=gB;obtain⟨w',r1,r2,r3⟩:=P7 (P:=P) HE (m':=(es.modify i fun e=>(k,v,e.2.2),cl)) (mes':=N.modify i fun e=>{ e with key:=d,val:=u }) U hmm h1 h2 (by
    rw[fA];refine⟨by simp[hlen],fun j y z hy hz=>?_⟩;simp only[kI]at hy;simp only[nc,kI]at hz;obtain⟨y0,hy0,rfl⟩:=gj.1 hy
    grind)
   refine⟨w',?_,r2,r3⟩;subst q1;have hst:(sZ e'.key d).run P E.w=.ok d E.w:=by simp[sZ,s2]
   simp only[oJ,dN,Sem.bT (gW ht),dZ,e1,iU I,g1,q4',ki,rD,hst];exact r1
 ·rename_i O
  cases h;obtain⟨r',g1,M⟩:=jE I E.w h3 O;cases r' with
  |some _=>simp[eE]at M
  |none=>
   obtain⟨w',r1,r2,r3⟩:=P7 (P:=P) HE (m':=(es++[(k,v,cl)],cl+1)) (mes':=N.push { key:=d,val:=u,born:=cl }) U hmm h1 h2 (by
    rw[fA];refine⟨by simp[hlen],fun j y z hy hz=>?_⟩
    grind)
   refine⟨w',?_,r2,r3⟩;simp only[oJ,dN,Sem.bT (gW ht),dZ,e1,iU I,g1];exact r1
 ·cases h
theorem P8(HE:aJ E){es es':List (AV × Option Nat × Nat)}{k:List (List (AV × AV × Nat) × Nat)}{W mes':Array MapEntry}(M:E.H[id]? = some (.mm l es k cl)) (d:E.ae[id]? = some (some (b,n)))
  (hb:E.w.heap[b]?=some (.map W cl)) (hr:bX E (jk es') mes'.toList)
  (hmm:∀(i:Nat) x e,es'[i]?=some x->mes'.toList[i]?=some e->(x.2.1=none/\e.val=.map none)\/∃j b,x.2.1=some j/\(fo (E.X.r l))[j]?=some b/\e.val=.map (some b)) :
  ∃w',(setObj b (.map mes' cl')).run P E.w=.ok () w'/\aJ { w:=w',H:=E.H.set id (.mm l es' k cl'),ae:=E.ae,X:=E.X }/\E.le { w:=w',H:=E.H.set id (.mm l es' k cl'),ae:=E.ae,X:=E.X }:=by
 have hlt:=(HE.lt id b n d).1;have hsz:({ E.w with heap:=E.w.heap.setIfInBounds b (.map mes' cl') }:bh).heap.size=E.w.heap.size:=au;have I:∀y,y≠b->({ E.w with heap:=E.w.heap.setIfInBounds b (.map mes' cl') }:bh).heap[y]?=E.w.heap[y]?:=by
  intro y hy;simp only[Em]
  grind
 have key:=aJ.xQ (w':={ E.w with heap:=E.w.heap.setIfInBounds b (.map mes' cl') }) (r':=E.X.r) (o':=.mm l es' k cl') HE M rfl rfl rfl (OM hsz.symm) (fun x _ hx _=>I x fun e=>by
   subst e;exact hx n d) (fun _ _=>rfl) (fun _ _ _ v=>.inl v) (fun _ v=>⟨v,fun _ hq=>hq⟩) (fun N=>?_) ⟨rfl,rfl,rfl,fun _=>aV _⟩ (.inr ⟨rfl,[],(dY _).symm⟩)
 simp_all[setObj,jA]
 ·have ho:=HE.obj id _ M
  simp only[a6]at ho|-;obtain⟨b0,n0,mes0,g1,g2,g3,g4,g5,g6⟩:=ho;refine⟨b,n,mes',d,by simp[hlt],iF (fun a _ hr=>bW N a hr) hr,g4,hmm,fun j mj U hj O=>?_⟩;obtain⟨mm,k1,k2⟩:=g6 j mj U hj O;obtain⟨h,mc,hh⟩:=te (gg O);refine⟨mm,?_,iF (fun a _ hr=>bW N a hr) k2⟩;rw[<-k1];exact I U fun e2=>HE.d_ id b n l h mc d (by rw[<-e2]; exact hh)
def nq(P:ak)(t:aK)(m k:AV)(H:List aj):Option (AV × List aj):=
 match eT P t,m with
 |some (d,v),.map id=>match H[id]? with
  |some (.mm l h y cl)=>match jT P d k,kK P v,k.closed with
   |some I,some (.lit (.map none)),true=>match fW P d I (jk h) 0 with
    |some none=>some (.tuple [.sub id l none,.lit (goInt cl)],H.set id (.mm l (h++[(k,none,cl)]) y (cl+1)))
    |_=>none
   |_,_,_=>none
  |_=>none
 |_,_=>none
theorem aa'(HE:aJ E)(h:nq P t m k E.H=some (v,H'))(hm:ad E m c)(hk:ad E k d):
  ∃u w',(Jf t c d).run P E.w=.ok u w'/\dP E v H' u w':=by
 unfold nq at h;split at h
 case h_2=>cases h
 rename_i kt et id ht;split at h
 case h_2=>cases h
 rename_i l O ms cl hid;split at h
 case h_2=>cases h
 rename_i kv hkv M hcl;obtain⟨b,n,mes,rfl,h1,h2,h3,h4,h5,h6⟩:=Kj HE hid hm;have hkv':=kr hkv hk;have e1:(getObj b).run P E.w=.ok (.map mes cl) E.w:=by simp[getObj,jA,h2]
 obtain⟨U,hall⟩:=fA.1 h3;rw[Pa]at U;split at h
 case h_2=>cases h
 rename_i hf;cases h;obtain⟨r',g1,g2⟩:=jE hkv' E.w h3 hf;cases r' with
 |some _=>simp[eE]at g2
 |none=>
  obtain⟨zv,z1,z2⟩:=vI M E.w;have hzv:zv=.map none:=by have:=z2 E; grind[ad]
  subst hzv;have hre:bX E (jk (O++[(k,none,cl)])) (mes.push { key:=d,val:=.map none,born:=cl }).toList:=by
   rw[fA];refine⟨by simp[jk,U],fun a y z N M=>?_⟩;unfold jk at N;rw[kj]at N;simp only[vl,jR,cP]at N M;rw[<-U]at M;by_cases e:a<O.length
   grind[jk]
   ·simp only[iN e]at N M
    cases W:a-O.length with
    |zero=>
     rw[W]at N M;simp at N M;subst N; subst M;exact⟨hk,by simp[ad],rfl,hcl,rfl⟩
    |succ _=>grind
  obtain⟨w1,p1,p2,p3⟩:=P8 (P:=P) HE (cl':=cl+1) hid h1 h2 hre (fun i x e I he=>by
   simp only[vl,jR]at I he;rw[<-U]at he;by_cases e1:i<O.length
   ·simp only[iP e1]at I he
    exact h5 i x e I he
   ·simp only[iN e1]at I he
    cases W:i-O.length with
    |zero=>
     rw[W]at I he;simp at I he;subst I; subst he;exact .inl ⟨rfl,rfl⟩
    |succ _=>rw[W]at I; simp at I)
  refine⟨.tuple #[.map none,goInt cl],w1,?_,E.ae,E.X.r,?_,p2,p3⟩
  ·simp only[Jf,dN,Sem.bT (gW ht),dZ,e1,iU hkv',g1,z1]
   simp_all
  grind[ad,aw]
def vR(d:List (AV × Option Nat × Nat))(st:Int):Option Nat:=d.findIdx? fun x=>(x.2.2:Int)==st
theorem P9{E:ah}{st:Int}:∀{d:List (AV × Option Nat × Nat)} {k:List MapEntry},bX E (jk d) k->k.findIdx? (fun e=>(e.born:Int)==st)=vR d st
 |[],[],_=>rfl
 |[],_::_,h=>by simp[jk,bX]at h
 |_::_,[],h=>by simp[jk,bX]at h
 |x::d,e::k,h=>by
  have h':bX E ((x.1,.undef,x.2.2)::jk d) (e::k):=h;simp only[bX]at h';obtain⟨_,_,y,_,_,v⟩:=h';have I:=P9 (st:=st) v
  grind[vR]
theorem aba(HE:aJ E){bk:Nat}{I:List (AV × Option Nat × Nat)}{k:List (List (AV × AV × Nat) × Nat)}{y:List (AV × AV × Nat)}(U:E.H[id]? = some (.mm l I k cl))(M:E.H[j]? = some (.map y bk))(hu:ad E (.map j) u):
  ∃d O N,u=.map (some d)/\(∃t,N l=E.X.r l++t)/\(fo (N l))[k.length]?=some d/\(∀i,i≠j->O[i]?=E.ae[i]?) /\
   aJ { w:=E.w,H:=(E.H.set id (.mm l I (k++[(y,bk)]) cl)).set j .dead,ae:=O,X:=E.X.re N }/\E.le { w:=E.w,H:=(E.H.set id (.mm l I (k++[(y,bk)]) cl)).set j .dead,ae:=O,X:=E.X.re N }:=by
 obtain⟨d,n,mes,rfl,h1,h2,h3⟩:=vJ HE M hu;have ho:=HE.obj id _ U;simp only[a6]at ho;obtain⟨b0,n0,mes0,g1,g2,g3,g4,g5,g6⟩:=ho;have hne:j≠id:=fun e=>by rw[e,U]at M; cases M
 have hra:gp E.X.r l (some (d,n)) l=E.X.r l++[some (some (d,n))]:=iP rfl;have hlv:fo (gp E.X.r l (some (d,n)) l)=fo (E.X.r l)++[d]:=by
  rw[hra,Bc];rfl
 have key:=aJ.attach HE (o':=.mm l I (k++[(y,bk)]) cl) U rfl rfl rfl M rfl h1 (fun hle=>?_) (.inr rfl)
 grind
 ·simp only[a6]
  refine⟨b0,n0,mes0,by rw[bL hne]; exact g1,g2,iF (fun a _ hr=>bW hle a hr) g3,?_,fun i x e hx he=>?_,fun i mi bi W v=>?_⟩
  simp_all
  ·rcases g5 i x e hx he with h | ⟨i',b',a1,a2,a3⟩
   grind
   ·refine .inr ⟨i',b',a1,?_,a3⟩
    show (fo (gp E.X.r l (some (d,n)) l))[i']?=_
    grind
  ·have v:(fo (gp E.X.r l (some (d,n)) l))[i]?=some bi:=v
   rw[hlv]at v;rw[jR]at W v;by_cases e:i<k.length
   ·rw[iP e]at W
    rw[iP ab]at v
    grind[iF,bW]
   ·rw[iN e]at W
    rw[iN ab,g4]at v;cases hk:i-k.length with
    |zero=>
     grind[iF,bW]
    |succ _=>grind
def pY(m s v:AV)(H:List aj):Option (List aj):=
 match m,s,v with
 |.map id,.lit (.int .i64 st),.map j=>match H[id]?,H[j]? with
  |some (.mm l d h cl),some (.map k bk)=>match vR d st with
   |some i=>match d[i]? with
    |some (key,none,y)=>some ((H.set id (.mm l (d.set i (key,some h.length,y)) (h++[(k,bk)]) cl)).set j .dead)
    |_=>none
   |none=>none
  |_,_=>none
 |_,_,_=>none
theorem abb(HE:aJ E)(h:pY m s v E.H=some H')(hm:ad E m c)(hs:ad E s d)(hv:ad E v u):
  ∃w',(Eo t c d u).run P E.w=.ok () w'/\∀x,dP E .undef H' x w':=by
 unfold pY at h;split at h
 case h_2=>cases h
 rename_i id st j;split at h
 case h_2=>cases h
 rename_i l M k cl N bk hid hj;split at h
 case h_2=>cases h
 rename_i i hi;split at h
 case h_2=>cases h
 rename_i key O hes;cases h;obtain⟨b,n,I,rfl,h1,h2,h3,h4,h5,h6⟩:=Kj HE hid hm;have hne:j≠id:=fun e=>by rw[e,hid]at hj; cases hj
 have e1:(getObj b).run P E.w=.ok (.map I cl) E.w:=by simp[getObj,jA,h2]
 obtain⟨hlen,hall⟩:=fA.1 h3;rw[Pa]at hlen;have hlt:=bl hes;obtain⟨e',q4⟩:∃e',I.toList[i]?=some e':=⟨I.toList[i]'ab,cB _⟩
 have hfind:I.findIdx? (fun e=>(e.born:Int)==st)=some i:=by
  have e0:I=I.toList.toArray:=au;rw[e0,ar8,P9 h3,hi]
 obtain⟨bj,U,W,rfl,⟨tt,ht⟩,hlv,hloc,HE1,hle1⟩:=aba HE hid hj hv;have hd:d=.int .i64 st:=by grind[ad]
 have hidE:({ w:=E.w,H:=(E.H.set id (.mm l M (k++[(N,bk)]) cl)).set j .dead,ae:=U,X:=E.X.re W }:ah).H[id]?=some (.mm l M (k++[(N,bk)]) cl):=by
  simp only[]
  grind
 have hre:bX { w:=E.w,H:=(E.H.set id (.mm l M (k++[(N,bk)]) cl)).set j .dead,ae:=U,X:=E.X.re W } (jk (M.set i (key,some k.length,O))) (I.modify i fun e=>{ e with val:=.map (some bj) }).toList:=by
  rw[fA];refine⟨by simp[jk,hlen],fun a y z hy hz=>?_⟩;simp only[nc,kI]at hz;obtain⟨z0,hz0,rfl⟩:=gj.1 hz;unfold jk at hy;rw[dw,gh]at hy;by_cases e:i=a
  ·subst e
   rw[iP rfl,iP hlt]at hy;cases hy;obtain⟨b1,b2,b3,b4,b5⟩:=hall i (key,.undef,O) z0 (by unfold jk; rw[dw,hes]; rfl) hz0;simp only[if_true]
   grind[bW,ad]
  grind[jk,bW]
 obtain⟨w',p1,p2,p3⟩:=P8 (P:=P) HE1 (cl':=cl) (es':=M.set i (key,some k.length,O)) (mes':=I.modify i fun e=>{ e with val:=.map (some bj) }) hidE (by
  show U[id]?=_
  rw[hloc id (Ne.symm hne)];exact h1) h2 hre (fun a x e hx he=>by
  simp only[nc,kI]at he;obtain⟨z0,hz0,rfl⟩:=gj.1 he;by_cases e:i=a
  ·subst e
   rw[cG hlt]at hx;cases hx
   simp_all
  ·rw[bL e]at hx
   simp only[iN e];rcases h5 a x z0 hx hz0 with h|⟨i',b',a1,a2,a3⟩
   grind
   ·refine .inr ⟨i',b',a1,?_,a3⟩
    show (fo (W l))[i']?=_
    grind[Bc])
 have hH:((E.H.set id (.mm l M (k++[(N,bk)]) cl)).set j .dead).set id (.mm l (M.set i (key,some k.length,O)) (k++[(N,bk)]) cl)=(E.H.set id (.mm l (M.set i (key,some k.length,O)) (k++[(N,bk)]) cl)).set j .dead:=by
  grind[s8,rE]
 rw[hH]at p2 p3;have hrun:(Eo t (.map (some b)) d (.map (some bj))).run P E.w=.ok () w':=by
  subst hd;simp only[Eo,asInt,asIntOf,dN,dZ,e1,ke,hfind];exact p1
 exact⟨w',hrun,fun xx=>⟨U,W,by simp[ad],p2,hle1.trans p3⟩⟩
theorem abc(HE:aJ E){k:Nat}(d:E.H[id]? = some (.vQ 1 0 rZ))(hn:rZ≠[])(h:mu E.H l=true):
  aJ { w:=E.w,H:=E.H.set id (.cZ l k rZ.length []),ae:=E.ae,X:=E.X }/\E.le { w:=E.w,H:=E.H.set id (.cZ l k rZ.length []),ae:=E.ae,X:=E.X }:=
 aJ.Bx HE d rfl rfl rfl (rS h) fun I=>by
  have ho:=HE.obj id _ d;simp only[a6]at ho|-;rcases ho with⟨_,v⟩|⟨b,m,h1,⟨cs,y,v,M⟩,N,_,_⟩
  grind
  ·have O:=P1 (HE.jS l (rS h))
   refine⟨b,m,cs,y,h1,v,?_,fy _,by have:cs.toList.length=cs.size:=oH; omega,fun i rZ b hi=>by simp at hi⟩
   grind
def vS(P:ak)(t:aK)(x v:AV)(H:List aj):Option (List aj):=
 match gL P t,qE v,x with
 |some (n,_),some cs,.sptr id l j w row d=>match H[id]? with
  |some (.cZ l' k y h)=>
   if cs.length=n/\l=l'/\k=w/\AV.cd cs=true then
    match h[j]? with
    |some rZ=>match rZ[row]? with
     |some r=>if d+n<=r.length then some (H.set id (.cZ l k y (h.set j (rZ.set row (putCells r cs d))))) else none
     |none=>none
    |none=>none
   else none
  |_=>none
 |_,_,_=>none
theorem abd(HE:aJ E)(h:vS P t x v E.H=some H')(O:ad E x c)(hv:ad E v d):
  ∃w',(xC t c d).run P E.w=.ok () w'/\aJ { w:=w',H:=H',ae:=E.ae,X:=E.X }/\E.le { w:=w',H:=H',ae:=E.ae,X:=E.X }:=by
 unfold vS at h;split at h
 case h_2=>cases h
 rename_i n ag cs id l j w row y ht cC;obtain⟨i,dd,hi,hd,hs,ha⟩:=nl ht;obtain⟨hrel,h1⟩:=ES cC hv;split at h
 case h_2=>cases h
 rename_i l' k n' ms hid;split at h
 case isFalse=>cases h
 rename_i hc;obtain⟨hn,rfl,rfl,hclosed⟩:=hc;split at h
 case h_2=>cases h
 rename_i rZ hj;split at h
 case h_2=>cases h
 rename_i r hrow;split at h
 case isFalse=>cases h
 rename_i hcol;cases h;have hlen:=jh hrel;have hsz:d.cells.size=n:=by rw[<-hn,hlen]; simp
 simp only[ad]at O;obtain⟨_,hpast,hlive⟩:=O;obtain⟨_,b,g1,rfl⟩:=hlive ⟨_,hid,rfl⟩;have ho:=HE.obj id _ hid;simp only[a6]at ho;obtain⟨b0,m0,cs0,el0,e2,e3,e4,e5,e6,e7⟩:=ho;obtain⟨m,q1,⟨I,el,hblk,hsize⟩,q4,q5,q6⟩:=e7 j rZ b hj g1;obtain⟨hh,mc,hhh⟩:=te (gg g1);have hrlt:=bl hrow;obtain⟨hrk,hrc⟩:=oQ q6 hrow;rw[dj]at hrc;have hrow1:(row+1)*k<=m*k:=sW _ ab;rw[pL,Nat.one_mul]at hrow1;have U:row*k+y+0+d.cells.toList.length<=I.size:=by rw[hsize]; simp; omega
 have hst:=run_storeCells_at P b (row*k+y) el d.cells.toList 0 I E.w hblk U (fun v hv=>by rw[x9]; exact h1 v hv);simp only[sU]at hst U;generalize W:E.w.setRow b (I.toList.take (row*k+y)++d.cells.toList++I.toList.drop (row*k+y+d.cells.toList.length)).toArray=w' at hst;have hsize':w'.heap.size=E.w.heap.size:=by rw[<-W]; simp
 have henv:fl E.w w':=by rw[<-W]; exact⟨rfl,rfl,rfl,by first|exact fun _=>aV _|exact fun _=>gI _ _⟩
 have hother:∀x,x≠b->w'.heap[x]?=E.w.heap[x]?:=by intro x O; rw[<-W]; grind[setRow_other]
 have hb':w'.heap[b]?=some (.cells (I.toList.take (row*k+y)++d.cells.toList++I.toList.drop (row*k+y+d.cells.toList.length)).toArray el (0,0)):=by
  rw[<-W]; grind[setRow_heap]
 have key:=aJ.xQ (w':=w') (r':=E.X.r) (o':=.cZ l k n' (ms.set j (rZ.set row (putCells r cs y)))) HE hid rfl rfl rfl (OM hsize'.symm) (fun x _ _ O=>hother x fun e=>by
   subst e;exact O hh mc hhh) (fun _ _=>rfl) (fun _ _ _ hk=>.inl hk) (fun _ hk=>⟨hk,fun _ hq=>hq⟩) (fun hle=>?_) henv (.inr ⟨rfl,[],(dY _).symm⟩)
 ·refine⟨w',?_,key.1,key.2⟩
  simp only[xC,oG,dN,ke,dZ,storeVar,Sem.run_sizeOf hi,hs]
  grind
 ·simp only[a6]
  have hne:b0≠b:=fun e=>HE.d_ id b0 m0 l hh mc e2 (by rw[e]; exact hhh);refine⟨b0,m0,cs0,el0,e2,?_,?_,by simpa using e5,e6,fun i2 rws N hi2 M=>?_⟩
  grind
  simp_all
  ·have M:(fo (E.X.r l))[i2]?=some N:=M
   by_cases e:j=i2
   ·subst e
    rw[g1]at M;cases M;rw[cG (bl hj)]at hi2;cases hi2;refine⟨m,by rw[nV]; exact q1,⟨_,el,hb',?_⟩,by simpa using q4,?_,?_⟩
    grind
    ·intro r' hr'
     rcases List.mem_or_eq_of_mem_set hr' with h'|h'
     ·exact q5 r' h'
     ·rw[h',putCells,Bm,Bm]
      have:=q5 r (gg hrow)
      grind[Bg,xT]
    ·rw[pS]at q6 |-
     intro j2 r' hj2;rw[gh]at hj2;split at hj2
     ·rename_i ej
      subst ej;cases hj2;refine⟨by rw[J5 ab]; exact hrk,?_⟩;rw[dj];exact EY (fun a c hr=>bW hle a hr) hblk hb' U hrc hrel h1 ab
     ·rename_i ej
      obtain⟨g1',g2⟩:=q6 j2 r' hj2;refine⟨g1',?_⟩;rw[lL]at g2|-;intro q a hq;obtain⟨vv,p1,p2,p3⟩:=g2 q a hq;refine⟨vv,?_,p2,bW hle a p3⟩;have hql:=bl hq;rw[J4 hblk hb' U,iN]
      ·exact p1
      ·rcases Nat.lt_or_gt_of_ne ej with hlt | hgt
       ·have:(row+1)*k<=j2*k:=sW _ ab
        grind
       ·have:(j2+1)*k<=row*k:=sW _ ab
        grind
   ·rw[bL e]at hi2
    obtain⟨m2,p1,⟨c2,el2,p2,p3⟩,p4,p5,p6⟩:=e7 i2 rws N hi2 M;have hbne:N≠b:=fun e2=>e (P5 HE g1 (by rw[<-e2]; exact M));exact⟨m2,p1,⟨c2,el2,by show w'.heap[N]?=_; rw[hother N hbne]; exact p2,p3⟩,p4,p5,iE (fun a _ hr=>bW hle a hr) (hother N hbne) p6⟩
def By(P:ak)(t:aK)(x v:AV)(H:List aj):Option (List aj):=
 match gL P t,x,v with
 |some (sz,_),.ptr id M pw row I,.vQ k j aq oF n=>match H[id]?,H[j]? with
  |some (.cZ l N d h),some (.vQ O y rZ)=>
   if (sz=1/\M=0/\pw=1/\I=0)/\(k=N/\k=O/\aq=y/\oF=0)/\(n=rZ.length/\0<n)/\(row=h.length/\row<d) then some ((H.set id (.cZ l k d (h++[rZ]))).set j .dead) else none
  |_,_=>none
 |_,_,_=>none
theorem abe(HE:aJ E)(h:By P t x v E.H=some H')(hx:ad E x c)(hv:ad E v d):
  ∃w',(xC t c d).run P E.w=.ok () w'/\∀x,dP E .undef H' x w':=by
 unfold By at h;split at h
 case h_2=>cases h
 rename_i sz ag id pv pw row col k j aq oF n ht;split at h
 case h_2=>cases h
 rename_i l k' n' y k2 ver' rZ hid hj;split at h
 case isFalse=>cases h
 rename_i hc;obtain⟨⟨rfl,rfl,rfl,rfl⟩,⟨rfl,rfl,rfl,rfl⟩,⟨rfl,hpos⟩,rfl,hlt⟩:=hc;cases h;have hne:j≠id:=fun e=>by rw[e,hid]at hj; cases hj
 obtain⟨i,dd,hi,hd,hs,ha⟩:=nl ht;simp only[ad]at hx;obtain⟨_,_,hlive⟩:=hx;obtain⟨b,m,e1,rfl⟩:=hlive ⟨_,hid,rfl⟩;have ho:=HE.obj id _ hid;simp only[a6]at ho;obtain⟨b0,m0,M,el,e2,hblk,e4,e5,e6,e7⟩:=ho;rw[e1]at e2;cases e2;have hv0:=hv;simp only[ad]at hv0;obtain⟨⟨aU,cap,rfl,_,_⟩,_,hv3⟩:=hv0;have hcells:(Value.slice aU rZ.length cap).cells=#[.slice aU rZ.length cap]:=rfl;have hfit:y.length+0+[Value.slice aU rZ.length cap].length<=M.size:=by
  have:M.toList.length=M.size:=oH;simp;omega
 have hst:=run_storeCells_at P b y.length el [Value.slice aU rZ.length cap] 0 M E.w hblk hfit (fun v hv=>by simp at hv; subst hv; rw[x9]; rfl);simp only[sU]at hst hfit;generalize hw':E.w.setRow b (M.toList.take y.length++[Value.slice aU rZ.length cap]++M.toList.drop (y.length+[Value.slice aU rZ.length cap].length)).toArray=w' at hst;have hsize':w'.heap.size=E.w.heap.size:=by rw[<-hw']; simp
 have henv:fl E.w w':=by rw[<-hw']; exact⟨rfl,rfl,rfl,by first|exact fun _=>aV _|exact fun _=>gI _ _⟩
 have hother:∀x,x≠b->w'.heap[x]?=E.w.heap[x]?:=by intro x hx; rw[<-hw']; grind[setRow_other]
 have hb':w'.heap[b]?=some (.cells (M.toList.take y.length++[Value.slice aU rZ.length cap]++M.toList.drop (y.length+[Value.slice aU rZ.length cap].length)).toArray el (0,0)):=by
  rw[<-hw']; grind[setRow_heap]
 have hcell:∀i,i<y.length->(M.toList.take y.length++[Value.slice aU rZ.length cap]++M.toList.drop (y.length+[Value.slice aU rZ.length cap].length))[i]?=M.toList[i]?:=fun i hi=>by
  rw[kl,fT (by simp at e6|-; omega),List.getElem?_take,iP hi]
 have hat:(M.toList.take y.length++[Value.slice aU rZ.length cap]++M.toList.drop (y.length+[Value.slice aU rZ.length cap].length))[y.length]?=some (.slice aU rZ.length cap):=by
  have hl:(M.toList.take y.length).length=y.length:=by
   rw[mg];omega
  rw[kl,lf ab,hl,oK];rfl
 have key:=aJ.xQ (w':=w') (r':=E.X.r) (o':=.cZ l k n' y) HE hid rfl rfl rfl (OM hsize'.symm) (fun x _ hx _=>hother x fun e=>by
   subst e;exact hx m e1) (fun _ _=>rfl) (fun _ _ _ hk=>.inl hk) (fun _ hk=>⟨hk,fun _ hq=>hq⟩) (fun hle=>by
  simp only[a6];refine⟨b,m,_,el,e1,hb',e4,e5,?_,fun U rws N O I=>?_⟩
  grind
  ·have I:(fo (E.X.r l))[U]?=some N:=I
   obtain⟨m2,p1,⟨c2,el2,p2,p3⟩,p4,p5,p6⟩:=e7 U rws N O I;obtain⟨hh,mc,hhh⟩:=te (gg I);have hbne:N≠b:=fun e=>HE.d_ id b m l hh mc e1 (by rw[<-e]; exact hhh);exact⟨m2,by simp only[]; rw[hcell U (bl O)]; exact p1,⟨c2,el2,by show w'.heap[N]?=_; rw[hother N hbne]; exact p2,p3⟩,p4,p5,iE (fun a _ hr=>bW hle a hr) (hother N hbne) p6⟩) henv (.inr ⟨rfl,[],(dY _).symm⟩)
 rw[XS.JD]at key;obtain⟨HE1,hle1⟩:=key;have hset:E.H.set id (.cZ l k n' y)=E.H:=by
  apply kg;intro a;rw[gh];split
  grind
  ·rfl
 rw[hset]at HE1 hle1;have hoj:=HE1.obj j _ hj;simp only[a6]at hoj;rcases hoj with⟨_,e⟩|⟨W,mj,f1,f2,f3,f4,f5⟩
 grind
 obtain⟨_,v5⟩:=hv3 ⟨_,hj,rfl⟩;obtain⟨_,o,v7,v8⟩:=v5 W mj f1;have:=v7 ab;rw[xB]at this;subst this;rw[iz]at v8;have hra:gp E.X.r l (some (W,mj)) l=E.X.r l++[some (some (W,mj))]:=iP rfl;have hlv:fo (gp E.X.r l (some (W,mj)) l)=fo (E.X.r l)++[W]:=by
  rw[hra,Bc];rfl
 have ho1:=HE1.obj id _ hid;simp only[a6]at ho1;have key2:=aJ.attach HE1 (o':=.cZ l k n' (y++[rZ])) hid rfl rfl rfl hj rfl f1 (fun hle=>?_) (.inr rfl)
 ·refine⟨w',?_,fun x=>⟨_,_,by simp[ad],key2.1,hle1.trans key2.2⟩⟩
  simp only[xC,oG,dN,ke,dZ,storeVar,Sem.run_sizeOf hi,hs,hcells]
  grind
 ·simp only[a6]
  refine⟨b,m,_,el,by rw[bL hne]; exact e1,hb',?_,bS,?_,fun U rws N O I=>?_⟩
  ·show (fo (gp E.X.r l (some (W,mj)) l)).length=_
   grind
  grind
  ·have I:(fo (gp E.X.r l (some (W,mj)) l))[U]?=some N:=I
   rw[hlv]at I;rw[jR]at O I;by_cases e:U<y.length
   ·rw[iP e]at O
    rw[iP ab]at I;obtain⟨m2,p1,⟨c2,el2,p2,p3⟩,p4,p5,p6⟩:=e7 U rws N O I;obtain⟨hh,mc,hhh⟩:=te (gg I);have hbne:N≠b:=fun e=>HE.d_ id b m l hh mc e1 (by rw[<-e]; exact hhh);exact⟨m2,by simp only[]; rw[hcell U e]; exact p1,⟨c2,el2,by show w'.heap[N]?=_; rw[hother N hbne]; exact p2,p3⟩,p4,p5,iE (fun a _ hr=>bW (hle1.trans hle) a hr) (hother N hbne) p6⟩
   ·rw[iN e]at O
    rw[iN ab,e4]at I;cases hk:U-y.length with
    |zero=>
     rw[hk]at O I;simp at O I;subst O I;have hi3:U=y.length:=ab;subst hi3;exact⟨mj,by simp only[]; rw[hat,v8],f2,f3,f4,iE (fun a _ hr=>bW hle a hr) rfl f5⟩
    |succ _=>grind
abbrev mv:=AV × (Option (List (List AV)) × Option (List (List AV))) × Nat
theorem abf(HE:aJ E)(d:E.H[id]? = some (.map [] cl))(v:mu E.H l=true):
  aJ { w:=E.w,H:=E.H.set id (.bU l w [] cl),ae:=E.ae,X:=E.X }/\E.le { w:=E.w,H:=E.H.set id (.bU l w [] cl),ae:=E.ae,X:=E.X }:=
 aJ.Bx HE d rfl rfl rfl (rS v) fun I=>by
  have ho:=HE.obj id _ d;simp only[a6]at ho|-;obtain⟨b,n,h,h1,N,k⟩:=ho;have M:h.toList=[]:=by
   have:=(fA.1 k).1
   grind
  refine⟨b,n,h,h1,N,iF (fun a _ hr=>bW I a hr) k,fun e he=>(by rw[M]at he; cases he),fun _ _=>0,fun s s' i j x y hi=>by simp at hi,fun s i x rZ e hi=>by simp at hi⟩
theorem P_(HE:aJ E){h:List mv}(k:E.H[id]? = some (.bU l w h cl))(hr:ad E (.map id) c):
  ∃b n d,c=.map (some b)/\E.ae[id]?=some (some (b,n))/\E.w.heap[b]?=some (.map d cl)/\bX E (gV h) d.toList/\qC E l w h d.toList:=by
 have ho:=HE.obj id _ k;simp only[a6]at ho;obtain⟨b,n,d,h1,y,I,M⟩:=ho;simp only[ad]at hr;obtain⟨_,_,v⟩:=hr;obtain⟨N,O,U,W⟩:=v ⟨_,k,rfl⟩
 grind
theorem P'{d:List mv}{x:mv}(h:d[i]?=some x):(gV d)[i]?=some (x.1,.undef,x.2.2):=by
 unfold gV;rw[dw,h];rfl
theorem Qa{d:List mv}{x y:mv}(hi:d[i]?=some x)(h1:y.1=x.1)(h:y.2.2=x.2.2):gV (d.set i y)=gV d:=by
 apply kg
 grind[gV]
def gq(s:Bool)(x:mv) (r:Option (List (List AV))):mv:=(x.1,(bif s then (x.2.1.1,r) else (r,x.2.1.2)),x.2.2)
theorem Qb(s:Bool)(x:mv) (r:Option (List (List AV))):(iS s (gq s x r)).2.1=r:=by cases s<;>rfl
theorem Qc{s s':Bool}(h:s'≠s)(x:mv) (r:Option (List (List AV))):(iS s' (gq s x r)).2.1=(iS s' x).2.1:=by
 cases s<;>cases s'<;>first|rfl|grind
theorem Qd(HE:aJ E){d:List mv}{x:mv}{s:Bool}{O:Array MapEntry}{U:MapEntry}(hid:E.H[id]? = some (.bU l w d cl))(hes:d[i]? = some x)(hsome:(iS s x).2.1=some rZ)
  (h1:E.ae[id]?=some (some (b,n))) (h2:E.w.heap[b]?=some (.map O cl)) (h3:bX E (gV d) O.toList) (h4:qC E l w d O.toList) (q4:O.toList[i]?=some U) :
  ∃loc' r',aJ { w:=E.w,H:=E.H.set id (.bU l w (d.set i (gq s x none)) cl)++[.vQ w 0 rZ],ae:=loc',X:=E.X.re r' }/\E.le { w:=E.w,H:=E.H.set id (.bU l w (d.set i (gq s x none)) cl)++[.vQ w 0 rZ],ae:=loc',X:=E.X.re r' } /\
   ad { w:=E.w,H:=E.H.set id (.bU l w (d.set i (gq s x none)) cl)++[.vQ w 0 rZ],ae:=loc',X:=E.X.re r' } (.vQ w E.H.length 0 0 rZ.length) (tf s U.val)/\loc'[id]?=some (some (b,n)):=by
 have hlenH:E.H.length=E.ae.length:=HE.len.symm;obtain⟨k00,W,k1,k2⟩:=h4;have hsl:=k2 s i x rZ U hes hsome q4;have hls:(iS s x).2.1.isSome=true:=by rw[hsome]; rfl
 obtain⟨k,h0,z1,z2,z3⟩:∃(k:Option (Nat × Nat)) (h0:Nat),(∀b m,k=some (b,m)->(E.X.r l)[h0]?=some (some (some (b,m)))) /\
   (∀s' (j:Nat) y,d[j]?=some y->(iS s' y).2.1.isSome=true->¬ (s'=s/\j=i)->∀b m,(E.X.r l)[W s' j]?=some (some (some (b,m)))->W s' j≠h0) /\
   ((k=none/\rZ=[]/\∃aU,tf s U.val=.slice aU 0 0)\/∃b m,k=some (b,m)/\tf s U.val=.slice (some ⟨b,0,none⟩) rZ.length m/\isRow E.w b (m*w)/\rZ.length<=m/\gn rZ/\dI E w rZ b 0):=by
  rcases hsl with⟨s1,s2⟩|⟨M,mm,s1,s2,s3,s4,s5,s6⟩
  ·exact⟨none,(E.X.r l).length,fun _ _ e=>(by cases e),fun s' j y _ _ _ b m hb e=>(by rw[e]at hb; have:=bl hb; omega),.inl ⟨rfl,s1,s2⟩⟩
  ·exact⟨some (M,mm),W s i,fun _ _ e=>(by cases e; exact s1),fun s' j y I hsy hne _ _ _ e=>hne (k1 s' s j i _ _ I hes hsy hls e),.inr ⟨M,mm,rfl,s2,s3,s4,s5,s6⟩⟩
 have old:∀s' (j:Nat) y,(d.set i (gq s x none))[j]?=some y->(iS s' y).2.1.isSome=true->∃N,d[j]?=some N/\(iS s' N).2.1=(iS s' y).2.1/\¬ (s'=s/\j=i):=fun s' j y I hsm=>by
  by_cases e:i=j
  ·subst e
   rw[cG (bl hes)]at I;cases I;by_cases e2:s'=s<;>grind[Qb,Qc]
  grind
 obtain⟨r1,r2⟩:=aJ.Fb HE (id:=id) (l0:=l) (h0:=h0) (o':=.bU l w (d.set i (gq s x none)) cl) (ov:=.vQ w 0 rZ) (q:=k) hid rfl rfl rfl rfl z1 fun hle=>by
  refine⟨?_,?_⟩
  ·simp only[a6]
   refine⟨b,n,O,?_,h2,?_,k00,W,fun s1 s2 a c y z I hz sy sz he=>?_,fun s1 a y rws e I hr he=>?_⟩
   grind
   grind[Qa,gq,iF,bW]
   ·obtain⟨N,o1,o2,_⟩:=old s1 a y I sy
    obtain⟨z0,o3,o4,_⟩:=old s2 c z hz sz
    grind
   ·obtain⟨N,o1,o2,o3⟩:=old s1 a y I (by rw[hr]; rfl)
    rcases k2 s1 a N rws e o1 (by rw[o2]; exact hr) he with hl|⟨M,mm,t1,t2,t3,t4,t5,t6⟩
    ·exact .inl hl
    ·refine .inr ⟨M,mm,?_,t2,t3,t4,t5,iE (fun a _ hr=>bW hle a hr) rfl t6⟩
     have hne:=z2 s1 a N o1 (by rw[o2,hr]; rfl) o3 M mm t1;show (jm E.X.r l h0 l)[W s1 a]?=_
     grind[Fa]
  grind[a6,iE,bW]
 refine⟨E.ae++[k],jm E.X.r l h0,r1,r2,?_,by rw[fT (bl h1)]; exact h1⟩;have hnew:(E.H.set id (.bU l w (d.set i (gq s x none)) cl)++[.vQ w 0 rZ])[E.H.length]?=some (.vQ w 0 rZ):=by
  rw[lf au];simp
 have hl:(E.ae++[k])[E.H.length]?=some k:=by rw[hlenH]; simp
 simp only[ad];rcases z3 with⟨rfl,s1,aU,s2⟩|⟨M,mm,rfl,s2,s3,s4,s5,s6⟩
 ·subst s1
  refine⟨⟨aU,0,by rw[s2]; rfl,aV _,fun h=>by simp at h⟩,⟨_,hnew,rfl,fun v hv=>by cases hv; exact aV _⟩,fun _=>⟨fun _=>⟨by first|rfl|trivial,by first|rfl|trivial,aU,s2⟩,fun b' m' hb'=>?_⟩⟩
  grind
 ·refine⟨⟨_,mm,s2,s4,fun _=>⟨M,0,rfl⟩⟩,⟨_,hnew,rfl,fun v hv=>by cases hv; exact aV _⟩,fun _=>⟨fun hb'=>?_,fun b' m' hb'=>?_⟩⟩<;>grind
def Bz(P:ak)(t:aK)(m k:AV)(H:List aj):Option (AV × List aj):=
 match eT P t,m with
 |some (h,v),.map id=>match H[id]? with
  |some (.bU l w d cl)=>match jT P h k,kK P v with
   |some y,some (.agg [.lit (.slice none 0 0),.lit (.slice none 0 0)])=>match fW P h y (gV d) 0 with
    |some (some (i,_))=>match d[i]? with
     |some (key,(some r0,some r1),n)=>some (.agg [.vQ w H.length 0 0 r0.length,.vQ w (H.length+1) 0 0 r1.length],H.set id (.bU l w (d.set i (key,(none,none),n)) cl)++[.vQ w 0 r0]++[.vQ w 0 r1])
     |_=>none
    |some none=>some (.agg [.vQ w H.length 0 0 0,.vQ w (H.length+1) 0 0 0],H++[.vQ w 0 []]++[.vQ w 0 []])
    |none=>none
   |_,_=>none
  |_=>none
 |_,_=>none
theorem abg(HE:aJ E)(h:Bz P t m k E.H=some (v,H'))(hm:ad E m c)(hk:ad E k d):
  ∃u w',(m_ t c d false).run P E.w=.ok u w'/\dP E v H' u w':=by
 unfold Bz at h;split at h
 case h_2=>cases h
 rename_i kt et id ht;split at h
 case h_2=>cases h
 rename_i l w N cl hid;split at h
 case h_2=>cases h
 rename_i kv hkv hz;obtain⟨b,n,ms,rfl,h1,h2,h3,h4⟩:=P_ HE hid hm;have hkv':=kr hkv hk;have e1:(getObj b).run P E.w=.ok (.map ms cl) E.w:=by simp[getObj,jA,h2]
 split at h
 ·rename_i i v0 hf
  split at h
  case h_2=>cases h
  rename_i key r0 r1 M hes;cases h;obtain⟨r',g1,W⟩:=jE hkv' E.w h3 hf;cases r' with
  |none=>simp[eE]at W
  |some q=>
   simp only[eE]at W;obtain⟨q1,q2,_,e',q4,q5⟩:=W;simp only[iz]at q4;have hval:q.2=e'.val:=q5.symm;obtain⟨va,vb,hab,ha1,hb1⟩:=h4.1 e' (gg q4);obtain⟨loc1,rr1,HE1,hle1,U,hl1⟩:=Qd (s:=false) (rZ:=r0) HE hid hes rfl h1 h2 h3 h4 q4;have hid1:({ w:=E.w,H:=E.H.set id (.bU l w (N.set i (gq false (key,(some r0,some r1),M) none)) cl)++[.vQ w 0 r0],ae:=loc1,X:=E.X.re rr1 }:ah).H[id]?=some (.bU l w (N.set i (gq false (key,(some r0,some r1),M) none)) cl):=by
    simp only[]
    grind
   have ho1:=HE1.obj id _ hid1;simp only[a6]at ho1;obtain⟨b2,n2,ms2,o1,o2,o3,o4⟩:=ho1;rw[hl1]at o1;simp only[bD,bM]at o1;obtain⟨rfl,rfl⟩:=o1;rw[h2]at o2;cases o2;obtain⟨od,rr2,HE2,O,I,_⟩:=Qd (s:=true) (rZ:=r1) HE1 hid1 (cG (bl hes)) rfl hl1 h2 o3 o4 q4;have hH:(E.H.set id (aj.bU l w (N.set i (gq false (key,(some r0,some r1),M) none)) cl)++[aj.vQ w 0 r0]).set id (aj.bU l w ((N.set i (gq false (key,(some r0,some r1),M) none)).set i (gq true (gq false (key,(some r0,some r1),M) none) none)) cl)++[aj.vQ w 0 r1] =
     E.H.set id (aj.bU l w (N.set i (key,(none,none),M)) cl)++[aj.vQ w 0 r0]++[aj.vQ w 0 r1]:=by
    rw[List.set_append_left _ _ (by rw[nV]; exact bl hid),rE,rE];rfl
   have hHl:(E.H.set id (aj.bU l w (N.set i (gq false (key,(some r0,some r1),M) none)) cl)++[aj.vQ w 0 r0]).length=E.H.length+1:=au;refine⟨q.2,E.w,?_,od,rr2,?_,?_,?_⟩
   ·simp only[m_,dN,Sem.bT (gW ht),dZ,e1,ke,iU hkv',g1]
    rfl
   ·rw[hval,hab]
    simp only[ad];rw[hab]at U I;have hva:tf false (.agg #[va,vb])=va:=rfl;have hvb:tf true (.agg #[va,vb])=vb:=rfl;rw[hva]at U;rw[hvb]at I;have hv1':=bW O _ U;simp only[hHl]at I;refine⟨_,rfl,fun y hy=>?_,?_⟩
    grind
    ·simp only[aw,and_true]
     rw[hH]at hv1' I;exact⟨hv1',I⟩
   ·rw[hH]at HE2
    exact HE2
   ·have:=hle1.trans O
    rw[hH]at this;exact this
 ·rename_i hf
  cases h;obtain⟨r',g1,W⟩:=jE hkv' E.w h3 hf;cases r' with
  |some _=>simp[eE]at W
  |none=>
   obtain⟨zv,z1,z2⟩:=vI hz E.w;have hzv:zv=.agg #[.slice none 0 0,.slice none 0 0]:=by
    have:=z2 E;simp only[ad]at this;obtain⟨cs,rfl,_,h⟩:=this;obtain⟨cl⟩:=cs
    match cl,h with
    |[a,c],h=>
     simp_all[aw,ad]
    |[],h=>simp[aw]at h
    |[_],h=>simp[aw]at h
    |_::_::_::_,h=>simp[aw]at h
   obtain⟨HE1,hle1,U⟩:=Ki HE w;obtain⟨HE2,O,I⟩:=Ki HE1 w;refine⟨zv,E.w,?_,E.ae++[none]++[none],E.X.r,?_,HE2,hle1.trans O⟩
   ·simp only[m_,dN,Sem.bT (gW ht),dZ,e1,ke,iU hkv',g1,z1]
    rfl
   ·rw[hzv]
    simp only[ad];refine⟨_,rfl,fun y hy=>by simp at hy; subst hy; rfl,?_⟩;simp only[aw,and_true];have hl:(E.H++[aj.vQ w 0 []]).length=E.H.length+1:=au;simp only[hl]at I;exact⟨bW O _ U,I⟩
 ·cases h
def BA(P:ak)(t:aK)(m k v:AV)(H:List aj):Option (List aj):=
 match eT P t,m,v with
 |some (M,_),.map id,.agg [.vQ w0 d v0 o0 n0,.vQ w1 h v1 o1 n1]=>match H[id]?,H[d]?,H[h]? with
  |some (.bU l w I cl),some (.vQ N O y),some (.vQ U W Ad)=>match jT P M k with
   |some kv=>if ((w0=w/\N=w)/\(w1=w/\U=w))/\((v0=O/\v1=W)/\(o0=0/\o1=0))/\(n0=y.length/\n1=Ad.length)/\(d≠h/\k.closed=true) then
     match fW P M kv (gV I) 0 with
     |some (some (i,_))=>some (((H.set id (.bU l w (I.modify i fun e=>(k,(some y,some Ad),e.2.2)) cl)).set d .dead).set h .dead)
     |some none=>some (((H.set id (.bU l w (I++[(k,(some y,some Ad),cl)]) (cl+1))).set d .dead).set h .dead)
     |none=>none
    else none
   |none=>none
  |_,_,_=>none
 |_,_,_=>none
theorem abh(HE:aJ E){es k:List mv}{d:Array MapEntry}(O:E.H[id]? = some (.bU l w es cl)) (v:E.ae[id]? = some (some (b,n)))
  (hb:E.w.heap[b]?=some (.map ms cl)) (hr:bX E (gV k) d.toList) (U:qC E l w k d.toList) :
  ∃w',(setObj b (.map d cl')).run P E.w=.ok () w'/\aJ { w:=w',H:=E.H.set id (.bU l w k cl'),ae:=E.ae,X:=E.X }/\E.le { w:=w',H:=E.H.set id (.bU l w k cl'),ae:=E.ae,X:=E.X } /\
   w'.heap[b]?=some (.map d cl')/\∀y,y≠b->w'.heap[y]?=E.w.heap[y]?:=by
 have W:=(HE.lt id b n v).1;have hsz:({ E.w with heap:=E.w.heap.setIfInBounds b (.map d cl') }:bh).heap.size=E.w.heap.size:=au;have I:∀y,y≠b->({ E.w with heap:=E.w.heap.setIfInBounds b (.map d cl') }:bh).heap[y]?=E.w.heap[y]?:=by
  intro y hy;simp only[Em]
  grind
 have key:=aJ.xQ (E:=E) (w':={ E.w with heap:=E.w.heap.setIfInBounds b (.map d cl') }) (o':=.bU l w k cl') (r':=E.X.r) HE O rfl rfl rfl (by rw[hsz]; exact aV _) (fun x _ hne _=>I x fun e=>hne n (by rw[e]; exact v)) (fun _ _=>rfl) (fun _ _ _ h=>.inl h) (fun h hh=>⟨hh,fun _ hq=>hq⟩) (fun M=>by
  simp only[a6];refine⟨b,n,d,v,by simp[W],iF (fun a _ hr=>bW M a hr) hr,EG (E:=E) (fun h g m N=>⟨N,I g fun e=>HE.d_ _ _ _ _ _ _ v (by rw[<-e]; exact N)⟩) (fun _ _ _ _ _ _ b' hb' _ hr=>iE (fun a _ hr=>bW M a hr) hb' hr) U⟩) ⟨rfl,rfl,rfl,by first|exact fun _=>aV _|exact fun _=>gI _ _⟩
 grind[XS.JD,setObj,jA]
theorem Qe(HE:aJ E){k:List mv}{x:mv}{s:Bool}{N:Array MapEntry}(hid:E.H[id]? = some (.bU l w k cl))(O:E.H[j]? = some (.vQ w aq rZ))
  (hi:k[i]?=some x) (hnone:(iS s x).2.1=none) (hloc:E.ae[id]?=some (some (b,n))) (hb:E.w.heap[b]?=some (.map N cl)) (he:N.toList[i]?=some e) (hr:bX E (gV k) N.toList) (hsl:qC E l w k N.toList) (hv:ad E (.vQ w j aq 0 rZ.length) (tf s e.val)) :
  ∃loc' r',aJ { w:=E.w,H:=(E.H.set id (.bU l w (k.set i (gq s x (some rZ))) cl)).set j .dead,ae:=loc',X:=E.X.re r' }/\E.le { w:=E.w,H:=(E.H.set id (.bU l w (k.set i (gq s x (some rZ))) cl)).set j .dead,ae:=loc',X:=E.X.re r' }/\loc'[id]?=some (some (b,n)):=by
 have hne:j≠id:=fun e=>by rw[e,hid]at O; cases O
 have hoj:=HE.obj j _ O;simp only[ad]at hv;obtain⟨_,_,v3⟩:=hv;obtain⟨v4,v5⟩:=v3 ⟨_,O,rfl⟩;simp only[a6]at hoj;obtain⟨q,hq⟩:∃q,E.ae[j]?=some q:=by
  rcases hoj with⟨h1,_⟩|⟨b',m',h1,_⟩
  ·exact⟨_,h1⟩
  ·exact⟨_,h1⟩
 obtain⟨k00,hs,k1,k2⟩:=hsl;have htl:∀h,h<(E.X.r l).length->(gp E.X.r l q l)[h]?=(E.X.r l)[h]?:=fun h v=>(Kc v).2;have hnew:(gp E.X.r l q l)[(E.X.r l).length]?=some (some q):=by
  unfold gp;rw[iP rfl];simp
 have hlocid:(E.ae.set j none)[id]?=some (some (b,n)):=by rw[bL hne]; exact hloc
 obtain⟨r1,r2⟩:=aJ.attach HE (id:=id) (j:=j) (o':=.bU l w (k.set i (gq s x (some rZ))) cl) (q:=q) hid rfl rfl rfl O rfl hq fun hle=>by
  simp only[a6];refine⟨b,n,N,hlocid,hb,by rw[Qa (y:=gq s x (some rZ)) hi rfl rfl]; exact iF (fun a _ hr=>bW hle a hr) hr,k00,?_⟩;have old:∀s' (a:Nat) y,(k.set i (gq s x (some rZ)))[a]?=some y->(iS s' y).2.1.isSome=true->¬ (s'=s/\a=i)->∃M,k[a]?=some M/\(iS s' M).2.1=(iS s' y).2.1:=fun s' a y d hsm hne=>by
   by_cases e:i=a
   ·subst e
    rw[cG (bl hi)]at d;cases d;by_cases e2:s'=s
    ·exact(hne ⟨e2,rfl⟩).elim
    ·exact⟨x,hi,(Qc e2 x _).symm⟩
   ·rw[bL e]at d
    exact⟨y,d,rfl⟩
  have at_i:∀y,(k.set i (gq s x (some rZ)))[i]?=some y->y=gq s x (some rZ):=fun y d=>by
   rw[cG (bl hi)]at d;cases d;rfl
  refine⟨fun s' a=>if s'=s/\a=i then (E.X.r l).length else if hs s' a<(E.X.r l).length then hs s' a else (E.X.r l).length+1+hs s' a,fun s1 s2 a c y z d hz sy sz v=>?_,fun s1 a y rws e' d W he'=>?_⟩
  ·by_cases I:s1=s/\a=i
   ·by_cases U:s2=s/\c=i
    grind
    ·simp only[iP I,iN U]at v
     grind
   ·by_cases U:s2=s/\c=i
    ·simp only[iN I,iP U]at v
     grind
    ·simp only[iN I,iN U]at v
     obtain⟨M,o1,o2⟩:=old s1 a y d sy I;obtain⟨z0,o3,o4⟩:=old s2 c z hz sz U;refine k1 s1 s2 a c M z0 o1 o3 (by rw[o2]; exact sy) (by rw[o4]; exact sz) ?_;split at v<;>split at v<;>omega
  ·by_cases I:s1=s/\a=i
   ·obtain⟨rfl,rfl⟩:=I
    have:=at_i y d;subst this;rw[Qb]at W;cases W;rw[he]at he';cases he';rcases hoj with⟨h1,h2⟩|⟨b',m',h1,h2,h3,h4,h5⟩
    ·obtain⟨_,_,aU,h3⟩:=v4 h1
     subst h2;exact .inl ⟨rfl,aU,h3⟩
    ·obtain⟨h6,o,h7,h8⟩:=v5 b' m' h1
     rw[hq]at h1;cases h1;simp only[dj,xB,iz]at h6 h7 h8;by_cases hm:0<m'
     ·have:=h7 hm
      subst this;refine .inr ⟨b',m',?_,h8,h2,h3,h4,iE (fun a _ hr=>bW hle a hr) rfl h5⟩;simp only[and_self,if_true];exact hnew
     ·have hr0:rZ=[]:=A2 ab
      have hm0:m'=0:=ab;subst hr0;subst hm0;exact .inl ⟨rfl,_,h8⟩
   ·obtain⟨M,o1,o2⟩:=old s1 a y d (by rw[W]; rfl) I
    rcases k2 s1 a M rws e' o1 (by rw[o2]; exact W) he' with hl|⟨bb,mm,s1',s2,s3,s4,s5,s6⟩
    ·exact .inl hl
    ·refine .inr ⟨bb,mm,?_,s2,s3,s4,s5,iE (fun a _ hr=>bW hle a hr) rfl s6⟩
     have v:=bl s1';simp only[iN I,iP v];show (gp E.X.r l q l)[hs s1 a]?=_
     grind
 grind
theorem Qf(HE:aJ E){k v W v1:Nat}{es d:List mv}{h Ad:List (List AV)}{y:Array MapEntry}{u0 u1:ar}
  (N:E.H[id]?=some (.bU l w es cl)) (O:E.H[k]?=some (.vQ w W h)) (U:E.H[v]?=some (.vQ w v1 Ad)) (hne:k≠v) (M:E.ae[id]?=some (some (b,n)))
  (hb:E.w.heap[b]?=some (.map ms cl)) (hr:bX E (gV d) y.toList) (hsl:qC E l w d y.toList) (hi:d[i]?=some (key,(none,none),bn)) (he:y.toList[i]?=some e) (hval:e.val=.agg #[u0,u1])
  (hv0:ad E (.vQ w k W 0 h.length) u0) (hv1:ad E (.vQ w v v1 0 Ad.length) u1) :
  ∃w',(setObj b (.map y cl')).run P E.w=.ok () w'/\∀x,dP E .undef (((E.H.set id (.bU l w (d.set i (key,(some h,some Ad),bn)) cl')).set k .dead).set v .dead) x w':=by
 have hn0:k≠id:=fun e=>by rw[e,N]at O; cases O
 have hn1:v≠id:=fun e=>by rw[e,N]at U; cases U
 obtain⟨w',p1,p2,p3,I,p5⟩:=abh (P:=P) HE (cl':=cl') N M hb hr hsl;have hidE:({ w:=w',H:=E.H.set id (.bU l w d cl'),ae:=E.ae,X:=E.X }:ah).H[id]?=some (.bU l w d cl'):=by
  simp only[]
  grind
 have hobj:=p2.obj id _ hidE;simp only[a6]at hobj;obtain⟨b2,n2,ms2,o1,o2,o3,o4⟩:=hobj;rw[M]at o1;simp only[bD,bM]at o1;obtain⟨rfl,rfl⟩:=o1;rw[I]at o2;cases o2;obtain⟨loc1,r1,q1,q2,q3⟩:=Qe (s:=false) (rZ:=h) (j:=k) (aq:=W) p2 hidE (by simp only[]; rw[bL (Ne.symm hn0)]; exact O) hi rfl M I he o3 o4 (by rw[hval]; exact bW p3 _ hv0);have hidE1:({ w:=w',H:=((E.H.set id (.bU l w d cl')).set id (.bU l w (d.set i (gq false (key,(none,none),bn) (some h))) cl')).set k .dead,ae:=loc1,X:=E.X.re r1 }:ah).H[id]?=some (.bU l w (d.set i (gq false (key,(none,none),bn) (some h))) cl'):=by
  simp only[]
  grind
 have hobj1:=q1.obj id _ hidE1;simp only[a6]at hobj1;obtain⟨b3,n3,ms3,o5,o6,o7,o8⟩:=hobj1;rw[q3]at o5;simp only[bD,bM]at o5;obtain⟨rfl,rfl⟩:=o5;rw[I]at o6;cases o6;obtain⟨od,r2,q4,q5,_⟩:=Qe (s:=true) (rZ:=Ad) (j:=v) (aq:=v1) q1 hidE1 (by
   simp only[];rw[bL hne,bL (Ne.symm hn1),bL (Ne.symm hn1)];exact U) (cG (bl hi)) rfl q3 I he o7 o8 (by rw[hval]; exact bW (p3.trans q2) _ hv1)
 refine⟨w',p1,fun x=>⟨od,r2,by simp[ad],?_,p3.trans (q2.trans ?_)⟩⟩
 all_goals
  have hH:((((E.H.set id (.bU l w d cl')).set id (.bU l w (d.set i (gq false (key,(none,none),bn) (some h))) cl')).set k .dead).set id (.bU l w ((d.set i (gq false (key,(none,none),bn) (some h))).set i (gq true (gq false (key,(none,none),bn) (some h)) (some Ad))) cl')).set v .dead =
    ((E.H.set id (.bU l w (d.set i (key,(some h,some Ad),bn)) cl')).set k .dead).set v .dead:=by
   rw[rE,s8 _ _ hn0,rE,rE];rfl
 simp_all
 simp_all
theorem abi(HE:aJ E)(h:BA P t m k v E.H=some H')(hm:ad E m c)(hk:ad E k d)(hv:ad E v u):
  ∃w',(oJ t c d u).run P E.w=.ok () w'/\∀x,dP E .undef H' x w':=by
 unfold BA at h;split at h
 case h_2=>cases h
 rename_i kt et id w0 j0 v0 o0 n0 w1 j1 v1 o1 n1 ht;split at h
 case h_2=>cases h
 rename_i l w M cl w0' v0' rows0 w1' v1' Ad hid hj0 hj1;split at h
 case h_2=>cases h
 rename_i kv hkv;split at h
 case isFalse=>cases h
 rename_i hc;obtain⟨⟨⟨rfl,rfl⟩,⟨rfl,rfl⟩⟩,⟨⟨rfl,rfl⟩,⟨rfl,rfl⟩⟩,⟨rfl,rfl⟩,hne,hcl⟩:=hc;obtain⟨b,n,W,rfl,h1,h2,h3,h4⟩:=P_ HE hid hm;have hkv':=kr hkv hk;have e1:(getObj b).run P E.w=.ok (.map W cl) E.w:=by simp[getObj,jA,h2]
 obtain⟨hlen,hall⟩:=fA.1 h3;rw[Z4]at hlen;obtain⟨O,u1,rfl,hu0,hu1,ho0,ho1⟩:∃O u1,u=.agg #[O,u1]/\ad E (.vQ w1' j0 v0 0 rows0.length) O/\ad E (.vQ w1' j1 v1 0 Ad.length) u1/\eW O=true/\eW u1=true:=by
  rw[ad]at hv;obtain⟨cs,rfl,ho,h⟩:=hv;obtain⟨cl⟩:=cs
  match cl,h,ho with
  |[a,c],h,ho=>
   simp only[aw,and_true]at h
   grind
  |[],h,_=>simp[aw]at h
  |[_],h,_=>simp[aw]at h
  |_::_::_::_,h,_=>simp[aw]at h
 split at h
 ·rename_i i v0 hf
  cases h;obtain⟨r',g1,g2⟩:=jE hkv' E.w h3 hf;cases r' with
  |none=>simp[eE]at g2
  |some q=>
   simp only[eE]at g2;obtain⟨q1,q2,_,e',q4,q5⟩:=g2;obtain⟨_,x,y,f1,f2,f3⟩:=yc hf;simp only[iz]at q4 f1;obtain⟨a1,a2,a3,a4,a5⟩:=hall i x e' f1 q4;obtain⟨s1,s2⟩:=Br hkv' (kr f2 a1) f3;have q4':W[i]?=some e':=gB;have hlt:i<M.length:=by have:=bl q4; omega
   obtain⟨U,hx0⟩:∃U,M[i]?=some U:=⟨M[i],cB hlt⟩
   have hx:x=(U.1,.undef,U.2.2):=by rw[P' hx0]at f1; cases f1; rfl
   have hre:bX E (gV (M.set i (k,(none,none),U.2.2))) (W.modify i fun e=>{ e with key:=d,val:=.agg #[O,u1] }).toList:=by
    rw[fA];refine⟨by simp[gV,hlen],fun a y z I N=>?_⟩;simp only[nc,kI]at N;obtain⟨z0,hz0,rfl⟩:=gj.1 N;unfold gV at I;rw[dw,gh]at I;by_cases e:i=a
    ·subst e
     rw[iP rfl,iP hlt]at I;cases I
     simp_all[ad]
    grind[gV]
   have hsl2:qC E l w1' (M.set i (k,(none,none),U.2.2)) (W.modify i fun e=>{ e with key:=d,val:=.agg #[O,u1] }).toList:=by
    obtain⟨k00,hs,k1,k2⟩:=h4;have old:∀s (a:Nat) y,(M.set i (k,((none:Option (List (List AV))),(none:Option (List (List AV)))),U.2.2))[a]?=some y->(iS s y).2.1.isSome=true->M[a]?=some y/\a≠i:=fun s a y I hsm=>by
     by_cases ei:i=a
     ·subst ei
      rw[cG hlt]at I;cases I;cases s<;>cases hsm
     grind
    refine⟨fun e he=>?_,hs,fun s s' a c y z I N sy sz he=>k1 s s' a c y z (old s a y I sy).1 (old s' c z N sz).1 sy sz he,fun s a y rws e I hr he=>?_⟩
    ·obtain⟨a,ha,hea⟩:=pK he
     have N:(W.modify i fun e=>{ e with key:=d,val:=.agg #[O,u1] }).toList[a]?=some e:=gB;simp only[nc,kI]at N;obtain⟨z0,hz0,rfl⟩:=gj.1 N;by_cases e:i=a
     grind
     ·simp only[iN e]
      exact k00 z0 (gg hz0)
    grind
   have hst:(sZ e'.key d).run P E.w=.ok d E.w:=by simp[sZ,s2]
   obtain⟨w',p1,p2⟩:=Qf (P:=P) HE (cl':=cl) (i:=i) (key:=k) (bn:=U.2.2) (e:={ e' with key:=d,val:=.agg #[O,u1] }) hid hj0 hj1 hne h1 h2 hre hsl2 (cG hlt) (by
    simp only[nc,kI,q4];simp) rfl hu0 hu1
   refine⟨w',?_,fun xx=>?_⟩
   ·subst q1
    simp only[oJ,dN,Sem.bT (gW ht),dZ,e1,iU hkv',g1,q4',ki,rD,hst];exact p1
   ·have hm:M.modify i (fun e=>(k,(some rows0,some Ad),e.2.2))=(M.set i (k,(none,none),U.2.2)).set i (k,(some rows0,some Ad),U.2.2):=by
     rw[rE];apply kg;intro j;rw[kI,gh];by_cases e:i=j
     grind
     grind
    grind
 ·rename_i hf
  cases h;obtain⟨r',g1,g2⟩:=jE hkv' E.w h3 hf;cases r' with
  |some _=>simp[eE]at g2
  |none=>
   have hml:W.toList.length=M.length:=ab;have hre:bX E (gV (M++[(k,(none,none),cl)])) (W.push { key:=d,val:=.agg #[O,u1],born:=cl }).toList:=by
    rw[fA];refine⟨by simp[gV,hlen],fun a y z I N=>?_⟩;unfold gV at I;rw[kj]at I;simp only[vl,jR,cP]at I N;rw[hml]at N;by_cases e:a<M.length
    grind[gV]
    ·simp only[iN e]at I N
     cases hj2:a-M.length with
     |zero=>
      rw[hj2]at I N;simp at I N;subst I; subst N;exact⟨hk,by simp[ad],rfl,hcl,rfl⟩
     |succ _=>grind
   have hsl2:qC E l w1' (M++[(k,(none,none),cl)]) (W.push { key:=d,val:=.agg #[O,u1],born:=cl }).toList:=by
    obtain⟨k00,hs,k1,k2⟩:=h4;have old:∀s (a:Nat) y,(M++[(k,((none:Option (List (List AV))),(none:Option (List (List AV)))),cl)])[a]?=some y->(iS s y).2.1.isSome=true->M[a]?=some y/\a<M.length:=fun s a y I hsm=>by
     rw[jR]at I;split at I
     grind
     ·cases hk2:a - M.length with
      |zero=>
       rw[hk2]at I;simp at I;subst I;cases s<;>cases hsm
      |succ _=>grind
    refine⟨fun e he=>?_,hs,fun s s' a c y z I N sy sz he=>k1 s s' a c y z (old s a y I sy).1 (old s' c z N sz).1 sy sz he,fun s a y rws e I hr he=>?_⟩
    grind
    grind
   obtain⟨w',p1,p2⟩:=Qf (P:=P) HE (cl':=cl+1) (i:=M.length) (key:=k) (bn:=cl) (e:={ key:=d,val:=.agg #[O,u1],born:=cl }) hid hj0 hj1 hne h1 h2 hre hsl2 au (by
    simp only[vl];rw[lf ab];simp[hml]) rfl hu0 hu1
   refine⟨w',?_,fun xx=>?_⟩
   ·simp only[oJ,dN,Sem.bT (gW ht),dZ,e1,iU hkv',g1]
    exact p1
   grind
 ·cases h
end Go.AL
