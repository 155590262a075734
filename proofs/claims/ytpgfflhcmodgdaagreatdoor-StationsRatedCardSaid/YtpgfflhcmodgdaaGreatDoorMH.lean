/-
 What is proved here: the library's sort of a slice by a function that compares,as a function on data (by the kit's own contracts). No program in sight; what is asked is that the library's text lies in the program.
-/
import Derived.Test.YtpgfflhcmodgdaaGreatDoorMG
import Derived.Shelf.SlSortCmp.NoneTotal
set_option linter.all false
open Array renaming getElem?_modify->OF,range->kH,size_range->ZL,getElem?_append_left->ZM
open Go renaming World->bh
open Go.Proofs renaming sortWorldK->Eu
open Go.Sort renaming grow->xK,mapBlock->vq,putRowK->OW,putRow->Ev,ahead->vr
open List renaming getElem?_eq_getElem->cB,getD_eq_getElem?_getD->dc,getElem?_map->dw,ext_getElem?->kg,range->fm
open List.cons renaming injEq->Jd
open Nat renaming zero_le->fy,mul_comm->asl
open Option.some renaming injEq->bD
namespace Go.AL
open Go Go.Proofs
variable [Dr]
theorem Cz:∀(ks:List Kd) (r:LG),(ff ks r).length=ks.length
 |[],_=>rfl
 |_::ks,r=>by simp[ff,Cz ks]
def aey:∀(k:Kd) (g:G),eW (tN k g)=true/\(tN k g).oneCell'=true
 |.int _,_=>⟨rfl,rfl⟩
 |.str,_=>⟨rfl,rfl⟩
 |.bool,_=>⟨rfl,rfl⟩
 |.list _,_=>⟨rfl,rfl⟩
theorem GF:∀(ks:List Kd) (r:LG),∀ v∈ff ks r,eW v=true/\v.oneCell'=true
 |[],_,v,h=>by simp[ff]at h
 |k::ks,r,v,h=>by
  simp only[ff,List.mem_cons]at h;rcases h with rfl|h
  ·exact aey _ _
  ·exact GF ks r.tail v h
def CA{E:ah}:∀{ks:List Kd} {r:LG} {d:List Value},Kd.dB ks=true->(aw E (aY ks r) d↔d=ff ks r)
 |[],r,[],_=>by simp[aY,aw,ff]
 |[],r,_::_,_=>by simp[aY,aw,ff]
 |_::_,r,[],_=>by simp[aY,aw,ff]
 |.list _::_,_,_::_,h=>by simp[Kd.dB]at h
 |.int k::ks,r,v::d,h=>by
  simp only[Kd.dB]at h;simp only[aY,aw,CA (ks:=ks) h,ff,oN,tN,ad,Jd]
 |.str::ks,r,v::d,h=>by
  simp only[Kd.dB]at h;simp only[aY,aw,CA (ks:=ks) h,ff,oN,tN,ad,Jd]
 |.bool::ks,r,v::d,h=>by
  simp only[Kd.dB]at h;simp only[aY,aw,CA (ks:=ks) h,ff,oN,tN,ad,Jd]
variable {E:ah} {b:Nat} {rZ:LL} {C:LG->Option LG}
theorem SD{ks:List Kd}(r:LG)(h:Kd.dB ks=true):aw E (aY ks r) (ff ks r):=(CA h).2 rfl
theorem SE{ks:List Kd}{r:LG}{o:Nat}(k:Kd.dB ks=true)(h:dz E (aY ks r) b o):∀c,c<ks.length->E.w.cell? ⟨b,o+c,none⟩=some (ff ks r)[c]!:=by
 obtain⟨y,h1,_,v⟩:=Bh h;have e:=(CA k).1 h1;subst e;intro c d;refine v c _ ?_;rw[cB (by rw[Cz]; exact d),getElem!_pos _ c (by rw[Cz]; exact d)]
theorem aez{w w':bh}(h:@Ext rJ w w'):∃q os,w'=xK (w.drewN q) os:=by
 obtain⟨h1,I,k,v,y,d⟩:=h;have d:=d rfl;refine⟨w'.drawn-w.drawn,w'.heap.extract w.heap.size w'.heap.size,?_⟩;cases w with
 |mk hp tp dr os ou=>
  cases w' with
  |mk M N O U W=>
   simp only at h1 I k v y d;subst k v y;simp only[xK,World.drewN,World.mk.injEq,eq_self,true_and,and_true]
   grind
def bare(w:bh):ah:={ w:=w,H:=[],ae:=[],X:=⟨fun _=>False,fun _=>False,fK⟩ }
theorem aeA(w:bh)(v:vz (bare w)):aJ (bare w):=⟨rfl,fun i j b m n h=>by simp[bare]at h,fun i b m h=>by simp[bare]at h,fun b h=>h.elim,fun i o h=>by simp[bare]at h,v,fun l k l' y b m n d=>by simp[bare,fK]at d,fun i b m l k n hi=>by simp[bare]at hi,fun l k b m d=>by simp[bare,fK]at d,fun i j o o' l hi=>by simp[bare]at hi,fun l _ k q d=>by simp[bare,fK]at d⟩
theorem aeB{P:Program}{g:FuncId}{args:List AV}{n:Int} (h:@fL rJ P g args [] (.lit (.int .i64 n)) []) {cs:Array Value} (w:bh) (d:vz (bare w)) (hr:aw (bare w) args cs.toList) :
  Calls P g cs w fun e w'=>e=.returned (.int .i64 n)/\∃q os,w'=xK (w.drewN q) os:=by
 refine(h (bare w) cs rfl (aeA w d) hr).mono ?_;rintro e w' ⟨c,v,H',rfl,⟨rfl,rfl⟩,O,U,h1,W,y⟩;simp only[ad]at h1;subst h1;cases y with
 |mk _ I M _ _ _ _ N=>
 refine⟨rfl,aez (@Ext.mk rJ _ _ I (fun b hb=>M b hb ?_) N)⟩;rintro(⟨i,c,hi⟩|⟨l,k,c,hk⟩)<;>simp_all[bare,fK]
def CB(C:LG->Option LG)(r s:LG):Int:=(gi ((C [.l [r],.l [s]]).getD []) 0).iV
def jv(rZ:LL)(i:Nat):LG:=rZ.getD i (rZ.headD [])
theorem CC(h:rZ≠[])(i:Nat):jv rZ i∈rZ:=by
 unfold jv;rw[dc];cases hi:rZ[i]? with
 |some x=>grind
 |none=>
  cases rZ with
  |nil=>grind
  |cons x l=>simp
abbrev qW(C:LG->Option LG)(rZ:LL)(i j:Nat):Int:=CB C (jv rZ i) (jv rZ j)
structure wM (C:LG->Option LG) (rZ:LL):Prop where
 ans:∀r∈rZ,∀s∈rZ,∃n,C [.l [r],.l [s]]=some [.i n]
 swo:Go.Sort.SWO (ltOf (qW C rZ))
 small:rZ.length<4611686018427387904
noncomputable def qX(C:LG->Option LG)(rZ:LL):Array Nat:=Go.Sort.pdq (ltOf (qW C rZ)) (kH rZ.length) 0 (kH rZ.length).size (Lib.bitLen (kH rZ.length).size) true true
noncomputable def wN(C:LG->Option LG)(rZ:LL):LL:=(qX C rZ).toList.map (jv rZ)
open Classical in
noncomputable def wO(C:LG->Option LG)(d:LG):Option LG:=
 if (gi d 0).rZ=[] then some [.l []] else if wM C (gi d 0).rZ then some [.l (wN C (gi d 0).rZ)] else none
theorem GG(h:wM C rZ):Go.Sort.PermIn 0 (kH rZ.length).size (kH rZ.length) (qX C rZ)/\Go.Sort.SortedIn (ltOf (qW C rZ)) 0 (kH rZ.length).size (qX C rZ):=
 Go.Sort.pdq_sorts _ h.swo _ 0 _ _ true true (fy _) (Nat.le_refl _) (Or.inl rfl)
theorem aeD(h:wM C rZ):(qX C rZ).toList.Perm (fm rZ.length):=by
 have:=(GG h).1.2.2;have e:=(GG h).1.1;simp only[ZL]at this e;rw[show (qX C rZ).extract 0 rZ.length=qX C rZ by grind,show (kH rZ.length).extract 0 rZ.length=kH rZ.length by simp]at this
 grind
theorem SF(h:wM C rZ):(qX C rZ).size=rZ.length:=by
 have:=(GG h).1.1
 grind
theorem aeE(rZ:LL):(fm rZ.length).map (jv rZ)=rZ:=by
 apply kg;intro i;rw[dw];by_cases h:i<rZ.length<;>simp_all[jv]
theorem SG(h:wM C rZ):(wN C rZ).Perm rZ:=by
 have:=(aeD h).map (jv rZ);rw[aeE]at this;exact this
theorem aeF(h:wM C rZ):(wN C rZ).Pairwise fun a b=>¬ CB C b a<0:=by
 unfold wN;rw[List.pairwise_map,List.pairwise_iff_getElem];intro i j hi d k;have:=(GG h).2 i j (fy _) k (by rw[ZL,<-SF h]; simpa using d);simp only[Array.length_toList]at hi d;rw[getElem!_pos _ i hi,getElem!_pos _ j d]at this;simpa[ltOf,qW]using this
section
variable {P:Program} {ρ:Go.Shelf.Ren}
theorem aeG{K:List Kd}{m:Nat}(I:Kd.dB K=true)(y:isRow E.w b (m*K.length)) (hr:dI E K.length (rZ.map (aY K)) b 0) (d:Array Nat) (v:d.size=rZ.length) (hi:∀ i,i<rZ.length->d[i]! = i):
  Go.Sort.HoldsK (fun i=>ff K (jv rZ i)) K.length E.w b 0 d:=by
 intro t k;rw[Go.Sort.size_flatK,v]at k;have M:0<K.length:=by
  rcases Nat.eq_zero_or_pos K.length with h|h
  grind
  ·exact h
 have hq:t / K.length<rZ.length:=Nat.div_lt_of_lt_mul (by rw[asl]; exact k);rw[Go.Sort.get_flatK _ _ _ _ (by rw[v]; exact k),hi _ hq];have N:(rZ.map (aY K))[t / K.length]?=some (aY K (jv rZ (t / K.length))):=by
  rw[dw,cB hq]
  grind[jv]
 have:=SE I (oQ hr N).2 (t%K.length) (Nat.mod_lt _ M);refine⟨?_,?_⟩
 simp_all[asl,Nat.div_add_mod]
 ·obtain⟨cs,O,h1,_⟩:=y
  simp[World.frozen?,h1]
theorem aeH{w:bh}{d:Nat}{f:Array Value->Array Value}{x:Nat}(h:x≠d):(vq w d f).heap[x]?=w.heap[x]?:=by
 simp[vq,OF,Ne.symm h]
theorem SH(HE:aJ E){K:List Kd}{rows':LL}{m:Nat}(hs:Kd.dB K=true) (hH:E.H=[.vQ K.length 0 (rZ.map (aY K))]) (k:E.ae[0]? = some (some (b,m))) (hrow:isRow E.w b (m*K.length))
  (hr:dI E K.length (rZ.map (aY K)) b 0) (hm:rows'.length<=m) {w':bh} (I:E.w.heap.size<=w'.heap.size) (hsame:∀x,x<E.w.heap.size->x≠b->w'.heap[x]?=E.w.heap[x]?) (hrow':isRow w' b (m*K.length))
  (hcells:∀i c,i<rows'.length->c<K.length->w'.cell? ⟨b,i*K.length+c,none⟩=some (ff K (rows'.getD i []))[c]!) (M:fl E.w w') :
  dP E (.tuple []) [.vQ K.length 0 (rows'.map (aY K))] (.tuple #[]) w':=by
 have h0:E.H[0]?=some (aj.vQ K.length 0 (rZ.map (aY K))):=by rw[hH]; rfl
 have U:∀x,x<E.w.heap.size->(∀n,E.ae[0]?≠some (some (x,n)))->w'.heap[x]?=E.w.heap[x]?:=fun x y hn=>hsame x y fun e=>hn m (by rw[k,e]);have eset:E.H.set 0 (aj.vQ K.length 0 (rows'.map (aY K)))=[.vQ K.length 0 (rows'.map (aY K))]:=by rw[hH]; rfl
 have N:E.ae.set 0 (some (b,m))=E.ae:=by
  apply kg;intro i;rw[List.getElem?_set];split
  grind
  ·rfl
 have O:(∀v,(aj.vQ K.length 0 (rows'.map (aY K))).aX=some v->(aj.vQ K.length 0 (rZ.map (aY K))).aX=some v/\E.ae[0]?=some (some (b,m))):=fun v d=>⟨d,k⟩
 have W:∀v u,(aj.vQ K.length 0 (rows'.map (aY K))).aX=some v->(aj.vQ K.length 0 (rZ.map (aY K))).aX=some u->u<=v:=fun v u d hu=>by
  simp only[aj.aX,bD]at d hu;omega
 have hle:=ah.ng (E:=E) (w':=w') (id:=0) (o:=.vQ K.length 0 (rZ.map (aY K))) (o':=.vQ K.length 0 (rows'.map (aY K))) (l:=some (b,m)) h0 HE.len I U (fun b' n' e=>.inr ⟨m,by cases e; exact k⟩) (.inl O) W (fun _ h=>by simp[aj.aX]at h) M;have hobj:a6 { w:=w',H:=E.H.set 0 (aj.vQ K.length 0 (rows'.map (aY K))),ae:=E.ae.set 0 (some (b,m)),X:=E.X } 0 (.vQ K.length 0 (rows'.map (aY K))):=by
  simp only[a6];refine .inr ⟨b,m,by rw[N]; exact k,hrow',by simpa using hm,?_,?_⟩
  ·intro r hr
   grind[iR]
  ·rw[pS]
   intro i r hi;rw[dw]at hi;cases y:rows'[i]? with
   |none=>grind
   |some x=>
    rw[y]at hi;cases hi;refine⟨vw _ _,?_⟩;rw[lL];intro c a ha;have hc:c<K.length:=by have:=bl ha; rwa [vw]at this
    have hlt:=bl y;have hget:rows'.getD i []=x:=by rw[dc,y]; rfl
    have d:(ff K x)[c]?=some (ff K x)[c]!:=by grind[Cz]
    refine⟨(ff K x)[c]!,?_,(GF K x _ (List.mem_of_getElem? d)).1,?_⟩
    grind
    ·exact(rK.1 (SD x hs)).2 c a _ ha d
 have hH':=aJ.oP HE h0 I U (fun b' n' e=>.inr ⟨m,by cases e; exact k⟩) (.inl O) W (fun _ h=>by simp[aj.aX]at h) hobj M;rw[eset,N]at hle hH';exact⟨E.ae,E.X.r,by simp[ad,aw],hH',hle⟩
theorem SI(L:SlLaysF0.n6 P ρ)(K:List Kd)(hs:Kd.dB K=true) (aE:∀ w,(isAgg (ρ.t 24)).run P w=.ok true w) (zE:∀ w,(Go.sizeOf (ρ.t 24)).run P w=.ok K.length w) (g:FuncId) (hg:gr P g=true)
  (C:LG->Option LG) (hC:∀d r,C d=some r->@fL rJ P g (iK [] [.s (.row K),.s (.row K)] d) [] (fc (iK [] [.s (.int .i64)] r)) []) (d r:LG) (h:wO C d=some r) :
  fL P (ρ.f 6) (iK (cY [.vQ K 0] d) [.s (.vQ 0 K.length),.s (.fn g)] (fM 1 d)) (ay (dL (cY [.vQ K 0] d) [.vQ K 0] d)) (fc []) (ay (dL (cY [.vQ K 0] r) [.vQ K 0] r)):=by
 have e1:gi d 0=d.headD default:=rfl;intro E cargs hH HE N;simp only[iK,tZ,gF,cY,dL,gO,ay,List.map_cons,List.map_nil,ax.ao,eU.aq,eU.len,List.getD_cons_zero,<-e1]at hH N;obtain⟨cs⟩:=cargs
 match cs,N with
 |[c0,c1],N=>
 simp only[aw,and_true]at N;obtain⟨h0,h1⟩:=N;simp only[ad]at h1;obtain⟨U,rfl,hcb⟩:=h1;have hcb:U=#[]:=by
  obtain⟨U⟩:=U;cases U with
  |nil=>rfl
  |cons x l=>simp[aw]at hcb
 subst hcb;simp only[ad]at h0;obtain⟨⟨aU,cap,rfl,hcap,hbase⟩,_,hlive⟩:=h0;have hl0:E.H[0]?=some (aj.vQ K.length 0 ((gi d 0).rZ.map (aY K))):=by rw[hH]; rfl
 obtain⟨hn,hv⟩:=hlive ⟨_,hl0,rfl⟩;unfold wO at h;split at h
 ·rename_i I
  cases h;have hH':E.H=[aj.vQ K.length 0 []]:=by rw[hH,I]; rfl
  rw[I];refine(AnyF.slices_SortFunc_none L aU cap _ E.w).mono ?_;rintro e w' ⟨rfl,rfl⟩;refine⟨_,.tuple [],[aj.vQ K.length 0 []],rfl,⟨rfl,rfl⟩,E.ae,E.X.r,by simp[ad,aw],?_,?_⟩
  ·rw[<- hH']
   exact HE
  ·rw[<- hH']
   exact ah.le.refl E
 ·rename_i I
  split at h
  case isFalse=>cases h
  rename_i O;cases h;have hpos:0<(gi d 0).rZ.length:=List.length_pos_iff.2 I;rcases HE.obj 0 _ hl0 with⟨_,e2⟩|⟨b,m,W,hrow,hm,hcl,hr⟩
  grind
  obtain⟨_,o,ho,hc⟩:=hv b m W;have hmm:(gi d 0).rZ.length<=m:=ab;have ho:o=0:=by have:=ho ab; omega
  subst ho;generalize hrs:(gi d 0).rZ=rZ at *;rw[hc];have M:(kH rZ.length).size=rZ.length:=ZL;have hdi:∀i,i<rZ.length->(kH rZ.length)[i]! =i:=fun i hi=>by rw[getElem!_pos _ i (by rw[M]; exact hi)]; simp
  have hH0:=aeG hs hrow hr (kH rZ.length) M hdi;have hblk:b<E.w.heap.size:=(HE.lt 0 b m W).1;have hcmp:CmpLays P g #[] (fun i=>ff K (jv rZ i)) K.length (qW C rZ) b 0 (kH rZ.length).size E.w:=by
   intro mm os dk _ x y;obtain⟨n,hn⟩:=O.ans _ (CC I x) _ (CC I y);have:=hC _ _ hn;simp only[iK,tZ,gF,fM,Sh.sz,gN.sz,List.headD_cons,List.tail_cons,fc,G.rV,G.rZ,G.iV]at this;have e:qW C rZ x y=n:=by
    simp only[qW,CB,hn];rfl
   rw[e];have ht:vz (bare (Eu (fun i=>ff K (jv rZ i)) K.length E.w b 0 mm dk os)):=fun p hp=>by
    obtain⟨h1,t,f,h2⟩:=HE.iT p hp;have hne:p.1≠b:=fun e=>h1.2.1 (.inl ⟨0,m,by rw[e]; exact W⟩);have hsame:(Eu (fun i=>ff K (jv rZ i)) K.length E.w b 0 mm dk os).heap[p.1]?=E.w.heap[p.1]?:=by
     unfold Eu OW Ev xK;simp only[];rw[ZM (by simpa[vq,vr]using h1.1),aeH hne];rfl
    refine⟨⟨(Array.getElem?_eq_some_iff.1 (hsame.trans h2)).1,?_,fun h=>h⟩,t,f,by rw[<-h2]; exact hsame⟩;rintro(⟨i,c,hi⟩|⟨l,k,c,hk⟩)<;>simp_all[bare,fK]
   exact aeB this _ ht (by
    simp only[aw,ad,and_true,Array.toList_append,List.append_nil]
    grind[GF,SD])
  have:=AnyQ.slices_SortFunc_eq L K.length aE zE (fun i=>ff K (jv rZ i)) (fun x=>Cz _ _) (fun x v hv=>(GF K _ v hv).2) (qW C rZ) O.swo g #[] b 0 (m-0) (kH rZ.length) E.w
   (fun args w=>Kt hg args w) hcmp hH0 hblk (by rw[M]; exact O.small)
  rw[M]at this;refine this.mono ?_;rintro e w' ⟨rfl,n,os,rfl⟩;refine⟨_,.tuple [],_,rfl,⟨rfl,rfl⟩,?_⟩;have eN:Go.Sort.pdq (ltOf (qW C rZ)) (kH rZ.length) 0 rZ.length (Lib.bitLen rZ.length) true true=qX C rZ:=by
   unfold qX;rw[M]
  rw[eN];have hsz:=SF O;have hlen:(wN C rZ).length=rZ.length:=(SG O).length_eq;have hh:=holdsK_sortWorldK_c (fun i=>ff K (jv rZ i)) K.length E.w b 0 (kH rZ.length) (qX C rZ) n os hH0 hblk (by rw[hsz,M]);refine SH (rows':=wN C rZ) HE hs hH W hrow hr (by rw[hlen]; exact hmm) ?_ ?_ ?_ ?_ ?_
  simp_all[Eu,OW]
  grind[Eu,OW,Ev,xK,vq,vr]
  ·obtain⟨cs,el,g1,g2⟩:=hrow
   unfold Eu OW Ev xK;unfold isRow;simp only[];rw[ZM (by simpa[vq,vr]using hblk)];simp only[vq,vr,OF,if_true,g1,Option.map_some];exact⟨_,_,rfl,by simp[Go.Sort.putCells,g2]⟩
  ·intro i c hi hc
   rw[hlen]at hi;have:=(hh.cell (i:=i) (c:=c) (by rw[hsz]; exact hi) hc).1;rw[Nat.zero_add]at this
   grind[wN]
  ·exact⟨rfl,rfl,rfl,fun _=>Nat.le_add_right _ _⟩
end
end Go.AL
