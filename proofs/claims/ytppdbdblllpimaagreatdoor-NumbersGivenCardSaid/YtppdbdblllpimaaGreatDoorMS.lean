/-
 What is proved here: two lists of deeds as one,on both sides. No condition.
-/
import Derived.Test.YtppdbdblllpimaaGreatDoorMF
set_option linter.all false
open Bool renaming and_true→dU,and_eq_true→ay,true_and→jj,not_eq_true'→ka,or_eq_true→jC,false_or→gJ,eq_iff_iff→g_,false_and→Kz,true_or→KI,or_eq_false_iff→akq,not_eq_true→UW
open Classical renaming byContradiction→Ku
open Int renaming toNat_natCast→aH,add_zero→akr,zero_add→UU
open List renaming length_cons→cF,length_map→bu,mem_map→bR,getElem?_map→cy,all_eq_true→ep,getElem?_eq_getElem→bA,getD_eq_getElem?_getD→cG,mem_cons→bC,map_cons→dK,foldl_cons→kK,length_take→fZ,length_append→eY,mem_append→bV,map_map→gG,nil_append→mI,mem_cons_self→cJ,mem_cons_of_mem→bS,map_append→fm,map_congr_left→pg,nodup_cons→kg,mem_singleton→iz,length_nil→gK,map_nil→pj,length→pk,getElem_of_mem→zB,not_mem_nil→jD,mem_filter→gk,filter_cons→s8,pairwise_map→qP,pairwise_iff_getElem→KD,mem_map_of_mem→KF,nodup_iff_pairwise_ne→qR,pairwise_cons→kO,any_cons→tb,nodup_append→zJ,mergeSort_perm→KJ,pairwise_mergeSort→UR,filter_append→po,length_filter_le→pq,take_length→jl,find?_eq_none→KK,find?_append→ako,any_eq_false→KL,foldl_append→pr,perm_ext_iff_of_nodup→US,contains_cons→UT,count_le_length→KM,filter_nil→DU,count_eq_zero→vS,contains_iff_mem→jm,intercalate→UX,count_pos_iff→qS,take_succ_eq_append_getElem→aks,count_append→akt,count_nil→KO,count_cons_self→aku
open List.Pairwise renaming imp→akn
open List.Sublist renaming refl→ak2
open Nat renaming le_refl→aI,le_trans→nJ,zero_add→dJ,add_zero→j9,beq→ab,ble→db,blt→eZ,blt_eq→iA,lt_succ_of_lt→mN,lt_succ_self→DP,beq_refl→zF,ble_eq_true_of_le→KN
open Option renaming getD_some→j_,or_none→akp
open Option.some renaming inj→nT
open Prod.mk renaming injEq→be
namespace Go.Proofs.gT
open Go Go.AL Go.Proofs
noncomputable section
theorem JR(r s:List G):fJ r s=fI (d_ (gi r 2).int (gi s 2).int) (fI (di (gi r 0).str (gi s 0).str) (d_ (gi r 1).int (gi s 1).int)):=by
 unfold fJ fI;by_cases h:(gi r 2).int=(gi s 2).int
 ·have e : d_ (gi r 2).int (gi s 2).int = 0 := by rw [h]; simp [d_]
  simp[h,e,d_]
 ·have := (S7 (a := (gi r 2).int) (b := (gi s 2).int)).2 h
  simp[h,this]
theorem ahY(r s:List G):fJ s r = - fJ r s:=by
 rw[JR,JR];exact vu (jZ.flip _ _) (vu (fU.flip _ _) (jZ.flip _ _))
theorem vz{a b:List G}:dT a b=true↔(gi a 0).str=(gi b 0).str∧(gi a 1).int=(gi b 1).int:=by
 unfold dT;rw[ay,beq_iff_eq,beq_iff_eq];constructor
 ·rintro ⟨h1, d⟩
  have:=sC (gi a 0).str (gi b 0).str;rw[h1,beq_self_eq_true]at this;exact⟨fU.eq _ _ (by simpa using this.symm),d⟩
 ·rintro ⟨h1, d⟩
  rw[h1];exact⟨rfl,d⟩
theorem ahZ{a b:List G}(h:fJ a b=0):dT a b=true:=by
 rw[JR]at h;unfold fI at h;split at h
 ·rename_i h1; exact(h1 h).elim
 ·split at h
  ·rename_i h1; exact(h1 h).elim
  ·rename_i d
   exact vz.2 ⟨fU.eq _ _ (by simpa using d),jZ.eq _ _ h⟩
def oS(l:List (List G)):Prop:=l.Pairwise fun a b=>dT a b=false
theorem kF.apart{rows:List (List G)}(h:kF rows rows.length):oS rows:=by
 unfold oS;rw[KD];intro i j hi d g;have:=h j d i g;rw[cG,cG,bA hi,bA d]at this;exact this
theorem oS.inj{l:List (List G)}(h:oS l):∀ a∈l,∀ b∈l,dT a b=true→a=b:=by
 intro a g b k e;refine GV (f:=fun r:List G=>((gi r 0).str,(gi r 1).int)) (akn ?_ h) a g b k ?_
 ·intro x y d he
  rw[(vz (a:=x) (b:=y)).2 ⟨congrArg Prod.fst he,congrArg Prod.snd he⟩]at d;cases d
 ·obtain ⟨h1, q⟩ := vz.1 e
  exact Prod.ext h1 q
theorem oS.zero{l:List (List G)}(h:oS l):∀ a∈l,∀ b∈l,bU fJ a b=false→bU fJ b a=false→a=b:=by
 intro a g b k h1 d;unfold bU at h1 d;rw[dG,decide_eq_false_iff_not]at h1 d;have:=ahY a b;exact h.inj a g b k (ahZ (by omega))
theorem oS.sort{l:List (List G)}(h:oS l):oS (eU (bU fJ) l):=(nB (lt:=bU fJ) l).symm.pairwise h (fun e=>by rw[JN]; exact e)
theorem ah0{out:List (List G)}{x:List G}(h:(out.find? fun o=>dT o x)=none):∀ o∈out,dT o x=false:=fun o d=>by
 have:=KK.1 h o d;simpa using this
def zD:List G:=[.s (⟨#[]⟩:ByteArray),.i 0,.i 0,.i 0,.i 0,.i 0,.s (⟨#[]⟩:ByteArray),.s (⟨#[]⟩:ByteArray),.i 0,.i 0,.s (⟨#[]⟩:ByteArray),.s (⟨#[]⟩:ByteArray),.s (⟨#[]⟩:ByteArray),.s (⟨#[]⟩:ByteArray),.i 0]
def yW(m out:List (List G)):Prop:=∀ r,aV r→bp bk m (aR bk r)=(out.find? fun o=>dT o r).isSome∧∀ o,(out.find? fun o=>dT o r)=some o→bZ bk m (aR bk r) zD=o
theorem yW.nil:yW [] []:=fun r _=>⟨rfl,fun o h=>by cases h⟩
theorem yW.put{m out:List (List G)}{x:List G}(h:yW m out)(d:aV x)(hn:(out.find? fun o=>dT o x)=none)(c:Nat):yW (bK bk m (aR bk x) (aR ak x) c) (out++[x]):=fun r hr=>by
 obtain⟨h1,F⟩:=h r hr;rw[qm,nz,S8 hr d,JN r x,ako];cases hs:dT x r with
 | true =>
  have A:(out.find? fun o=>dT o r)=none:=KK.2 fun o I B=>by
   have g:=vz.1 hs;have k:=vz.1 B;have q:=ah0 hn o I;rw[vz.2 ⟨k.1.trans g.1.symm,k.2.trans g.2.symm⟩]at q;cases q
  rw[A];simp[hs,d.eta]
 | false =>
  simp only[gJ,cond_false];have e:([x].find? fun o=>dT o r)=none:=by simp[hs]
  rw[e,akp];exact⟨h1,F⟩
theorem ah1(l:List (List G))(a:Int)(q:0≤a)(k:a≤1000000):aa (B5 [.l l,.i a]) fun g=>∃ v:Int,g=[.l l,.i (a+1),.i v] ∧ -1≤v∧v≤100:=by
 unfold B5
 (dsimp +instances only[Aa,Ab,Ac,Ad,Ae,Af,Ag])
 refine aa.call (JC (fun v => -1≤v∧v≤100) l a _ q k (by simp) (by simp) (by
  intro x d;simp only[bC,jD,or_false]at d;rcases d with rfl|rfl|rfl|rfl|rfl|rfl|rfl|rfl<;>exact⟨by decide,by decide⟩)) ?_
 rintro _ ⟨v,rfl,h1,A⟩;exact aa.some ⟨v,rfl,h1,A⟩
theorem ah2(t:Int):CA [.i t]=some [.i (bif cq t 0 345686399999 then 0 else 1)]:=by
 unfold CA sk
 (dsimp +instances only[Aa,Ab,Ac,Ad,Ae,Af,Ag])
 simp only[JE,xl rfl]
 (dsimp +instances only[Aa,Ab,Ac,Ad,Ae,Af,Ag])
 cases cq t 0 345686399999<;>rfl
def je(rows:List (List G))(t:Int):Int:=bif j6 rows != 0 then j6 rows else bif cq t 0 345686399999 then 0 else 1
theorem JS(rows:List (List G))(t:Int)(hr:∀ z∈rows,aV z)(hn:rows.length≤20):uX [.l rows,.i t]=some [.i (je rows t)]:=by
 refine aa.toEq ?_;unfold uX je
 (dsimp +instances only[Aa,Ab,Ac,Ad,Ae,Af,Ag])
 refine aa.cE (ahS rows hr hn).1 ?_
 (dsimp +instances only[Aa,Ab,Ac,Ad,Ae,Af,Ag])
 cases j6 rows != 0 with
 |true=>exact aa.pos rfl (aa.some rfl)
 | false =>
  refine aa.neg rfl ?_;refine aa.cE (S6 t) ?_
  (dsimp +instances only[Aa,Ab,Ac,Ad,Ae,Af,Ag])
  cases cq t 0 345686399999<;>exact⟨_,rfl,rfl⟩
theorem ah3(x y:Int):CB [.l [[.i x],[.i y]]]=some [.i (bif x != 0 then x else y)]:=by
 refine aa.toEq ?_;unfold CB
 (dsimp +instances only[Aa,Ab,Ac,Ad,Ae,Af,Ag])
 have key:cD yo [.l [[.i x],[.i y]],.i 2,.i 0] 3 fun c g=>(c=0∧g=[.i (bif x != 0 then x else y)])∨c=1∧(bif x != 0 then x else y)=0:=by
  by_cases d:x=0
  ·subst d
   refine cD.next (d1:=[.l [[.i 0],[.i y]],.i 2,.i 1]) rfl ?_
   by_cases k:y=0
   ·subst k
    refine cD.next (d1:=[.l [[.i 0],[.i 0]],.i 2,.i 2]) rfl ?_
    exact cD.stop (x:=1) (d':=[]) rfl (.inr ⟨rfl,rfl⟩)
   ·refine cD.stop (x := 0) (d' := [.i y]) (aa.toEq ?_) (.inl ⟨rfl, rfl⟩)
    unfold yo
    (dsimp +instances only[Aa,Ab,Ac,Ad,Ae,Af,Ag])
    refine aa.pos rfl (aa.pos rfl (aa.pos (show (y != 0)=true from by simpa using k) (aa.some rfl)))
  ·have e:(bif x != 0 then x else y)=x:=by
    have:(x != 0)=true:=by simpa using d
    rw[this];rfl
   rw[e];refine cD.stop (x:=0) (d':=[.i x]) (aa.toEq ?_) (.inl ⟨rfl,rfl⟩);unfold yo
   (dsimp +instances only[Aa,Ab,Ac,Ad,Ae,Af,Ag])
   refine aa.pos rfl (aa.pos rfl (aa.pos (show (x != 0)=true from by simpa using d) (aa.some rfl)))
 refine aa.loop (key.to (by omega)) rfl ?_;rintro c g (⟨rfl,rfl⟩|⟨rfl,h⟩)
 ·exact aa.some rfl
 ·exact aa.some (by rw[h])
def aD(r:List G):List G:=[.i (gi r 4).int,.i (gi r 5).int,.s (gi r 6).str,.s (gi r 7).str,.i (gi r 8).int,.i (gi r 9).int,.s (gi r 10).str,.s (gi r 11).str]
theorem aV.mB{r:List G}(h:aV r):iL (aD r):=by
 obtain⟨_,_,_,_,t,m,b,c,s,h,x,y,_,_,_,rfl,_,_,_,_,⟨p1,d,g,k,q,A,B,F⟩,_⟩:=h;exact⟨t,m,b,c,s,h,x,y,rfl,p1,d,q,A,g,k,B,F⟩
def iw(r s:List G):Int:=eH (aD r) (aD s)
theorem Dh(r s:List G):eH r s=fI (d_ (gi r 0).int (gi s 0).int) (fI (di (gi r 3).str (gi s 3).str) (fI (di (gi r 2).str (gi s 2).str) (d_ (gi r 1).int (gi s 1).int))):=rfl
theorem Di(r s:List G):eH s r = - eH r s:=by
 rw[Dh,Dh];exact vu (jZ.flip _ _) (vu (fU.flip _ _) (vu (fU.flip _ _) (jZ.flip _ _)))
theorem Tg(a b d:List G)(h1:eH a b≤0)(g:eH b d≤0):eH a d≤0:=by
 rw[Dh]at *;exact Db jZ _ _ _ _ _ _ h1 g fun g1 g2=>Db fU _ _ _ _ _ _ g1 g2 fun k q=>Db fU _ _ _ _ _ _ k q fun m1 m2=>jZ.le _ _ _ m1 m2
theorem ah4:fu (bU eH) (fun _=>True):=JG (fun a b=>Di a b) Tg
theorem ah5:fu (bU iw) (fun _=>True):=JG (fun a b=>Di _ _) (fun a b d=>Tg _ _ _)
theorem sG{r s:List G}:eH r s=0↔(gi r 0).int=(gi s 0).int∧(gi r 3).str=(gi s 3).str∧(gi r 2).str=(gi s 2).str∧(gi r 1).int=(gi s 1).int:=by
 have z2:∀ a b:Int,fI a b=0↔a=0∧b=0:=fun a b=>by
  unfold fI;by_cases h:a=0<;>simp[h]
 rw[Dh,z2,z2,z2];constructor
 ·rintro ⟨h1, d, g, k⟩
  exact⟨jZ.eq _ _ h1,fU.eq _ _ d,fU.eq _ _ g,jZ.eq _ _ k⟩
 ·rintro ⟨h1, d, g, k⟩
  rw[h1,d,g,k];exact⟨jZ.refl _,fU.refl _,fU.refl _,jZ.refl _⟩
theorem Th{α β:Type}(f:α→β){lt:α→α→Bool}{d:β→β→Bool}(h:∀ a b,d (f a) (f b)=lt a b)(x:α):∀ p:List α,fH d (f x) (p.map f)=(fH lt x p).map f
 | []=>rfl
 | y::p=>by
  simp only[fH,dK,h];cases lt x y with
  |true=>simp only[cond_true,dK,Th f h x p]
  |false=>rfl
theorem Ti{α β:Type}(f:α→β){lt:α→α→Bool}{d:β→β→Bool}(h:∀ a b,d (f a) (f b)=lt a b):∀ r p:List α,iK d (p.map f) (r.map f)=(iK lt p r).map f
 | [],p=>rfl
 | x::r,p=>by
  simp only[iK,dK,Th f h];exact Ti f h r (fH lt x p)
theorem ah6{α β:Type}(f:α→β){lt:α→α→Bool}{d:β→β→Bool}(h:∀ a b,d (f a) (f b)=lt a b)(l:List α):eU d (l.map f)=(eU lt l).map f:=by
 unfold eU;have:=Ti f h l [];rw[pj]at this;rw[this,List.map_reverse]
def vA(rows n:List (List G)):Prop:=∀ z∈n,∃ j:Nat,z=[.i (j:Int)]∧j<rows.length
theorem sH(t:Int)(rows:List (List G)):vA rows (cA t 0 rows):=fun z d=>by
 obtain⟨j,e,_,h⟩:=JO d;exact⟨j,e,by omega⟩
def fV(rows:List (List G))(z:List G):List G:=rows.getD (gi z 0).int.toNat []
def lJ(g:List (List G))(d:List G):Bool:=g.any fun o=>iw o d==0
def sI(rows:List (List G))(s:List (List G) × List (List G))(z:List G):List (List G) × List (List G) :=
 bif (gi (fV rows z) 3).int != 1 then s else bif lJ s.1 (fV rows z) then (s.1,s.2++[z]) else (s.1++[fV rows z],s.2)
def eo(rows n:List (List G)):List (List G) × List (List G):=n.foldl (sI rows) ([],[])
structure jf (rows:List (List G)) (k:Nat) (s:List (List G) × List (List G)):Prop where
 mem:∀ d∈s.1,d∈rows∧(gi d 3).int=1
 idx:vA rows s.2
 apart:s.1.Pairwise fun a b=>iw a b≠0
 sJ:s.1.length≤k
 JT:s.2.length≤k
theorem jf.nil(rows:List (List G)):jf rows 0 ([],[]):=⟨by simp,fun z d=>by simp at d,by simp,by simp,by simp⟩
theorem jf.step{rows:List (List G)}{k:Nat}{s:List (List G) × List (List G)}(h:jf rows k s){z:List G}(g:∃ j:Nat,z=[.i (j:Int)]∧j<rows.length):jf rows (k+1) (sI rows s z):=by
 obtain⟨j,rfl,A⟩:=g;have B:fV rows [.i (j:Int)]∈rows:=kC A;unfold sI;generalize fV rows [.i (j:Int)]=d at B;have h1:=h.sJ;have N:=h.JT;cases J:(gi d 3).int != 1 with
 |true=>exact⟨h.mem,h.idx,h.apart,by simp only[cond_true]; omega,by simp only[cond_true]; omega⟩
 | false =>
  cases F:lJ s.1 d with
  | true =>
   refine⟨h.mem,fun z g=>?_,h.apart,by simp only[cond_true,cond_false]; omega,by simp only[cond_true,cond_false]; simp; omega⟩;simp only[cond_true,cond_false,bV,iz]at g;rcases g with g|rfl
   ·exact h.idx z g
   ·exact⟨j,rfl,A⟩
  | false =>
   refine⟨fun o q=>?_,h.idx,?_,by simp only[cond_false]; simp; omega,by simp only[cond_false]; omega⟩
   ·simp only [cond_false, bV, iz] at q
    rcases q with q|rfl
    ·exact h.mem o q
    ·exact⟨B,by simpa using J⟩
   ·simp only [cond_false]
    rw[List.pairwise_append];refine⟨h.apart,by simp,fun a M b I=>?_⟩;simp only[iz]at I;subst I;unfold lJ at F;have:=KL.1 F a M;simpa using this
theorem Dj{rows n:List (List G)}(hn:vA rows n):∀ i,i≤n.length→jf rows i (eo rows (n.take i))
 |0,_=>by rw[List.take_zero]; exact jf.nil rows
 | i+1,hi=>by
  have d:i<n.length:=hi;have g:=Dj hn i (by omega);have e:n.take (i+1)=n.take i++[n.getD i []]:=Oe d;rw[e];unfold eo at g⊢;rw[pr];exact g.step (hn _ (kC d))
theorem yX{rows n:List (List G)}(hn:vA rows n):jf rows n.length (eo rows n):=by
 have:=Dj hn n.length (aI _)
 rwa [jl]at this
theorem jf.Dk{rows:List (List G)}{k:Nat}{s:List (List G) × List (List G)}(h:jf rows k s)(hr:∀ z∈rows,aV z):∀ d∈s.1,aV d:=fun d g=>hr d (h.mem d g).1
theorem jf.zero{rows:List (List G)}{k:Nat}{s:List (List G) × List (List G)}(h:jf rows k s):∀ a∈s.1,∀ b∈s.1,bU iw a b=false→bU iw b a=false→a=b:=by
 intro a q b A h1 d;unfold bU at h1 d;rw[dG,decide_eq_false_iff_not]at h1 d;have B:iw a b=0:=by
  have:=Di (aD a) (aD b);unfold iw at *;omega
 refine GV (f:=fun r:List G=>((gi r 4).int,(gi r 7).str,(gi r 6).str,(gi r 5).int)) (akn ?_ h.apart) a q b A ?_
 ·intro x y g he
  refine g (sG.2 ?_);simp only[be]at he;exact he
 ·have := sG.1 B
  simp only[be];exact this
theorem ah7{r s:List G}(hr:aV r)(hs:aV s):yu [.l [r],.l [s]]=some [.t (iw r s==0)]:=by
 refine aa.toEq ?_;unfold yu
 (dsimp +instances only[Aa,Ab,Ac,Ad,Ae,Af,Ag])
 refine aa.cE (SP hr.mB hs.mB) ?_;exact aa.some rfl
theorem ah8{r s:List G}(hr:aV r)(hs:aV s):sn [.l [r],.l [s]]=some [.i (iw r s)]:=by
 refine aa.toEq ?_;unfold sn
 (dsimp +instances only[Aa,Ab,Ac,Ad,Ae,Af,Ag])
 refine aa.cE (SP hr.mB hs.mB) ?_;exact aa.some rfl
theorem ah9:ly ak sn aV iw:=⟨fun _ _ hr hs=>ah8 hr hs,fun _ h=>h.eta⟩
theorem ah_{d:List G}(k:aV d):GP ak yu (fun g=>.l [aR ak g.row]) (.l [d]) aV (fun o=>iw o d==0) :=
 ⟨fun _ q=>ah7 q k,fun _ h=>h.eta,by rw[Ac,k.eta]⟩
theorem ah'(k:List (List G)){d:List G}(B:∀ z∈k,aV z)(q:aV d)(hn:k.length<100000):CH [.l k,.l [d]]=some [.t (lJ k d)]:=by
 refine aa.toEq ?_;unfold CH
 (dsimp +instances only[Aa,Ab,Ac,Ad,Ae,Af,Ag])
 rw[q.eta];refine aa.call (P:=fun g=>g=[.i (gi g 0).int]∧bM 0 (gi g 0).int=lJ k d) ?_ ?_
 ·refine aa.mono (Zr (Z := zD) (ah_ q) k B hn : aa (IQ [.l k, .l [d]]) _) ?_
  rintro g (⟨M,x,N,h1,O,F,rfl⟩|⟨h,rfl⟩)
  ·refine ⟨rfl, ?_⟩
   unfold lJ;rw[h1];simp[eD,F,Aa,Ae]
  ·refine ⟨rfl, ?_⟩
   have:lJ k d=false:=by
    unfold lJ;rw[KL];intro y I;rw[h y I];simp
   rw[this];rfl
 ·rintro g ⟨J, A⟩
  rw[J]at A⊢
  (dsimp +instances only[Aa,Ab,Ac,Ad,Ae,Af,Ag])
  exact aa.some (by rw[←A]; rfl)
theorem aia(rows n:List (List G))(hr:∀ z∈rows,aV z)(hn:vA rows n)(W:n.length≤1000) :
  fw yw [.l [],.l [],.l rows,.l n,.i (n.length:Int),.i 0] fun c g=>g=[.l (eo rows n).1,.l (eo rows n).2]:=by
 refine(iq (σ:=List (List G) × List (List G)) (fun s i=>[.l s.1,.l s.2,.l rows,.l n,.i (n.length:Int),.i (i:Int)]) n (fun s=>(0,[.l s.1,.l s.2])) (fun s i=>s=eo rows (n.take i)) ([],[]) (by omega) rfl ?_ ?_).mono ?_
 ·rintro s i z q hi O hm R
  have A:=Dj hn i (by omega);rw[←q]at A;obtain⟨j,e,U⟩:=hn z hm;have k:eo rows (n.take (i+1))=sI rows s z:=by
   rw[R,q];unfold eo;rw[pr];rfl
  subst e;have B:=hr _ (kC U);have J:fV rows [.i (j:Int)]=rows.getD j []:=rfl;unfold sI at k;rw[J]at k;generalize M:rows.getD j []=d at B k;have N:=A.Dk hr;have h1:=A.sJ;have Y:=A.JT;unfold yw
  (dsimp +instances only[Aa,Ab,Ac,Ad,Ae,Af,Ag])
  simp only[aH,O]
  (dsimp +instances only[Aa,Ab,Ac,Ad,Ae,Af,Ag])
  simp only[aH,M,B.eta];refine aa.p (aa.p (aa.p ?_));cases F:(gi d 3).int != 1 with
  | true =>
   rw[F]at k;exact aa.pos rfl (aa.p (aa.pos (by simp) (aa.some ⟨s,rfl,k.symm⟩)))
  | false =>
   rw[F]at k;refine aa.neg rfl (aa.gS (aa.eq (ah' s.1 N B (by omega))) (by simp) ?_);rintro _ rfl
   (dsimp +instances only[Aa,Ab,Ac,Ad,Ae,Af,Ag])
   cases I:lJ s.1 d with
   | true =>
    rw[I]at k;exact aa.pos rfl (aa.pos (by simp only[sl]; simp; omega) (aa.p (aa.pos (by simp) (aa.some ⟨(s.1,s.2++[([.i (j:Int)]:List G)]),rfl,k.symm⟩))))
   | false =>
    rw[I]at k;exact aa.neg rfl (aa.pos (by simp only[sl]; simp; omega) (aa.p (aa.pos (by simp) (aa.some ⟨(s.1++[d],s.2),rfl,k.symm⟩))))
 ·rintro s _
  unfold yw
  (dsimp +instances only[Aa,Ab,Ac,Ad,Ae,Af,Ag])
  exact aa.n (aa.pos (by simp) (aa.some rfl))
 ·rintro c g ⟨s, q, rfl, rfl⟩
  rw[jl]at q;rw[q]
def sK(d:List (List G)):List (List G):=eU (bU iw) d
theorem Dl(d:List (List G)):(sK d).length=d.length:=oG _ _
def ct(rows:List (List G))(t:Int):List (List G):=(cA t 0 rows).map (fV rows)
section
variable (rows:List (List G)) (t:Int) (hr:∀ z∈rows,aV z) (hn:rows.length≤20) (aL:j0 rows)
include hr hn aL
theorem Tj:vg [.l rows,.i t]=some [.l (sK (eo rows (cA t 0 rows)).1),.l (eo rows (cA t 0 rows)).2]:=by
 have g:=sH t rows;have q:=oR t 0 rows;have d:=yX g;have h1:=d.sJ;refine aa.toEq ?_;unfold vg
 (dsimp +instances only[Aa,Ab,Ac,Ad,Ae,Af,Ag])
 refine aa.cE (Tf rows t hr (by omega) (fun k hk=>aL.1.2 k hk)) ?_
 (dsimp +instances only[Aa,Ab,Ac,Ad,Ae,Af,Ag])
 refine aa.loop (aia rows (cA t 0 rows) hr g (by omega)) (by simp) ?_;rintro _ _ rfl
 (dsimp +instances only[Aa,Ab,Ac,Ad,Ae,Af,Ag])
 refine aa.gS (aa.eq (show CI [.l (eo rows (cA t 0 rows)).1]=some [.l (sK (eo rows (cA t 0 rows)).1)] from
  BW (C:=sn) (Q:=aV) ah9.BV (ah5.mono fun _ _=>trivial) _ (d.Dk hr) (by omega) d.zero)) (by simp) ?_
 rintro _ rfl
 (dsimp +instances only[Aa,Ab,Ac,Ad,Ae,Af,Ag])
 exact aa.pos (by simp[Dl]) (aa.some rfl)
theorem aib:CL [.l rows,.i t]=some [.l (ct rows t)]:=by
 have A:=sH t rows;have F:=oR t 0 rows;refine aa.toEq ?_;unfold CL
 (dsimp +instances only[Aa,Ab,Ac,Ad,Ae,Af,Ag])
 refine aa.cE (Tf rows t hr (by omega) (fun k hk=>aL.1.2 k hk)) ?_
 (dsimp +instances only[Aa,Ab,Ac,Ad,Ae,Af,Ag])
 unfold ct;generalize cA t 0 rows=n at A F;refine aa.loop (P:=fun _ g=>g=[.l (n.map (fV rows))]) ((iq (σ:=List (List G)) (fun s i=>[.l s,.l rows,.l n,.i (n.length:Int),.i (i:Int)]) n (fun s=>(0,[.l s])) (fun s i=>s=(n.take i).map (fV rows)) [] (by omega) rfl ?_ ?_).mono ?_) (by simp) ?_
 ·rintro s i z hs hi M hm N
  obtain⟨j,e,O⟩:=A z hm;have q:(n.take (i+1)).map (fV rows)=s++[fV rows z]:=by rw[N,fm,hs]; rfl
  have R:s.length≤20:=by rw[hs,bu,fZ]; omega
  subst e;have B:=hr _ (kC O);have I:fV rows [.i (j:Int)]=rows.getD j []:=rfl;rw[I]at q;generalize J:rows.getD j []=d at B q;unfold CK
  (dsimp +instances only[Aa,Ab,Ac,Ad,Ae,Af,Ag])
  simp only[aH,M]
  (dsimp +instances only[Aa,Ab,Ac,Ad,Ae,Af,Ag])
  simp only[aH,J,B.eta];exact aa.p (aa.p (aa.p (aa.pos (by simp only[sl]; simp; omega) (aa.p (aa.pos (by simp) (aa.some ⟨s++[d],rfl,q.symm⟩))))))
 ·rintro s _
  unfold CK
  (dsimp +instances only[Aa,Ab,Ac,Ad,Ae,Af,Ag])
  exact aa.n (aa.pos (by simp) (aa.some rfl))
 ·rintro c g ⟨s, hs, rfl, rfl⟩
  rw[jl]at hs;rw[hs]
 rintro _ _ rfl
 (dsimp +instances only[Aa,Ab,Ac,Ad,Ae,Af,Ag])
 exact aa.pos (by simp) (aa.some rfl)
theorem aic:yx [.l rows,.i t]=some [.l ((sK (eo rows (cA t 0 rows)).1).map aD),.l (eo rows (cA t 0 rows)).2]:=by
 have B:=oR t 0 rows;have h1:=(yX (sH t rows)).sJ;have d:=Dl (eo rows (cA t 0 rows)).1;refine aa.toEq ?_;unfold yx
 (dsimp +instances only[Aa,Ab,Ac,Ad,Ae,Af,Ag])
 refine aa.cE (Tj rows t hr hn aL) ?_
 (dsimp +instances only[Aa,Ab,Ac,Ad,Ae,Af,Ag])
 generalize sK (eo rows (cA t 0 rows)).1=n at d;generalize (eo rows (cA t 0 rows)).2=ot;refine aa.loop (P:=fun _ g=>g=[.l (n.map aD),.l ot]) ((iq (σ:=List (List G)) (fun s i=>[.l s,.l ot,.l n,.i (n.length:Int),.i (i:Int)]) n (fun s=>(0,[.l s,.l ot])) (fun s i=>s=(n.take i).map aD) [] (by omega) rfl ?_ ?_).mono ?_) (by simp) ?_
 ·rintro s i z hs hi k hm q
  have A:(n.take (i+1)).map aD=s++[aD z]:=by rw[q,fm,hs]; rfl
  have d:s.length≤20:=by rw[hs,bu,fZ]; omega
  unfold CJ
  (dsimp +instances only[Aa,Ab,Ac,Ad,Ae,Af,Ag])
  simp only[aH,k];exact aa.p (aa.p (aa.pos (by simp only[sl]; simp; omega) (aa.p (aa.pos (by simp) (aa.some ⟨s++[aD z],rfl,A.symm⟩)))))
 ·rintro s _
  unfold CJ
  (dsimp +instances only[Aa,Ab,Ac,Ad,Ae,Af,Ag])
  exact aa.n (aa.pos (by simp) (aa.some rfl))
 ·rintro c g ⟨s, hs, rfl, rfl⟩
  rw[jl]at hs;rw[hs]
 rintro _ _ rfl
 (dsimp +instances only[Aa,Ab,Ac,Ad,Ae,Af,Ag])
 exact aa.pos (by simp) (aa.some rfl)
end
def gF(c:List G):List G:=[.i (gi c 0).int,.i (gi c 1).int,.s (gi c 2).str,.s (gi c 3).str,.i 0,.i 0,.s (⟨#[]⟩:ByteArray),.s (⟨#[]⟩:ByteArray)]
theorem JU{c:List G}:Ce [.l [c]]=some [.l [gF c]]:=rfl
theorem aid(c o:List G):aq [.int .i64,.int .i64,.str,.str,.int .i64,.int .i64,.str,.str] (gF c) (gF o)=(eH o c==0):=by
 have e:aq [.int .i64,.int .i64,.str,.str,.int .i64,.int .i64,.str,.str] (gF c) (gF o)=(((gi c 0).int==(gi o 0).int)&&(((gi c 1).int==(gi o 1).int)&&(((gi c 2).str.toList==(gi o 2).str.toList)&&(((gi c 3).str.toList==(gi o 3).str.toList)&&true)))):=by
  simp only[aq,gF,kW];simp[dU,G.str,G.int]
 have cs:∀ a b:ByteArray,(a.toList==b.toList)=decide (a=b):=fun a b=>by
  rw[sC];by_cases h:a=b
  ·rw[h]; simp[fU.refl b]
  ·have k : ¬ di a b = 0 := fun e => h (fU.eq _ _ e)
   simp[h,k]
 rw[e,cs,cs];have z:=sG (r:=o) (s:=c);cases h:eH o c==0 with
 | true =>
  obtain⟨h1,k,A,B⟩:=z.1 (by simpa using h);rw[h1,k,A,B];simp
 | false =>
  have g:¬ eH o c=0:=by simpa using h
  have g:=fun q=>g (z.2 q);rw[Bool.eq_false_iff];intro d;simp only[ay,beq_iff_eq,decide_eq_true_eq,and_true]at d;exact g ⟨d.1.symm,d.2.2.2.symm,d.2.2.1.symm,d.2.1.symm⟩
def lK(m d:List (List G)):Prop:=∀ c,bp [.int .i64,.int .i64,.str,.str,.int .i64,.int .i64,.str,.str] m (gF c)=(d.any fun o=>eH (aD o) c==0)∧∀ o,(d.find? fun o=>eH (aD o) c==0)=some o→bZ [.int .i64,.int .i64,.str,.str,.int .i64,.int .i64,.str,.str] m (gF c) zD=o
theorem lK.nil:lK [] []:=fun c=>⟨rfl,fun o h=>by cases h⟩
theorem lK.put{m d:List (List G)}{x:List G}(h:lK m d)(hn:lJ d x=false)(c:Nat):lK (bK [.int .i64,.int .i64,.str,.str,.int .i64,.int .i64,.str,.str] m (gF (aD x)) x c) (d++[x]):=fun k=>by
 obtain⟨h1,A⟩:=h k;rw[qm,nz,aid,List.any_append,ako];cases hs:eH (aD x) k==0 with
 | true =>
  have B:(d.find? fun o=>eH (aD o) k==0)=none:=KK.2 fun o F hk=>by
   have I:=KL.1 hn o F;have g:=sG.1 (show eH (aD x) k=0 by simpa using hs);have q:=sG.1 (show eH (aD o) k=0 by simpa using hk);refine I ?_;have:eH (aD o) (aD x)=0:=sG.2 ⟨q.1.trans g.1.symm,q.2.1.trans g.2.1.symm,q.2.2.1.trans g.2.2.1.symm,q.2.2.2.trans g.2.2.2.symm⟩;unfold iw;rw[this];rfl
  rw[B];simp[hs]
 | false =>
  simp only[gJ,cond_false];have e:([x].find? fun o=>eH (aD o) k==0)=none:=by simp[hs]
  rw[e,akp,h1];exact⟨by simp[hs],A⟩
def jA(s:List (List G) × Nat)(d:List G):List (List G) × Nat :=
 bif (gi d 3).int==3 then (bK bk s.1 [.s (gi d 0).str,.i (gi d 8).int] [.t true] s.2,cU bk s.1 [.s (gi d 0).str,.i (gi d 8).int] s.2)
 else bif (gi d 3).int==4||(gi d 3).int==1 then (jJ bk s.1 [.s (gi d 0).str,.i (gi d 8).int],s.2) else s
def bj(l:List (List G)):List (List G) × Nat:=l.foldl jA ([],0)
section
variable {dd cs ss ot held bO rows n:List (List G)} {ck iM:Nat} {len i j:Int} {si b c x y bd ba:ByteArray} {no at_ kd t m s h qA:Int}
theorem vB(h1:aw (i+1)=true):u9 [.l dd,.l cs,.l ss,.l ot,.l held,.i (ck:Int),.l bO,.i (iM:Int),.l rows,.l n,.i len,.i i] =
  some (some 0,[.l dd,.l cs,.l ss,.l ot,.l held,.i (ck:Int),.l bO,.i (iM:Int),.l rows,.l n,.i len,.i (i+1)]):=by
 refine aa.toEq ?_;unfold u9
 (dsimp +instances only[Aa,Ab,Ac,Ad,Ae,Af,Ag])
 simp only[aH];exact aa.pos h1 (aa.pos (by simp) (aa.some rfl))
theorem Tk(f:Bool):yd [.l dd,.l cs,.l ss,.l ot,.l held,.i (ck:Int),.l bO,.i (iM:Int),.s si,.i no,.i at_,.i kd,.i t,.i m,.s b,.s c,.i s,.i h,.s x,.s y,.s bd,.s ba,.i qA,.l rows,.i j,.l n,.i len,.i i,.t f] =
  some (some 0,[.l dd,.l cs,.l ss,.l ot,.l (bif f then jJ bk held [.s si,.i s] else held),.i (ck:Int),.l bO,.i (iM:Int),.s si,.i no,.i at_,.i kd,.i t,.i m,.s b,.s c,.i s,.i h,.s x,.s y,.s bd,.s ba,.i qA,.l rows,.i j,.l n,.i len,.i i]):=by
 refine aa.toEq ?_;unfold yd
 (dsimp +instances only[Aa,Ab,Ac,Ad,Ae,Af,Ag])
 simp only[aH];cases f with
 |true=>exact aa.pos rfl (aa.pos (by simp) (aa.some rfl))
 |false=>exact aa.neg rfl (aa.pos (by simp) (aa.some rfl))
def yY(kd j:Int)(mB row:List G)(s:List (List G) × List (List G) × List (List G) × Nat):List (List G) × List (List G) × List (List G) × Nat :=
 bif kd != 1 then s else bif bp [.int .i64,.int .i64,.str,.str,.int .i64,.int .i64,.str,.str] s.2.2.1 (gF mB) then (s.1,s.2.1++[[.i j]],s.2.2.1,s.2.2.2)
 else (s.1++[mB],s.2.1,bK [.int .i64,.int .i64,.str,.str,.int .i64,.int .i64,.str,.str] s.2.2.1 (gF mB) row s.2.2.2,cU [.int .i64,.int .i64,.str,.str,.int .i64,.int .i64,.str,.str] s.2.2.1 (gF mB) s.2.2.2)
theorem JV(S:List (List G) × List (List G) × List (List G) × Nat)(g:yY kd j [.i t,.i m,.s b,.s c,.i s,.i h,.s x,.s y] [.s si,.i no,.i at_,.i kd,.i t,.i m,.s b,.s c,.i s,.i h,.s x,.s y,.s bd,.s ba,.i qA] (cs,ot,bO,iM)=S)(q:cs.length≤1000)(A:ot.length≤1000) :
  aa (uZ [.l dd,.l cs,.l ss,.l ot,.l held,.i (ck:Int),.l bO,.i (iM:Int),.s si,.i no,.i at_,.i kd,.i t,.i m,.s b,.s c,.i s,.i h,.s x,.s y,.s bd,.s ba,.i qA,.l rows,.i j,.l n,.i len,.i i]) fun o=>∃ k,o.1=some k ∧
   o.2=[.l dd,.l S.1,.l ss,.l S.2.1,.l held,.i (ck:Int),.l S.2.2.1,.i (S.2.2.2:Int),.l rows,.l n,.i len,.i i]:=by
 subst g;unfold uZ yY
 (dsimp +instances only[Aa,Ab,Ac,Ad,Ae,Af,Ag])
 simp only[aH];cases B:kd != 1 with
 |true=>exact aa.pos rfl (aa.pos (by simp) (aa.some ⟨0,rfl,rfl⟩))
 | false =>
  refine aa.neg rfl (aa.call (aa.eq (JU (c:=[.i t,.i m,.s b,.s c,.i s,.i h,.s x,.s y]))) ?_);rintro _ rfl
  (dsimp +instances only[Aa,Ab,Ac,Ad,Ae,Af,Ag])
  have d:aR [.int .i64,.int .i64,.str,.str,.int .i64,.int .i64,.str,.str] (gF [.i t,.i m,.s b,.s c,.i s,.i h,.s x,.s y])=gF [.i t,.i m,.s b,.s c,.i s,.i h,.s x,.s y]:=rfl;rw[d];cases F:bp [.int .i64,.int .i64,.str,.str,.int .i64,.int .i64,.str,.str] bO (gF [.i t,.i m,.s b,.s c,.i s,.i h,.s x,.s y])with
  |true=>exact aa.pos rfl (aa.pos (by simp only[sl]; simp; omega) (aa.pos (by simp) (aa.some ⟨0,rfl,rfl⟩)))
  | false =>
   refine aa.neg rfl (aa.call (aa.eq (JU (c:=[.i t,.i m,.s b,.s c,.i s,.i h,.s x,.s y]))) ?_);rintro _ rfl
   (dsimp +instances only[Aa,Ab,Ac,Ad,Ae,Af,Ag])
   rw[d];exact aa.pos (by simp only[sl]; simp; omega) (aa.pos (by simp) (aa.some ⟨1,rfl,rfl⟩))
end
theorem gU{β:Type}{Q:β→Prop}{c:Bool}{t:Option (Option Nat × List G)}{k:Nat→List G→Option β}{R:List G}(h:aa t fun o=>∃ x,o.1=some x∧o.2=R)(hc:c=true)(hk:∀ x,aa (k x R) Q):aa (a7 c (dD t) k) Q :=
 aa.tail (P:=fun _ g=>g=R) h hc fun x g d=>by rw[d]; exact hk x
def qB(rows:List (List G))(s:List (List G) × List (List G) × List (List G) × Nat)(z:List G):List (List G) × List (List G) × List (List G) × Nat :=
 yY (gi (fV rows z) 3).int (gi z 0).int (aD (fV rows z)) (fV rows z) s
theorem aie(rows n dd:List (List G))(s:List (List G) × List (List G) × List (List G) × Nat)(q:List (List G) × Nat)(i j:Nat)(hr:∀ z∈rows,aV z)(N:n.length≤1000)(hi:i<n.length)(I:n.getD i []=[.i (j:Int)])(J:j<rows.length)
  (h1:s.1.length≤900) (A:s.2.1.length≤900) (M:dd.length≤900) :
  aa (u_ [.l dd,.l s.1,.l [],.l s.2.1,.l q.1,.i (q.2:Int),.l s.2.2.1,.i (s.2.2.2:Int),.l rows,.l n,.i (n.length:Int),.i (i:Int)]) fun o =>
   o=(none,[.l (dd++[rows.getD j []]),.l (qB rows s [.i (j:Int)]).1,.l [],.l (qB rows s [.i (j:Int)]).2.1,.l (jA q (rows.getD j [])).1,.i ((jA q (rows.getD j [])).2:Int),.l (qB rows s [.i (j:Int)]).2.2.1,.i ((qB rows s [.i (j:Int)]).2.2.2:Int),.l rows,.l n,.i (n.length:Int),.i ((i:Int)+1)]):=by
 obtain⟨cs,ot,bO,iM⟩:=s;obtain⟨held,ck⟩:=q;have F:=hr _ (kC J);unfold qB;rw[show fV rows [.i (j:Int)]=rows.getD j [] from rfl];unfold u_
 (dsimp +instances only[Aa,Ab,Ac,Ad,Ae,Af,Ag])
 simp only[aH,I]
 (dsimp +instances only[Aa,Ab,Ac,Ad,Ae,Af,Ag])
 simp only[aH];generalize rows.getD j []=d at F;obtain⟨si,no,at_,kd,t,m,b,c,s,h,x,y,bd,ba,qA,rfl,O⟩:=F;rw[show aR ak (lF si no at_ kd t m b c s h x y bd ba qA)=lF si no at_ kd t m b c s h x y bd ba qA from rfl];unfold jA;simp only[lF,aD]
 (dsimp +instances only[Aa,Ab,Ac,Ad,Ae,Af,Ag])
 have g:aw ((i:Int)+1)=true:=by(first|rfl|assumption|(simp only[aw,sl]<;>omega))
 have h1:cs.length≤1000:=by simp only at h1; omega
 have A:ot.length≤1000:=by simp only at A; omega
 generalize B:yY kd (j:Int) [.i t,.i m,.s b,.s c,.i s,.i h,.s x,.s y] [.s si,.i no,.i at_,.i kd,.i t,.i m,.s b,.s c,.i s,.i h,.s x,.s y,.s bd,.s ba,.i qA] (cs,ot,bO,iM)=S;refine aa.p (aa.p (aa.p (aa.pos (by simp only[sl]; simp; omega) ?_)));cases M:kd==3 with
 | true =>
  refine aa.pos rfl (gU (JV S B h1 A) (by simp) fun k=>?_)
  (dsimp +instances only[Aa,Ab,Ac,Ad,Ae,Af,Ag])
  simp only[aH];cases ab k 0 with
  | true =>
   refine aa.pos rfl (gU ⟨_,vB g,0,rfl,rfl⟩ (by simp) fun _=>?_)
   (dsimp +instances only[Aa,Ab,Ac,Ad,Ae,Af,Ag])
   simp only[aH];exact aa.pos (by simp) (aa.some rfl)
  | false =>
   refine aa.neg rfl (gU ⟨_,vB g,0,rfl,rfl⟩ (by simp) fun _=>?_)
   (dsimp +instances only[Aa,Ab,Ac,Ad,Ae,Af,Ag])
   simp only[aH];exact aa.pos (by simp) (aa.some rfl)
 | false =>
  refine aa.neg rfl ?_;have fin:∀ f:Bool,(bif f then (jJ bk held [.s si,.i s],ck) else (held,ck))=((bif f then jJ bk held [.s si,.i s] else held),ck):=fun f=>by cases f<;>rfl
  cases R:kd==4 with
  | true =>
   refine aa.pos rfl (gU ⟨_,Tk true,0,rfl,rfl⟩ (by simp) fun _=>?_)
   (dsimp +instances only[Aa,Ab,Ac,Ad,Ae,Af,Ag])
   simp only[aH];refine gU (JV S B h1 A) (by simp) fun k=>?_
   (dsimp +instances only[Aa,Ab,Ac,Ad,Ae,Af,Ag])
   simp only[aH];cases ab k 0 with
   | true =>
    refine aa.pos rfl (gU ⟨_,vB g,0,rfl,rfl⟩ (by simp) fun _=>?_)
    (dsimp +instances only[Aa,Ab,Ac,Ad,Ae,Af,Ag])
    simp only[aH];exact aa.pos (by simp) (aa.some rfl)
   | false =>
    refine aa.neg rfl (gU ⟨_,vB g,0,rfl,rfl⟩ (by simp) fun _=>?_)
    (dsimp +instances only[Aa,Ab,Ac,Ad,Ae,Af,Ag])
    simp only[aH];exact aa.pos (by simp) (aa.some rfl)
  | false =>
   rw[gJ,fin];simp only[cond_false];refine gU ⟨_,Tk (kd==1),0,rfl,rfl⟩ (by simp) fun _=>?_
   (dsimp +instances only[Aa,Ab,Ac,Ad,Ae,Af,Ag])
   simp only[aH];refine gU (JV S B h1 A) (by simp) fun k=>?_
   (dsimp +instances only[Aa,Ab,Ac,Ad,Ae,Af,Ag])
   simp only[aH];cases ab k 0 with
   | true =>
    refine aa.pos rfl (gU ⟨_,vB g,0,rfl,rfl⟩ (by simp) fun _=>?_)
    (dsimp +instances only[Aa,Ab,Ac,Ad,Ae,Af,Ag])
    simp only[aH];exact aa.pos (by simp) (aa.some rfl)
   | false =>
    refine aa.neg rfl (gU ⟨_,vB g,0,rfl,rfl⟩ (by simp) fun _=>?_)
    (dsimp +instances only[Aa,Ab,Ac,Ad,Ae,Af,Ag])
    simp only[aH];exact aa.pos (by simp) (aa.some rfl)
def sM(s:List (List G) × List (List G) × List (List G) × Nat)(l:List (List G) × List (List G)):Prop:=s.1=l.1.map aD∧s.2.1=l.2∧lK s.2.2.1 l.1
theorem sM.nil:sM ([],[],[],0) ([],[]):=⟨rfl,rfl,lK.nil⟩
theorem sM.step{rows:List (List G)}{s:List (List G) × List (List G) × List (List G) × Nat}{l:List (List G) × List (List G)}(h:sM s l){j:Nat}:sM (qB rows s [.i (j:Int)]) (sI rows l [.i (j:Int)]):=by
 obtain⟨h1,k,g⟩:=h;unfold qB yY sI;generalize fV rows [.i (j:Int)]=d;obtain⟨q,B⟩:=g (aD d);have q:bp [.int .i64,.int .i64,.str,.str,.int .i64,.int .i64,.str,.str] s.2.2.1 (gF (aD d))=lJ l.1 d:=q;cases (gi d 3).int != 1 with
 |true=>exact⟨h1,k,g⟩
 | false =>
  simp only[cond_false];rw[q];cases A:lJ l.1 d with
  |true=>exact⟨h1,by simp only[cond_true]; rw[k]; rfl,g⟩
  |false=>exact⟨by simp only[cond_false]; rw[h1,fm]; rfl,k,g.put A _⟩
theorem aif(rows n:List (List G))(hr:∀ z∈rows,aV z)(hn:vA rows n)(M:n.length≤800) :
  fw u_ [.l [],.l [],.l [],.l [],.l [],.i 0,.l [],.i 0,.l rows,.l n,.i (n.length:Int),.i 0] fun c g=>∃ m iM,lK m (eo rows n).1 ∧
   g=[.l (n.map (fV rows)),.l ((eo rows n).1.map aD),.l [],.l (eo rows n).2,.l (bj (n.map (fV rows))).1,.i ((bj (n.map (fV rows))).2:Int),.l m,.i ((iM:Nat):Int)]:=by
 refine(iq (σ:=List (List G) × (List (List G) × List (List G) × List (List G) × Nat) × (List (List G) × Nat)) (fun s i=>[.l s.1,.l s.2.1.1,.l [],.l s.2.1.2.1,.l s.2.2.1,.i (s.2.2.2:Int),.l s.2.1.2.2.1,.i (s.2.1.2.2.2:Int),.l rows,.l n,.i (n.length:Int),.i (i:Int)]) n
  (fun s=>(0,[.l s.1,.l s.2.1.1,.l [],.l s.2.1.2.1,.l s.2.2.1,.i (s.2.2.2:Int),.l s.2.1.2.2.1,.i (s.2.1.2.2.2:Int)]))
  (fun s i=>s.1=(n.take i).map (fV rows)∧sM s.2.1 (eo rows (n.take i))∧s.2.2=bj ((n.take i).map (fV rows))) ([],([],[],[],0),([],0)) (by omega) ⟨rfl,sM.nil,rfl⟩ ?_ ?_).mono ?_
 ·rintro ⟨dd, s, q⟩ i z ⟨i1, i2, i3⟩ hi A hm d
  simp only at i1 i2 i3;obtain⟨j,rfl,B⟩:=hn z hm;have k:=Dj hn i (by omega);have l1:=k.sJ;have l2:=k.JT;have F:s.1.length≤900:=by rw[i2.1,bu]; omega
  have I:s.2.1.length≤900:=by rw[i2.2.1]; omega
  have J:dd.length≤900:=by rw[i1,bu,fZ]; omega
  refine(aie rows n dd s q i j hr (by omega) hi A B F I J).mono ?_;rintro _ rfl;refine⟨(dd++[rows.getD j []],qB rows s [.i (j:Int)],jA q (rows.getD j [])),rfl,?_,?_,?_⟩
  ·simp only
   rw[d,fm,i1];rfl
  ·simp only
   rw[d];unfold eo at i2⊢;rw[pr];exact i2.step
  ·simp only
   rw[d,fm,i3];unfold bj;rw[pr];rfl
 ·rintro ⟨dd, ⟨cs, ot, m, iM⟩, ⟨held, ck⟩⟩ _
  unfold u_
  (dsimp +instances only[Aa,Ab,Ac,Ad,Ae,Af,Ag])
  simp only[aH];exact aa.n (aa.pos (by simp) (aa.some rfl))
 ·rintro c g ⟨⟨dd, ⟨cs, ot, m, iM⟩, ⟨held, ck⟩⟩, ⟨i1, ⟨i2, i3, i4⟩, i5⟩, rfl, rfl⟩
  rw[jl]at i1 i2 i3 i4 i5;simp only at i1 i2 i3 i4 i5⊢;refine⟨m,iM,i4,?_⟩;rw[←i5,←i1,←i2,←i3]
theorem jf.same{rows:List (List G)}{k:Nat}{s:List (List G) × List (List G)}(h:jf rows k s){a b:List G}(d:a∈s.1)(g:b∈s.1)(e:iw a b=0):a=b:=by
 refine h.zero a d b g ?_ ?_
 ·unfold bU
  rw[dG,decide_eq_false_iff_not];omega
 ·unfold bU
  have:iw b a = - iw a b:=Di _ _;rw[dG,decide_eq_false_iff_not];omega
theorem lK.site{rows:List (List G)}{k:Nat}{s:List (List G) × List (List G)}(h:jf rows k s){m:List (List G)}(hm:lK m s.1){d:List G}(q:d∈s.1):bZ [.int .i64,.int .i64,.str,.str,.int .i64,.int .i64,.str,.str] m (gF (aD d)) zD=d:=by
 refine(hm (aD d)).2 d ?_;cases g:s.1.find? fun o=>eH (aD o) (aD d)==0 with
 | none =>
  have:=KK.1 g d q;have e:eH (aD d) (aD d)=0:=sG.2 ⟨rfl,rfl,rfl,rfl⟩;rw[e]at this;simp at this
 | some o =>
  have h1:=List.mem_of_find?_eq_some g;have A:=List.find?_some g;simp only[beq_iff_eq]at A;rw[h.same h1 q A]
def dF(d:List G):List G:=[.s (gi d 0).str]
theorem aih(rows F bO:List (List G)){k:Nat}{ot:List (List G)}(N:jf rows k (F,ot))(hr:∀ z∈rows,aV z)(hm:lK bO F)(q:List (List G))(hs:∀ d∈q,d∈F)(hl:q.length≤800)(dd B held:List (List G))(ck iM:Nat) :
  fw ye [.l dd,.l (q.map aD),.l [],.l B,.l held,.i (ck:Int),.l bO,.i (iM:Int),.i (q.length:Int),.i 0] fun c g=>g=[.l dd,.l (q.map aD),.l (q.map dF),.l B,.l held,.i (ck:Int)]:=by
 refine(iq (σ:=List (List G)) (fun s i=>[.l dd,.l (q.map aD),.l s,.l B,.l held,.i (ck:Int),.l bO,.i (iM:Int),.i (q.length:Int),.i (i:Int)]) q (fun s=>(0,[.l dd,.l (q.map aD),.l s,.l B,.l held,.i (ck:Int)])) (fun s i=>s=(q.take i).map dF) [] (by omega) rfl ?_ ?_).mono ?_
 ·rintro s i d A hi I R U
  have W:(q.take (i+1)).map dF=s++[dF d]:=by rw[U,fm,A]; rfl
  have hsl:s.length≤800:=by rw[A,bu,fZ]; omega
  have hc:(q.map aD).getD i []=aD d:=by
   rw[cG,cy,bA hi];rw[cG,bA hi]at I;simp only[j_]at I;simp[I]
  have J:(q.map aD).length=q.length:=bu _;have M:d∈F:=hs d R;have O:=(N.Dk hr d M).mB;unfold ye
  (dsimp +instances only[Aa,Ab,Ac,Ad,Ae,Af,Ag])
  simp only[aH,dJ,hc,O.eta];refine aa.p (aa.pos (by rw[J]; (first|rfl|assumption|(simp only[aw,sl]<;>omega))) (aa.pos (by rw[J]; (first|rfl|assumption|(simp only[aw,sl]<;>omega))) ?_));refine aa.cE (JU (c:=aD d)) ?_
  (dsimp +instances only[Aa,Ab,Ac,Ad,Ae,Af,Ag])
  have Y:aR [.int .i64,.int .i64,.str,.str,.int .i64,.int .i64,.str,.str] (gF (aD d))=gF (aD d):=rfl;have es:bZ [.int .i64,.int .i64,.str,.str,.int .i64,.int .i64,.str,.str] bO (gF (aD d)) [.s (⟨#[]⟩:ByteArray),.i 0,.i 0,.i 0,.i 0,.i 0,.s (⟨#[]⟩:ByteArray),.s (⟨#[]⟩:ByteArray),.i 0,.i 0,.s (⟨#[]⟩:ByteArray),.s (⟨#[]⟩:ByteArray),.s (⟨#[]⟩:ByteArray),.s (⟨#[]⟩:ByteArray),.i 0]=d:=lK.site N hm M;rw[Y,es];exact aa.pos (by simp only[sl]; simp; omega) (aa.p (aa.pos (by simp) (aa.some ⟨s++[dF d],rfl,W.symm⟩)))
 ·rintro s _
  unfold ye
  (dsimp +instances only[Aa,Ab,Ac,Ad,Ae,Af,Ag])
  simp only[aH];exact aa.n (aa.pos (by simp) (aa.some rfl))
 ·rintro c g ⟨s, A, rfl, rfl⟩
  rw[jl]at A;rw[A]
def eV(rows:List (List G))(t:Int):List (List G):=sK (eo rows (cA t 0 rows)).1
def JW(rows:List (List G))(t:Int):List (List G):=(eo rows (cA t 0 rows)).2
theorem yZ(rows:List (List G))(t:Int):(eV rows t).length≤rows.length:=by
 have:=(yX (sH t rows)).sJ;have h:=oR t 0 rows;unfold eV;rw[Dl];omega
theorem Dm{rows:List (List G)}{t:Int}{d:List G}(h:d∈eV rows t):d∈rows∧(gi d 3).int=1 :=
 (yX (sH t rows)).mem d ((nB (lt:=bU iw) _).mem_iff.1 h)
theorem qC(rows:List (List G))(t:Int):(ct rows t).length≤rows.length:=by
 unfold ct;rw[bu];exact oR t 0 rows
theorem nH{rows:List (List G)}{t:Int}{d:List G}(h:d∈ct rows t):d∈rows:=by
 obtain⟨z,g,rfl⟩:=bR.1 h;obtain⟨j,rfl,k⟩:=sH t rows z g;exact kC k
theorem aii(d:List (List G)):eU (bU eH) (d.map aD)=(sK d).map aD:=ah6 aD (fun _ _=>rfl) d
theorem JX(rows:List (List G))(t:Int)(hr:∀ z∈rows,aV z)(hn:rows.length≤20) :
  va [.l rows,.i t]=some [.l (ct rows t),.l ((eV rows t).map aD),.l ((eV rows t).map dF),.l (JW rows t),.l (bj (ct rows t)).1,.i ((bj (ct rows t)).2:Int),.i 0]:=by
 have F:=sH t rows;have O:=oR t 0 rows;have q:=yX F;have h1:=q.sJ;refine aa.toEq ?_;unfold va
 (dsimp +instances only[Aa,Ab,Ac,Ad,Ae,Af,Ag])
 refine aa.cE (ahU rows t hr (by omega)) ?_
 (dsimp +instances only[Aa,Ab,Ac,Ad,Ae,Af,Ag])
 refine aa.loop (aif rows (cA t 0 rows) hr F (by omega)) (by simp) ?_;rintro _ _ ⟨m,iM,hm,rfl⟩
 (dsimp +instances only[Aa,Ab,Ac,Ad,Ae,Af,Ag])
 simp only[aH];have A:((eo rows (cA t 0 rows)).1.map aD).length=(eo rows (cA t 0 rows)).1.length:=bu _;refine aa.neg (by rw[dG,decide_eq_false_iff_not,A]; omega) ?_;have I:Cf [.l ((eo rows (cA t 0 rows)).1.map aD)]=some [.l ((eV rows t).map aD)]:=by
  have h:=BW (C:=r_) (Q:=iL) ahg.BV (ah4.mono fun _ _=>trivial) ((eo rows (cA t 0 rows)).1.map aD) (fun y J=>by
   obtain⟨d,g,rfl⟩:=bR.1 J;exact(q.Dk hr d g).mB) (by omega) (fun a M b N g1 g2=>by
   obtain⟨d,g,rfl⟩:=bR.1 M;obtain⟨e,he,rfl⟩:=bR.1 N;rw[q.zero d g e he g1 g2])
  rw[aii]at h;exact h
 refine aa.gS (aa.eq I) (by simp) ?_;rintro _ rfl
 (dsimp +instances only[Aa,Ab,Ac,Ad,Ae,Af,Ag])
 have B:(eV rows t).length=(eo rows (cA t 0 rows)).1.length:=Dl _;rw[A,←B];refine aa.loop (aih rows (eo rows (cA t 0 rows)).1 m (k:=(cA t 0 rows).length) (ot:=(eo rows (cA t 0 rows)).2) q hr hm (eV rows t) (fun d g=>(nB (lt:=bU iw) _).mem_iff.1 g) (by omega) _ _ _ _ _) (by simp[B]) ?_;rintro _ _ rfl
 (dsimp +instances only[Aa,Ab,Ac,Ad,Ae,Af,Ag])
 simp only[aH];exact aa.pos (by simp) (aa.some rfl)
theorem aij{s:ByteArray}(h:s∈fj):s.size≤maxLen:=by
 simp only[fj,bC,jD,or_false]at h;rcases h with rfl|rfl|rfl|rfl<;>decide
theorem Tl{m:List (List G)}{r:List G}(h:r∈ml m):r=[.s (gi r 0).str]:=by
 obtain⟨e,_,rfl⟩:=bR.1 ((Dd m).mem_iff.1 h);rfl
theorem Tm{q:List (List G)}(h:q.Pairwise fun a b=>di (gi a 0).str (gi b 0).str<0):q.Nodup:=by
 rw[qR];refine h.imp fun {a b} d e=>?_;rw[e,yU.2 rfl]at d;omega
theorem Tn{p q:List (List G)}(d:p.Pairwise fun a b=>di (gi a 0).str (gi b 0).str<0)(F:q.Pairwise fun a b=>di (gi a 0).str (gi b 0).str<0)(h:∀ r,r∈p↔r∈q):p=q:=by
 have J:p.Perm q:=(US (Tm d) (Tm F)).2 h;have M:∀ a∈p,∀ b∈p,di (gi a 0).str (gi b 0).str=0→a=b:=fun a g b A U=>by
  refine Ku fun N=>?_;obtain⟨i,hi,rfl⟩:=zB g;obtain⟨k,hk,rfl⟩:=zB A;rw[KD]at d;have I:=fU.flip (gi p[i] 0).str (gi p[k] 0).str;rcases Nat.lt_trichotomy i k with h|h|h
  ·have := d i k hi hk h
   omega
  ·subst h
   exact N rfl
  ·have := d k i hk hi h
   omega
 have B:∀{q:List (List G)},(q.Pairwise fun a b=>di (gi a 0).str (gi b 0).str<0)→q.Pairwise fun a b=>decide (di (gi b 0).str (gi a 0).str<0)=false:=fun h=>h.imp fun {a b} R=>by
  have I:=fU.flip (gi a 0).str (gi b 0).str;rw[decide_eq_false_iff_not];omega
 refine xV (lt:=fun a b=>decide (di (gi a 0).str (gi b 0).str<0)) J (fun a g b A h1 O=>?_) (B d) (B F);rw[decide_eq_false_iff_not]at h1 O;have I:=fU.flip (gi a 0).str (gi b 0).str;exact M a g b A (by omega)
structure vC (L:List ByteArray) (m:List (List G)) (k:Nat):Prop where
 form:∀ e∈m,∃(s:ByteArray) (n:Nat),e=[.l [[.s s]],.l [[.t true]],.i (n:Int)]∧n<k∧s∈L
 born:(m.map bI).Nodup
 keys:(m.map gz).Nodup
theorem vC.put{L:List ByteArray}{m:List (List G)}{k:Nat}(h:vC L m k){s:ByteArray}(hs:s∈L):vC L (bK [.str] m [.s s] [.t true] k) (cU [.str] m [.s s] k):=by
 obtain⟨h1,A,B⟩:=JI s [.t true] k m;have q:∀ n∈m.map bI,n<k:=fun n hn=>by
  obtain⟨e,he,rfl⟩:=bR.1 hn;obtain⟨w,n,rfl,hn,_⟩:=h.form e he;exact hn
 refine⟨fun e he=>?_,?_,?_⟩
 ·unfold cU
  rcases B e he with he|⟨z,rfl,⟨r,hr,rfl⟩|⟨rfl,F⟩⟩
  ·obtain ⟨w, n, I, hn, hw⟩ := h.form e he
   refine⟨w,n,I,?_,hw⟩;cases bp [.str] m [.s s]
   ·exact mN hn
   ·exact hn
  ·obtain ⟨w, n, rfl, hn, _⟩ := h.form r hr
   refine⟨s,n,rfl,?_,hs⟩;cases bp [.str] m [.s s]
   ·exact mN hn
   ·exact hn
  ·rw [F]
   exact⟨s,k,rfl,DP k,hs⟩
 ·rw [A]
  cases bp [.str] m [.s s]with
  |true=>exact h.born
  | false =>
   rw[cond_false,zJ];refine⟨h.born,by simp,fun a g b d e=>?_⟩;rw[iz]at d;have:=q a g;omega
 ·rw [h1]
  cases J:bp [.str] m [.s s]with
  |true=>exact h.keys
  | false =>
   rw[cond_false,zJ];refine⟨h.keys,by simp,fun a g b d e=>?_⟩;rw[iz]at d;have:bp [.str] m [.s s]=true:=(Dc _ m).2 (by rw[←d,←e]; exact g);rw[J]at this;cases this
def fW(s:List (List G) × Nat)(x:ByteArray):List (List G) × Nat:=(bK [.str] s.1 [.s x] [.t true] s.2,cU [.str] s.1 [.s x] s.2)
def gV(l:List ByteArray):List (List G) × Nat:=l.foldl fW ([],0)
theorem To(L:List ByteArray):∀(l:List ByteArray) (s:List (List G) × Nat),vC L s.1 s.2→(∀ x∈l,x∈L)→vC L (l.foldl fW s).1 (l.foldl fW s).2
 | [],s,h,_=>h
 |x::l,s,h,d=>To L l (fW s x) (h.put (d x cJ)) fun z g=>d z (bS _ g)
theorem Tp(L l:List ByteArray)(d:∀ x∈l,x∈L):vC L (gV l).1 (gV l).2:=To L l ([],0) ⟨by simp,by simp,by simp⟩ d
theorem Tq:∀(l:List ByteArray) (s:List (List G) × Nat),(l.foldl fW s).1.length≤s.1.length+l.length
 | [],s=>by simp
 | x::l,s=>by
  have h1:=Tq l (fW s x);have d:(fW s x).1.length≤s.1.length+1:=SZ _ _ _ _;simp only[kK,cF];omega
theorem Tr(l:List ByteArray):(gV l).1.length≤l.length:=by
 have:=Tq l ([],0);simpa[gV]using this
theorem Ts(s:ByteArray):∀(l:List ByteArray) (m:List (List G) × Nat),bp [.str] (l.foldl fW m).1 [.s s]=true↔bp [.str] m.1 [.s s]=true∨s∈l
 | [],m=>by simp
 | x::l,m=>by
  rw[kK,Ts s l];have e:bp [.str] (fW m x).1 [.s s]=(aq [.str] [.s s] [.s x]||bp [.str] m.1 [.s s]):=qm _ _ _ _ _ _;have d:aq [.str] [.s s] [.s x]=decide (s=x):=by
   have:aq [.str] [.s s] [.s x]=((s.toList==x.toList)&&true):=rfl;rw[this,dU,Da]
  rw[e,d,jC,decide_eq_true_eq,bC];constructor
  ·rintro ((h | h) | h)
   ·exact .inr (.inl h)
   ·exact .inl h
   ·exact .inr (.inr h)
  ·rintro (h | h | h)
   ·exact .inl (.inr h)
   ·exact .inl (.inl h)
   ·exact .inr h
theorem Tt(l:List ByteArray)(s:ByteArray):s∈(gV l).1.map gz↔s∈l:=by
 rw[←Dc];have:=Ts s l ([],0);unfold gV;rw[this];simp[mo]
theorem aik{l:List ByteArray}(g:∀ x∈l,x∈fj)(hn:l.length≤1000):GA (gV l).1 (gV l).2:=by
 have h:=Tp fj l g;have k:=Tr l;refine⟨?_,fun r hr=>?_,?_,by omega⟩
 ·simp only [eA, JK _ h.born, jj, ep, iA]
  intro e he;obtain⟨v,n,rfl,hn,_⟩:=h.form e he;exact hn
 ·obtain ⟨s, n, rfl, _, hs⟩ := h.form r hr
  exact aij hs
 ·have := h.keys
  rw[qR,qP]at this⊢;exact this.imp fun d e=>d (ByteArray.ext (Array.toList_inj.1 e))
def eI(l:List ByteArray):List (List G):=ml (gV l).1
theorem Dn(l:List ByteArray)(r:List G):r∈eI l↔∃ s∈l,r=[.s s]:=by
 unfold eI;rw[(Dd _).mem_iff];constructor
 ·intro h
  obtain⟨e,he,rfl⟩:=bR.1 h;exact⟨gz e,(Tt l _).1 (KF he),rfl⟩
 ·rintro ⟨s, hs, rfl⟩
  obtain⟨e,he,h⟩:=bR.1 ((Tt l s).2 hs);exact bR.2 ⟨e,he,by rw[h]⟩
theorem ail(l:List ByteArray):(eI l).length≤l.length:=by
 unfold eI;rw[(Dd _).length_eq,bu];exact Tr l
theorem JY(l:List ByteArray):(eI l).Pairwise fun a b=>di (gi a 0).str (gi b 0).str<0:=by
 unfold eI;have q:=Tp l l fun _ h=>h;have d:(ml (gV l).1).Nodup:=by
  refine(Dd _).nodup_iff.2 ?_;have:=q.keys;rw[qR,qP]at this⊢;refine this.imp fun k e=>k ?_;simpa using e
 rw[qR]at d;refine((aho (gV l).1).and d).imp_of_mem fun {a b} A B g=>?_;have F:¬ di (gi a 0).str (gi b 0).str=0:=fun h=>g.2 (by rw[Tl A,Tl B,yU.1 h]);have I:=fU.flip (gi a 0).str (gi b 0).str;have:=g.1;omega
theorem aim{l:List ByteArray}(g:∀ x∈l,x∈fj)(hn:l.length≤1000):yE [.l (gV l).1,.i ((gV l).2:Int)]=some [.l (gV l).1,.i ((gV l).2:Int),.l (eI l)]:=by
 unfold yE Bx;have d:GA (gi [G.l (gV l).1,.i ((gV l).2:Int)] 0).rows (gi [G.l (gV l).1,.i ((gV l).2:Int)] 1).int.toNat:=aik g hn;rw[if_pos d];rfl
theorem JZ{l:List ByteArray}{r:List G}:r∈gC (l.map fun s=>[G.s s])↔∃ s∈l,r=[.s s]:=by
 unfold gC;rw[bR];constructor
 ·rintro ⟨d, h, rfl⟩
  rw[(KJ _ _).mem_iff,gG]at h;obtain⟨s,hs,rfl⟩:=bR.1 h;exact⟨s,hs,rfl⟩
 ·rintro ⟨s, hs, rfl⟩
  refine⟨s.data.toList,?_,rfl⟩;rw[(KJ _ _).mem_iff,gG];exact bR.2 ⟨s,hs,rfl⟩
theorem ain(rows:List (List G)):(gC rows).Pairwise fun a b=>a=b∨di (gi a 0).str (gi b 0).str<0:=by
 have tr:∀ a b c:List UInt8,decide (a≤b)=true→decide (b≤c)=true→decide (a≤c)=true:=fun a b c h1 d=>by simp only[decide_eq_true_eq]at *; exact List.le_trans h1 d
 have to:∀ a b:List UInt8,(decide (a≤b)||decide (b≤a))=true:=fun a b=>by simp only[jC,decide_eq_true_eq]; exact List.le_total a b
 unfold gC;rw[qP];refine(UR tr to _).imp fun {a b} h=>?_;simp only[decide_eq_true_eq]at h;have k:¬ di (⟨b.toArray⟩:ByteArray) (⟨a.toArray⟩:ByteArray)<0:=fun d=>List.not_lt.2 h (JL d);have q:=fU.flip (⟨a.toArray⟩:ByteArray) (⟨b.toArray⟩:ByteArray);by_cases g:di (⟨a.toArray⟩:ByteArray) (⟨b.toArray⟩:ByteArray)=0
 ·exact .inl (by rw[fU.eq _ _ g])
 ·refine .inr ?_
  show di (⟨a.toArray⟩:ByteArray) (⟨b.toArray⟩:ByteArray)<0
  omega
def Tu(r:List G):Prop:=∃ s,r=[.s s]
theorem aio:uK [.str] Tu:=⟨fun r h=>by obtain⟨s,rfl⟩:=h; rfl⟩
theorem aip(l:List ByteArray):fi (aq [.str]) (gC (l.map fun s=>[G.s s]))=eI l:=by
 have d:∀ r∈gC (l.map fun s=>[G.s s]),Tu r:=fun r hr=>by
  obtain⟨s,_,e⟩:=JZ.1 hr;exact⟨s,e⟩
 have he:∀ x∈gC (l.map fun s=>[G.s s]),∀ y∈gC (l.map fun s=>[G.s s]),aq [.str] x y=true→x=y:=fun x g y q h=>by
  obtain⟨s,rfl⟩:=d x g;obtain⟨t,rfl⟩:=d y q;have:aq [.str] [.s s] [.s t]=((s.toList==t.toList)&&true):=rfl;rw[this,dU,Da,decide_eq_true_eq]at h;rw[h]
 refine Tn (Zv (R:=fun a b=>di (gi a 0).str (gi b 0).str<0) (fun a b c h1 k=>fU.tr _ _ _ h1 k) (fun x g=>?_) (fun a b c h1 k=>lx h1 k) he (ain _)) (JY l) fun r=>?_
 ·obtain ⟨s, rfl⟩ := d x g
  exact GO [.str] _ rfl
 ·rw[Zs he,JZ,Dn]
theorem Tv(a b:List G):aq [.str] (aR [.str] a) (aR [.str] b)=((gi a 0).str.toList==(gi b 0).str.toList):=by
 show (((gi a 0).str.toList==(gi b 0).str.toList)&&true)=_
 rw[dU]
theorem aiq:Jg=qn [.str] [.s (⟨#[]⟩:ByteArray)]:=by
 funext d
 unfold qn;simp only[Tv];rfl
theorem air:CW=oH [.str] [.s (⟨#[]⟩:ByteArray)]:=by
 funext d
 unfold CW oH;simp only[Tv,aiq]
theorem ais:yD=xS [.str] [.s (⟨#[]⟩:ByteArray)]:=by
 funext d
 unfold yD xS;rw[air]
def jg(d:List G):ByteArray:=(gi d 0).str
theorem Tw{d:List G}(h:aV d):jg d∈fj:=by
 obtain⟨_,_,_,_,_,_,_,_,_,_,_,_,_,_,_,rfl,h,_⟩:=h;exact h
theorem qD(ks:List Kd)(r:List G)(rs:List (List G))(key:List G):dX ks (r::rs) key=bif aq ks key (gi r 0).row then kX r else dX ks rs key:=by
 unfold dX;simp only[c_];cases aq ks key (gi r 0).row with
 |true=>rfl
 | false =>
  simp only[cond_false];rw[ny ks key rs (0+1)];cases c_ ks key rs 0<;>rfl
theorem qE(ks:List Kd)(r:List G)(rs:List (List G))(key:List G):ft ks (r::rs) key=bif aq ks key (gi r 0).row then (gi r 3).bool else ft ks rs key:=by
 unfold ft;simp only[c_];cases aq ks key (gi r 0).row with
 |true=>rfl
 | false =>
  simp only[cond_false];rw[ny ks key rs (0+1)];cases c_ ks key rs 0<;>rfl
theorem Tx(ks:List Kd)(r:List G)(rs:List (List G))(key:List G):gv ks (r::rs) key=bif aq ks key (gi r 0).row then [gi r 0,gi r 1,gi r 2,.t false]::rs else r::gv ks rs key:=by
 unfold gv;simp only[c_];cases aq ks key (gi r 0).row with
 |true=>rfl
 | false =>
  simp only[cond_false];rw[ny ks key rs (0+1)];cases c_ ks key rs 0<;>rfl
theorem Ty(ks:List Kd)(r:List G)(rs:List (List G))(key:List G)(v:List (List G))(c:Nat):jK ks (r::rs) key v c=bif aq ks key (gi r 0).row then [.l [key],.l [[.l v]],.i (gi r 2).int,.t true]::rs else r::jK ks rs key v c:=by
 unfold jK;simp only[c_];cases aq ks key (gi r 0).row with
 |true=>rfl
 | false =>
  simp only[cond_false];rw[ny ks key rs (0+1)];cases c_ ks key rs 0<;>rfl
theorem J0(ks:List Kd)(k key:List G):∀ rows:List (List G),dX ks (gv ks rows k) key=dX ks rows key
 | []=>rfl
 | r::rs=>by
  rw[Tx];cases h:aq ks k (gi r 0).row with
  | true =>
   rw[cond_true,qD,qD];rfl
  |false=>rw[cond_false,qD,qD,J0 ks k key rs]
theorem J1(ks:List Kd){k key:List G}(d:aq ks key k=false):∀ rows:List (List G),ft ks (gv ks rows k) key=ft ks rows key
 | []=>rfl
 | r::rs=>by
  rw[Tx];cases h:aq ks k (gi r 0).row with
  | true =>
   have e:aq ks key (gi r 0).row=false:=by rw[←xP h]; exact d
   rw[cond_true,qE,qE,e];show (bif aq ks key (gi r 0).row then _ else _)=_
   rw[e];rfl
  |false=>rw[cond_false,qE,qE,J1 ks d rs]
theorem Tz(ks:List Kd)(k key:List G)(v:List (List G))(c:Nat):∀ rows:List (List G),dX ks (jK ks rows k v c) key=bif aq ks key k then v else dX ks rows key
 | []=>by
  show dX ks [[.l [k],.l [[.l v]],.i (c:Int),.t true]] key=_
  rw[qD];rfl
 | r::rs=>by
  rw[Ty,qD];cases h:aq ks k (gi r 0).row with
  | true =>
   rw[cond_true,qD];have e:aq ks key (gi r 0).row=aq ks key k:=(xP h).symm;rw[e];show (bif aq ks key k then _ else _)=_
   cases aq ks key k<;>rfl
  | false =>
   rw[cond_false,qD,Tz ks k key v c rs];cases d:aq ks key (gi r 0).row with
   |false=>rfl
   | true =>
    cases g:aq ks key k with
    |false=>rfl
    | true =>
     have:aq ks k (gi r 0).row=true:=lx (by rw[jT]; exact g) d;rw[this]at h;cases h
theorem TA(ks:List Kd)(k key:List G)(v:List (List G))(c:Nat):∀ rows:List (List G),ft ks (jK ks rows k v c) key=bif aq ks key k then true else ft ks rows key
 | []=>by
  show ft ks [[.l [k],.l [[.l v]],.i (c:Int),.t true]] key=_
  rw[qE];rfl
 | r::rs=>by
  rw[Ty,qE];cases h:aq ks k (gi r 0).row with
  | true =>
   rw[cond_true,qE];have e:aq ks key (gi r 0).row=aq ks key k:=(xP h).symm;rw[e];show (bif aq ks key k then _ else _)=_
   cases aq ks key k<;>rfl
  | false =>
   rw[cond_false,qE,TA ks k key v c rs];cases d:aq ks key (gi r 0).row with
   |false=>rfl
   | true =>
    cases g:aq ks key k with
    |false=>rfl
    | true =>
     have:aq ks k (gi r 0).row=true:=lx (by rw[jT]; exact g) d;rw[this]at h;cases h
structure y4 (Q:List G→Prop) (m:List (List G)) (n:ByteArray→Nat):Prop where
 ft:∀ k,ft [.str] m [.s k]=true
 get:∀ k,(dX [.str] m [.s k]).length≤n k∧∀ z∈dX [.str] m [.s k],Q z
theorem y4.nil(Q:List G→Prop):y4 Q [] fun _=>0:=⟨fun _=>rfl,fun _=>⟨aI _,by intro z d; cases d⟩⟩
theorem y4.mono{Q:List G→Prop}{m:List (List G)}{n d:ByteArray→Nat}(h:y4 Q m n)(hn:∀ k,n k≤d k):y4 Q m d :=
 ⟨h.ft,fun k=>⟨nJ (h.get k).1 (hn k),(h.get k).2⟩⟩
def dw(e:List G):List G:=(gi e 0).row
theorem vD{K:List Kd}{x:List G}:∀{m:List (List G)},bp K m x=false↔∀ e∈m,aq K x (dw e)=false
 | []=>by simp[mo]
 | r::rs=>by
  rw[mq,akq,vD (m:=rs)];simp[dw]
theorem J2{K:List Kd}{x:List G}{m:List (List G)}:bp K m x=true↔∃ e∈m,aq K x (dw e)=true:=by
 cases h:bp K m x with
 | true =>
  refine⟨fun _=>?_,fun _=>rfl⟩;refine Ku fun hn=>?_;have:bp K m x=false:=vD.2 fun e he=>by
   cases hr:aq K x (dw e)with
   |false=>rfl
   |true=>exact(hn ⟨e,he,hr⟩).elim
  rw[this]at h;cases h
 | false =>
  refine⟨fun h=>(by cases h),fun⟨e,he,hr⟩=>?_⟩;rw[vD.1 h e he]at hr;cases hr
theorem TB(K:List Kd)(r:List G)(rs:List (List G))(k:List G):jJ K (r::rs) k=bif aq K k (gi r 0).row then rs else r::jJ K rs k:=by
 unfold jJ;simp only[c_];cases aq K k (gi r 0).row with
 |true=>rfl
 | false =>
  simp only[cond_false];rw[ny K k rs (0+1)];cases c_ K k rs 0<;>rfl
theorem TC(K:List Kd)(k:List G):jJ K [] k=[]:=rfl
structure dE (K:List Kd) (Q:List G→Prop) (m:List (List G)) (clk:Nat):Prop where
 form:∀ e∈m,∃(k v:List G) (n:Nat),e=[.l [k],.l [v],.i (n:Int)]∧n<clk∧Q k
 born:(m.map bI).Nodup
 keys:m.Pairwise fun a b=>aq K (dw a) (dw b)=false
theorem dE.nil{K:List Kd}{Q:List G→Prop}:dE K Q [] 0:=⟨by simp,by simp,by simp⟩
theorem dE.tail{K:List Kd}{Q:List G→Prop}{r:List G}{m:List (List G)}{clk:Nat}(h:dE K Q (r::m) clk):dE K Q m clk :=
 ⟨fun e he=>h.form e (bS _ he),(kg.1 h.born).2,(kO.1 h.keys).2⟩
theorem dE.perm{K:List Kd}{Q:List G→Prop}{m p:List (List G)}{clk:Nat}(h:dE K Q m clk)(d:p.Perm m):dE K Q p clk :=
 ⟨fun e he=>h.form e (d.mem_iff.1 he),(d.map bI).nodup_iff.2 h.born,d.symm.pairwise h.keys fun {a b} g=>by rw[jT]; exact g⟩
theorem dE.eA{K:List Kd}{Q:List G→Prop}{m:List (List G)}{clk:Nat}(h:dE K Q m clk):eA m clk=true:=by
 simp only[AL.eA,JK _ h.born,jj,ep,iA];intro e he;obtain⟨k,v,n,rfl,hn,_⟩:=h.form e he;exact hn
theorem dE.get{K:List Kd}{Q:List G→Prop}:∀{m:List (List G)} {clk:Nat},dE K Q m clk→∀ e∈m,∀ z,(∀ k,Q k→aq K k k=true)→bZ K m (dw e) z=(gi e 1).row
 | r::rs,clk,h,e,he,z,d=>by
  rw[uG];rcases bC.1 he with rfl|he
  ·obtain ⟨k, v, n, rfl, _, h1⟩ := h.form _ cJ
   rw[show aq K (dw [G.l [k],.l [v],.i (n:Int)]) (gi [G.l [k],.l [v],.i (n:Int)] 0).row=true from d k h1];rfl
  ·have := (kO.1 h.keys).1 e he
   rw[jT]at this;rw[show aq K (dw e) (gi r 0).row=false from this];exact h.tail.get e he z d
theorem vE{K:List Kd}{k v:List G}{clk:Nat}:∀{m:List (List G)},(bK K m k v clk).map bI=(bif bp K m k then m.map bI else m.map bI++[clk]) ∧
  ∀ e∈bK K m k v clk,e∈m∨∃ z:Int,e=[.l [k],.l [v],.i z]∧((∃ r∈m,z=(gi r 2).int)∨(z=clk∧bp K m k=false))
 | []=>by
  rw[uH,mo];exact⟨by simp[bI,gi,G.int],fun e he=>.inr ⟨clk,iz.1 he,.inr ⟨rfl,rfl⟩⟩⟩
 | r::rs=>by
  obtain⟨h1,g⟩:=vE (K:=K) (k:=k) (v:=v) (clk:=clk) (m:=rs);rw[uI,mq];cases hs:aq K k (gi r 0).row with
  | true =>
   refine⟨rfl,fun e he=>?_⟩;rw[cond_true]at he;rcases bC.1 he with rfl|he
   ·exact .inr ⟨_,rfl,.inl ⟨r,cJ,rfl⟩⟩
   ·exact .inl (bS _ he)
  | false =>
   rw[cond_false,gJ];refine⟨?_,fun e he=>?_⟩
   ·rw [dK, h1]
    cases bp K rs k<;>rfl
   ·rcases bC.1 he with rfl | he
    ·exact .inl cJ
    ·rcases g e he with h | ⟨z, rfl, ⟨q, d, rfl⟩ | ⟨rfl, d⟩⟩
     ·exact .inl (bS _ h)
     ·exact .inr ⟨_,rfl,.inl ⟨q,bS _ d,rfl⟩⟩
     ·exact .inr ⟨_,rfl,.inr ⟨rfl,d⟩⟩
theorem TD{K:List Kd}{k v:List G}{clk:Nat}:∀{m:List (List G)},m.Pairwise (fun a b=>aq K (dw a) (dw b)=false)→(bK K m k v clk).Pairwise fun a b=>aq K (dw a) (dw b)=false
 | [],_=>by
  rw[uH];exact List.pairwise_singleton _ _
 | r::rs,h=>by
  obtain⟨h1,d⟩:=kO.1 h;rw[uI];cases hs:aq K k (gi r 0).row with
  | true =>
   rw[cond_true];refine kO.2 ⟨fun b q=>?_,d⟩;cases hc:aq K (dw [G.l [k],.l [v],.i (gi r 2).int]) (dw b)with
   |false=>rfl
   | true =>
    have g:aq K (dw r) (dw b)=true:=lx (by rw[jT]; exact hs) (show aq K k (dw b)=true from hc);rw[h1 b q]at g;cases g
  | false =>
   rw[cond_false];refine kO.2 ⟨?_,TD d⟩;refine vD.1 ?_;rw[qm,jT,show aq K k (dw r)=false from hs,gJ];exact vD.2 h1
theorem dE.put{K:List Kd}{Q:List G→Prop}{m:List (List G)}{clk:Nat}(h:dE K Q m clk){k:List G}(hk:Q k)(v:List G):dE K Q (bK K m k v clk) (cU K m k clk):=by
 obtain⟨g,q⟩:=vE (K:=K) (k:=k) (v:=v) (clk:=clk) (m:=m);have d:∀ n∈m.map bI,n<clk:=fun n hn=>by
  obtain⟨e,he,rfl⟩:=bR.1 hn;obtain⟨w,v,n,rfl,hn,_⟩:=h.form e he;exact hn
 refine⟨fun e he=>?_,?_,TD h.keys⟩
 ·unfold cU
  rcases q e he with he|⟨z,rfl,⟨r,hr,rfl⟩|⟨rfl,A⟩⟩
  ·obtain ⟨w, u, n, B, hn, hw⟩ := h.form e he
   refine⟨w,u,n,B,?_,hw⟩;cases bp K m k
   ·exact mN hn
   ·exact hn
  ·obtain ⟨w, u, n, rfl, hn, _⟩ := h.form r hr
   refine⟨k,v,n,rfl,?_,hk⟩;cases bp K m k
   ·exact mN hn
   ·exact hn
  ·rw [A]
   exact⟨k,v,clk,rfl,DP clk,hk⟩
 ·rw [g]
  cases bp K m k with
  |true=>exact h.born
  | false =>
   rw[cond_false,zJ];refine⟨h.born,by simp,fun a F b I e=>?_⟩;rw[iz]at I;have:=d a F;omega
theorem y5{K:List Kd}{k:List G}:∀{m:List (List G)},(jJ K m k).Sublist m
 | []=>by rw[TC]; exact ak2 _
 | r::rs=>by
  rw[TB];cases aq K k (gi r 0).row with
  |true=>exact List.sublist_cons_self _ _
  |false=>exact y5.cons_cons _
theorem dE.del{K:List Kd}{Q:List G→Prop}{m:List (List G)}{clk:Nat}(h:dE K Q m clk)(k:List G):dE K Q (jJ K m k) clk :=
 ⟨fun e he=>h.form e (y5.subset he),h.born.sublist (y5.map _),h.keys.sublist y5⟩
theorem TE{K:List Kd}{k x:List G}:∀{m:List (List G)},m.Pairwise (fun a b=>aq K (dw a) (dw b)=false)→bp K (jJ K m k) x=(!aq K x k&&bp K m x)
 | [],_=>by rw[TC,mo,Bool.and_false]
 | r::rs,h=>by
  obtain⟨h1,g⟩:=kO.1 h;rw[TB,mq];cases hs:aq K k (gi r 0).row with
  | true =>
   rw[cond_true];cases d:aq K x k with
   | true =>
    have:aq K x (gi r 0).row=true:=lx d hs;have q:bp K rs x=false:=vD.2 fun e he=>by
     cases hc:aq K x (dw e)with
     |false=>rfl
     | true =>
      have:=lx (by rw[jT]; exact this) hc;rw[show aq K (gi r 0).row (dw e)=false from h1 e he]at this;cases this
    rw[q];rfl
   | false =>
    have:aq K x (gi r 0).row=false:=by
     cases hc:aq K x (gi r 0).row with
     |false=>rfl
     | true =>
      have:=lx hc (show aq K (gi r 0).row k=true by rw[jT]; exact hs);rw[d]at this;cases this
    rw[this];rfl
  | false =>
   rw[cond_false,mq,TE g];cases d:aq K x k with
   | true =>
    have:aq K x (gi r 0).row=false:=by
     cases hc:aq K x (gi r 0).row with
     |false=>rfl
     | true =>
      have:=lx (show aq K k x=true by rw[jT]; exact d) hc;rw[hs]at this;cases this
    rw[this];rfl
   |false=>rfl
def mC(k:List G):Prop:=∃ n:Int,k=[.i n]
theorem kH(a b:Int):aq [.int .i64] [.i a] [.i b]=decide (a=b):=by
 show ((a==b)&&true)=_
 rw[dU];rfl
def dp(m:List (List G))(n:Int):Int:=(gi (bZ [.int .i64] m [.i n] [.i 0]) 0).int
theorem J3(n:Int):dp [] n=0:=rfl
def bump(s:List (List G) × Nat)(n:Int):List (List G) × Nat:=(bK [.int .i64] s.1 [.i n] [.i (dp s.1 n+1)] s.2,cU [.int .i64] s.1 [.i n] s.2)
theorem ait(s:List (List G) × Nat)(n k:Int):dp (bump s n).1 k=dp s.1 k+(if k=n then 1 else 0):=by
 unfold bump;show (gi (bZ [.int .i64] (bK [.int .i64] s.1 [.i n] [.i (dp s.1 n+1)] s.2) [.i k] [.i 0]) 0).int=_
 rw[nz,kH];by_cases h:k=n
 ·rw [decide_eq_true h, if_pos h, h]
  rfl
 ·rw [decide_eq_false h, if_neg h, akr]
  rfl
theorem Dp(k:Int):∀(l:List Int) (s:List (List G) × Nat),dp (l.foldl bump s).1 k=dp s.1 k+(l.count k:Nat)
 | [],s=>by simp
 | n::l,s=>by
  rw[kK,Dp k l,ait,List.count_cons];by_cases h:k=n
  ·subst h
   simp;omega
  ·rw [if_neg h, if_neg (by simpa using fun e => h e.symm)]
   omega
theorem J4:∀(l:List Int) (s:List (List G) × Nat),dE [.int .i64] mC s.1 s.2→dE [.int .i64] mC (l.foldl bump s).1 (l.foldl bump s).2
 | [],s,h=>h
 |n::l,s,h=>J4 l (bump s n) (h.put ⟨n,rfl⟩ _)
theorem Dq(k:Int):∀(l:List Int) (s:List (List G) × Nat),bp [.int .i64] (l.foldl bump s).1 [.i k]=(bp [.int .i64] s.1 [.i k]||l.contains k)
 | [],s=>by simp
 | n::l,s=>by
  rw[kK,Dq k l];have:bp [.int .i64] (bump s n).1 [.i k]=(decide (k=n)||bp [.int .i64] s.1 [.i k]):=by
   unfold bump;rw[qm,kH]
  rw[this,UT];cases bp [.int .i64] s.1 [.i k]<;>cases h:decide (k=n)<;>simp_all
theorem J5:∀(l:List Int) (s:List (List G) × Nat),(l.foldl bump s).1.length≤s.1.length+l.length
 | [],s=>by simp
 | n::l,s=>by
  have h1:=J5 l (bump s n);have d:(bump s n).1.length≤s.1.length+1:=by
   unfold bump;have:=(vE (K:=[.int .i64]) (k:=[.i n]) (v:=[.i (dp s.1 n+1)]) (clk:=s.2) (m:=s.1)).1;have:=congrArg pk this;rw[bu]at this;rw[this];cases bp [.int .i64] s.1 [.i n]<;>simp
  rw[kK,cF];omega
def j7(f:Int→Bool):Nat→Int→Option Int
 |0,_=>none
 |k+1,n=>if f n then some n else j7 f k (n+1)
theorem TF{f g:Int→Bool}:∀(k:Nat) (n:Int),1≤n→n+k≤100000→(∀ n,1≤n→n≤99999→f n=g n)→j7 f k n=j7 g k n
 |0,_,_,_,_=>rfl
 | k+1,n,h1,d,h=>by
  unfold j7;rw[h n h1 (by omega),TF k (n+1) (by omega) (by omega) h]
def TG(d:Int→List G)(g:List G):Option Int→Nat × List G
 |some n=>(0,d n)
 |none=>(1,g)
theorem TH{st:List G→Option (Option Nat × List G)}(mk:Int→List G)(f:Int→Bool)(q:Int→List G)(A:List G)(h0:∀ n,1≤n→n≤99999→f n=true→st (mk n)=some (some 0,q n))
  (h1:∀ n,1≤n→n≤99999→f n=false→st (mk n)=some (none,mk (n+1))) (B:st (mk 100000)=some (some 1,A)):fw st (mk 1) fun c g=>(c,g)=TG q A (j7 f 99999 1):=by
 have key:∀(k:Nat) (n:Int),1≤n→n+k=100000→cD st (mk n) (k+1) fun c g=>(c,g)=TG q A (j7 f k n):=by
  intro k
  induction k with
  | zero =>
   intro n hn hk;have:n=100000:=by omega
   subst this;exact cD.stop B rfl
  | succ k F =>
   intro n hn hk;cases d:f n with
   |true=>exact cD.stop (h0 n hn (by omega) d) (by unfold j7; rw[d]; rfl)
   | false =>
    refine cD.next (h1 n hn (by omega) d) ?_
    have:=F (n+1) (by omega) (by omega);refine this.mono fun c g h=>?_;rw[h]
    conv=>rhs; unfold j7
    rw[d];rfl
 exact(key 99999 1 (by omega) (by omega)).to (by omega)
theorem TI{β:Type}{sp:eu}{tl:List G→Option (List G)}{rows:List (List G)}{clock:Nat}{d:List G}{k:List G→Option β}{r:β}(aL:eA rows clock=true)(h:∀ b p,p.Perm rows→∃ e,nv sp tl d b p=some e∧k e=some r):uE sp tl rows clock d k=some r:=by
 unfold uE;rw[aL];refine xp fun b p g=>?_;obtain⟨e,h1,q⟩:=h b p g;rw[h1];exact q
def eO(cs:List (List G)):List Int:=(cs.map fun c=>(gi c 4).int).filter fun n=>decide (0<n)
theorem J6(cs:List (List G)):(eO cs).length≤cs.length:=by
 unfold eO;have:=pq (fun n=>decide (0<n)) (cs.map fun c=>(gi c 4).int);rw[bu]at this;exact this
def cu(cs:List (List G)):List (List G) × Nat:=(eO cs).foldl bump ([],0)
theorem vF(cs:List (List G))(k:Int):dp (cu cs).1 k=((eO cs).count k:Nat):=by
 unfold cu;rw[Dp,J3,UU]
section
variable {dd cs ss ot held:List (List G)} {ck:Nat}
theorem TJ(hn:cs.length≤1000):oL [.l dd,.l cs,.l ss,.l ot,.l held,.i (ck:Int)]=some [.l dd,.l cs,.l ss,.l ot,.l held,.i (ck:Int),.l (cu cs).1,.i ((cu cs).2:Int)]:=by
 refine aa.toEq ?_;unfold oL
 (dsimp +instances only[Aa,Ab,Ac,Ad,Ae,Af,Ag])
 simp only[aH];refine aa.loop ((iq (σ:=List (List G) × Nat) (fun s i=>[.l dd,.l cs,.l ss,.l ot,.l held,.i (ck:Int),.l s.1,.i (s.2:Int),.l cs,.i (cs.length:Int),.i (i:Int)]) cs
  (fun s=>(0,[.l dd,.l cs,.l ss,.l ot,.l held,.i (ck:Int),.l s.1,.i (s.2:Int)])) (fun s i=>s=cu (cs.take i)) ([],0) (by omega) rfl ?_ ?_)) rfl ?_
 ·rintro s i c d hi q hm A
  have hlen:(eO (cs.take i)).length≤1000:=by
   have:=J6 (cs.take i);rw[fZ]at this;omega
  have hc:=vF (cs.take i) (gi c 4).int;have B:=KM (a:=(gi c 4).int) (l:=eO (cs.take i));rw[←d]at hc;have k:cu (cs.take (i+1))=bif decide (0<(gi c 4).int) then bump s (gi c 4).int else s:=by
   rw[A,d];unfold cu eO;rw[fm,po,pr];simp only[dK,pj,s8,DU];cases decide (0<(gi c 4).int)<;>rfl
  unfold Cg
  (dsimp +instances only[Aa,Ab,Ac,Ad,Ae,Af,Ag])
  simp only[aH,q];refine aa.p (aa.p ?_);cases h0:decide (0<(gi c 4).int)with
  | true =>
   rw[h0]at k;refine aa.pos (by rw[dG]; exact h0) (aa.pos ?_ (aa.p (aa.some ⟨_,rfl,k.symm⟩)));show aw (dp s.1 (gi c 4).int+1)=true
   rw[hc]
   (first|rfl|assumption|(simp only[aw,sl]<;>omega))
  | false =>
   rw[h0]at k;exact aa.neg (by rw[dG]; exact h0) (aa.p (aa.some ⟨_,rfl,k.symm⟩))
 ·rintro s _
  unfold Cg
  (dsimp +instances only[Aa,Ab,Ac,Ad,Ae,Af,Ag])
  simp only[aH];exact aa.n (aa.some rfl)
 ·rintro c g ⟨s, d, rfl, rfl⟩
  rw[jl]at d;subst d
  (dsimp +instances only[Aa,Ab,Ac,Ad,Ae,Af,Ag])
  simp only[aH];exact aa.some rfl
def da(e:List G):Int:=(gi (gi e 0).row 1).int
def du(p:List (List G)):List (List G) × Nat:=(p.map da).foldl bump ([],0)
theorem y6(p:List (List G))(k:Int):dp (du p).1 k=((p.map da).count k:Nat):=by
 unfold du;rw[Dp,J3,UU]
theorem TK(aT:Nat):∀(q:List (List G)) (s:List (List G) × Nat) (l:List Int),s=l.foldl bump ([],0)→l.length+q.length≤1000 →
  bP sb (fun d=>(gi d 8).int.toNat) q [.l dd,.l cs,.l ss,.l ot,.l held,.i (ck:Int),.l s.1,.i (s.2:Int),.i (aT:Int)] =
   some [.l dd,.l cs,.l ss,.l ot,.l held,.i (ck:Int),.l ((q.map da).foldl bump s).1,.i (((q.map da).foldl bump s).2:Int),.i (aT:Int)]
 | [],s,l,_,_=>by simp[bP]
 | e::q,s,l,hs,g=>by
  have hc:dp s.1 (da e)=(l.count (da e):Nat):=by rw[hs,Dp,J3,UU]
  have A:=KM (a:=da e) (l:=l);simp only[cF]at g;have h1:sb e [.l dd,.l cs,.l ss,.l ot,.l held,.i (ck:Int),.l s.1,.i (s.2:Int),.i (aT:Int)]=some [.l dd,.l cs,.l ss,.l ot,.l held,.i (ck:Int),.l (bump s (da e)).1,.i ((bump s (da e)).2:Int),.i (aT:Int)]:=by
   unfold sb
   (dsimp +instances only[Aa,Ab,Ac,Ad,Ae,Af,Ag])
   simp only[aH];have:aw (dp s.1 (da e)+1)=true:=by
    rw[hc]
    (first|rfl|assumption|(simp only[aw,sl]<;>omega))
   rw[show aw ((gi (bZ [.int .i64] s.1 [.i (gi (gi e 0).row 1).int] [.i 0]) 0).int+1)=true from this];rfl
  have k:=TK aT q (bump s (da e)) (l++[da e]) (by rw[pr,←hs]; rfl) (by simp; omega);simp only[bP,h1,zF,Ab,Aa,G.int,aH];exact k
theorem TL(b:Nat)(p:List (List G))(g:p.length≤1000):nv sd oM [.l dd,.l cs,.l ss,.l ot,.l held,.i (ck:Int),.l [],.i 0] b p =
  some [.l dd,.l cs,.l ss,.l ot,.l held,.i (ck:Int),.l (du p).1,.i ((du p).2:Int)]:=by
 have h:=TK (dd:=dd) (cs:=cs) (ss:=ss) (ot:=ot) (held:=held) (ck:=ck) b p ([],0) [] rfl (by simp; omega);show (bif true then (bP sb (fun d=>(gi d 8).int.toNat) p [.l dd,.l cs,.l ss,.l ot,.l held,.i (((ck:Int).toNat:Nat):Int),.l [],.i ((((0:Int).toNat:Nat)):Int),.i (b:Int)]).bind oM else none)=_
 simp only[aH,cond_true];rw[show ((0:Int).toNat:Nat)=0 from rfl];rw[show (((0:Nat):Int))=(((([],0):List (List G) × Nat).2:Nat):Int) from rfl];rw[h];show oM _=_
 unfold oM
 (dsimp +instances only[Aa,Ab,Ac,Ad,Ae,Af,Ag])
 simp only[aH];rfl
def sN(cs held:List (List G))(n:Int):Bool:=((eO cs).count n==0)&&((held.map da).count n==0)
def sO:Option Int→List G
 |some n=>[.i n,.i 0]
 |none=>[.i 0,.i 12]
theorem aiu(hn:cs.length≤1000)(B:held.length≤1000)(aL:eA held ck=true):vd [.l dd,.l cs,.l ss,.l ot,.l held,.i (ck:Int)]=some ([.l dd,.l cs,.l ss,.l ot,.l held,.i (ck:Int)]++sO (j7 (sN cs held) 99999 1)):=by
 unfold vd;have h1:oL (H7 [.l dd,.l cs,.l ss,.l ot,.l held,.i (ck:Int)])=some [.l dd,.l cs,.l ss,.l ot,.l held,.i (ck:Int),.l (cu cs).1,.i ((cu cs).2:Int)]:=TJ hn;rw[xl h1];refine TI aL fun b p A=>⟨_,TL b p (by rw[A.length_eq]; exact B),?_⟩
 refine aa.toEq ?_;unfold Cj
 (dsimp +instances only[Aa,Ab,Ac,Ad,Ae,Af,Ag])
 simp only[aH];have q:∀ n,((p.map da).count n)=((held.map da).count n):=fun n=>(A.map da).count_eq n;refine aa.loop (TH (st:=vc) (fun n=>[.l dd,.l cs,.l ss,.l ot,.l held,.i (ck:Int),.l (cu cs).1,.i ((cu cs).2:Int),.l (du p).1,.i ((du p).2:Int),.i n]) (sN cs held)
  (fun n=>[.l dd,.l cs,.l ss,.l ot,.l held,.i (ck:Int),.i n,.i 0]) [.l dd,.l cs,.l ss,.l ot,.l held,.i (ck:Int)] (fun n F I d=>?_) (fun n F I d=>?_) ?_) rfl fun c g k=>?_
 ·unfold sN at d
  simp only[ay,beq_iff_eq]at d;refine aa.toEq ?_;unfold vc
  (dsimp +instances only[Aa,Ab,Ac,Ad,Ae,Af,Ag])
  simp only[aH];refine aa.p (aa.pos ?_ (aa.pos ?_ (aa.some rfl)))
  ·show (dp (cu cs).1 n == 0) = true
   rw[vF,d.1];rfl
  ·show (dp (du p).1 n == 0) = true
   rw[y6,q,d.2];rfl
 ·unfold sN at d
  refine aa.toEq ?_;unfold vc
  (dsimp +instances only[Aa,Ab,Ac,Ad,Ae,Af,Ag])
  simp only[aH];refine aa.p ?_;cases hs:(eO cs).count n==0 with
  | true =>
   rw[hs,jj]at d;refine aa.pos ?_ (aa.neg ?_ (aa.p (aa.some rfl)))
   ·show (dp (cu cs).1 n == 0) = true
    rw[vF];simp only[beq_iff_eq]at hs⊢;rw[hs];rfl
   ·show (dp (du p).1 n == 0) = false
    rw[y6,q];simp only[beq_eq_false_iff_ne,ne_eq]at d⊢;omega
  | false =>
   refine aa.neg ?_ (aa.p (aa.some rfl));show (dp (cu cs).1 n==0)=false
   rw[vF];simp only[beq_eq_false_iff_ne,ne_eq]at hs⊢;omega
 ·refine aa.toEq ?_
  unfold vc
  (dsimp +instances only[Aa,Ab,Ac,Ad,Ae,Af,Ag])
  simp only[aH];exact aa.n (aa.some rfl)
 ·cases d : j7 (sN cs held) 99999 1 with
  | some n =>
   rw[d]at k;cases k
   (dsimp +instances only[Aa,Ab,Ac,Ad,Ae,Af,Ag])
   simp only[aH];exact aa.pos rfl (aa.some rfl)
  | none =>
   rw[d]at k;cases k
   (dsimp +instances only[Aa,Ab,Ac,Ad,Ae,Af,Ag])
   simp only[aH];exact aa.neg rfl (aa.some rfl)
end
def dq(r:List G):Prop:=∃(s:ByteArray) (n:Int),r=[.s s,.i n]∧small n∧s∈fj
theorem dq.eta{r:List G}(h:dq r):aR bk r=r:=by
 obtain⟨s,n,rfl,_⟩:=h;rfl
def cg(d:List G):List G:=[.s (gi d 0).str,.i (gi d 8).int]
theorem aV.own{d:List G}(h:aV d):dq (cg d):=by
 obtain⟨si,no,at_,kd,t,m,b,c,s,h,x,y,bd,ba,ot,rfl,d1,_,_,_,⟨_,_,_,_,g,_,_,_⟩,_⟩:=h;exact⟨si,s,rfl,g,d1⟩
theorem aiv(a b:ByteArray)(m n:Int):aq bk [.s a,.i m] [.s b,.i n]=(decide (a=b)&&decide (m=n)):=by
 have:aq bk [.s a,.i m] [.s b,.i n]=((a.toList==b.toList)&&((m==n)&&true)):=rfl;rw[this,dU,Da];rfl
theorem qF{r s:List G}(hr:dq r)(hs:dq s):aq bk r s=true↔r=s:=by
 obtain⟨a,m,rfl,_⟩:=hr;obtain⟨b,n,rfl,_⟩:=hs;rw[aiv,ay,decide_eq_true_eq,decide_eq_true_eq];constructor
 ·rintro ⟨rfl, rfl⟩
  rfl
 ·intro h
  injection h with h1 d
  injection h1 with h1
  injection d with d
  injection d with d
  exact⟨h1,d⟩
def qG(k d:List G):Bool:=aq bk k (cg d)
def eW(k d:List G):Bool:=((gi d 3).int==4||(gi d 3).int==1)&&qG k d
def oT(k d:List G):Bool:=(gi d 3).int==3&&qG k d
def lL(k:List G):List (List G)→Bool
 | []=>false
 |d::q=>(oT k d && !(q.any (eW k)))||lL k q
def y7(k:List G)(b:Bool)(d:List G):Bool:=bif oT k d then true else bif eW k d then false else b
theorem TM(k:List G):∀(q:List (List G)) (b:Bool),q.foldl (y7 k) b=(lL k q||(b && !(q.any (eW k))))
 | [],b=>by simp[lL]
 | d::q,b=>by
  rw[kK,TM k q];unfold y7;simp only[lL,tb];have g:oT k d=true→eW k d=false:=fun h=>by
   unfold oT at h;unfold eW;simp only[ay,beq_iff_eq]at h;rw[h.1];rfl
  cases h1:oT k d with
  | true =>
   rw[g h1];cases lL k q<;>cases q.any (eW k)<;>cases b<;>rfl
  |false=>cases eW k d<;>cases lL k q<;>cases q.any (eW k)<;>cases b<;>rfl
theorem TN:∀(l:List (List G)) (s:List (List G) × Nat),(∀ d∈l,aV d)→dE bk dq s.1 s.2→dE bk dq (l.foldl jA s).1 (l.foldl jA s).2∧(∀ k,bp bk (l.foldl jA s).1 k=l.foldl (y7 k) (bp bk s.1 k))∧(l.foldl jA s).1.length≤s.1.length+l.length
 | [],s,_,h=>⟨h,fun _=>rfl,by simp⟩
 | d::l,s,q,h=>by
  have B:=q d cJ;have g:dE bk dq (jA s d).1 (jA s d).2∧(∀ k,bp bk (jA s d).1 k=y7 k (bp bk s.1 k) d)∧(jA s d).1.length≤s.1.length+1:=by
   unfold jA y7 oT eW;cases A:(gi d 3).int==3 with
   | true =>
    simp only[cond_true,jj];refine⟨h.put (show dq [.s (gi d 0).str,.i (gi d 8).int] from B.own) _,fun k=>?_,?_⟩
    ·rw [qm]
     have F:(gi d 3).int=3:=by simpa using A
     rw[F];show (qG k d||bp bk s.1 k)=_
     cases qG k d<;>rfl
    ·have := (vE (K := bk) (k := [.s (gi d 0).str, .i (gi d 8).int]) (v := [.t true]) (clk := s.2) (m := s.1)).1
     have:=congrArg pk this;rw[bu]at this;rw[this];cases bp bk s.1 [.s (gi d 0).str,.i (gi d 8).int]<;>simp
   | false =>
    simp only[cond_false,Kz];cases M:((gi d 3).int==4||(gi d 3).int==1)with
    | true =>
     simp only[cond_true,jj];refine⟨h.del _,fun k=>?_,?_⟩
     ·rw [TE h.keys]
      show (!qG k d&&bp bk s.1 k)=_
      cases qG k d<;>rfl
     ·have := (y5 (K := bk) (k := [.s (gi d 0).str, .i (gi d 8).int]) (m := s.1)).length_le
      omega
    | false =>
     simp only[cond_false,Kz];exact⟨h,fun k=>by first|rfl|trivial|simp,by omega⟩
  obtain⟨h1,I,A⟩:=TN l (jA s d) (fun x J=>q x (bS _ J)) g.1;refine⟨h1,fun k=>?_,?_⟩
  ·rw[kK,kK,I,g.2.1]
  ·rw [kK, cF]
   have:=g.2.2;omega
theorem y8(l:List (List G))(g:∀ d∈l,aV d):dE bk dq (bj l).1 (bj l).2∧(∀ k,bp bk (bj l).1 k=lL k l)∧(bj l).1.length≤l.length:=by
 obtain⟨h1,q,A⟩:=TN l ([],0) g dE.nil;refine⟨h1,fun k=>?_,by simpa[bj]using A⟩;have:=q k;rw[TM,mo,Kz,Bool.or_false]at this;exact this
def gA:List (List G)→List (List G)→List (List G)
 | [],out=>out
 |d::q,out=>gA q (bif (gi d 3).int==3&&(!(q.any (eW (cg d))) && !(out.any (aq bk (cg d)))) then out++[cg d] else out)
theorem Ds{k:List G}(hk:dq k):∀(q out:List (List G)),(∀ d∈q,aV d)→(∀ r∈out,dq r)→(k∈gA q out↔k∈out∨lL k q=true)
 | [],out,_,_=>by simp[gA,lL]
 | d::q,out,I,F=>by
  have g:=(I d cJ).own;have J:=fun x A=>I x (bS _ A);unfold gA;have M:out.any (aq bk (cg d))=true↔cg d∈out:=by
   rw[List.any_eq_true];constructor
   ·rintro ⟨x, A, e⟩
    rw[(qF g (F x A)).1 e];exact A
   ·intro h
    exact⟨_,h,(qF g g).2 rfl⟩
  have B:oT k d=true↔(gi d 3).int=3∧k=cg d:=by
   unfold oT qG;rw[ay,qF hk g,beq_iff_eq]
  rw[Ds hk q _ J (by
   intro r hr;cases hc:(gi d 3).int==3&&(!(q.any (eW (cg d))) && !(out.any (aq bk (cg d))))with
   | true =>
    rw[hc,cond_true]at hr;rcases bV.1 hr with hr|hr
    ·exact F r hr
    ·rw [iz.1 hr]
     exact g
   |false=>rw[hc]at hr; exact F r hr)]
  simp only[lL,jC,ay,ka];cases hc:(gi d 3).int==3&&(!(q.any (eW (cg d))) && !(out.any (aq bk (cg d))))with
  | true =>
   simp only[ay,beq_iff_eq,ka]at hc;obtain⟨c1,c2,_⟩:=hc;rw[cond_true,bV,iz];constructor
   ·rintro ((h | h) | h)
    ·exact .inl h
    ·exact .inr (.inl ⟨B.2 ⟨c1,h⟩,by rw[h]; exact c2⟩)
    ·exact .inr (.inr h)
   ·rintro (h | ⟨h, _⟩ | h)
    ·exact .inl (.inl h)
    ·exact .inl (.inr (B.1 h).2)
    ·exact .inr h
  | false =>
   rw[cond_false];constructor
   ·rintro (h | h)
    ·exact .inl h
    ·exact .inr (.inr h)
   ·rintro (h | ⟨h1, N⟩ | h)
    ·exact .inl h
    ·obtain ⟨g1, g2⟩ := B.1 h1
     left;rw[g2];refine M.1 ?_;rw[←g2]at hc⊢;cases O:out.any (aq bk k)with
     |true=>rfl
     | false =>
      rw[N,O,g1]at hc;cases hc
    ·exact .inr h
theorem y9:∀(q out:List (List G)),(∀ d∈q,aV d)→(∀ r∈out,dq r)→out.Nodup→(gA q out).Nodup∧(∀ r∈gA q out,dq r)∧(gA q out).length≤out.length+q.length
 | [],out,_,g,hn=>⟨hn,g,by simp[gA]⟩
 | d::q,out,B,g,hn=>by
  have F:=(B d cJ).own;have A:=fun x N=>B x (bS _ N);unfold gA;cases hc:(gi d 3).int==3&&(!(q.any (eW (cg d))) && !(out.any (aq bk (cg d))))with
  | true =>
   simp only[ay,beq_iff_eq,ka]at hc;rw[cond_true];obtain⟨h1,k,I⟩:=y9 q (out++[cg d]) A (fun r hr=>by
    rcases bV.1 hr with hr|hr
    ·exact g r hr
    ·rw [iz.1 hr]
     exact F) (by
    rw[zJ];refine⟨hn,by simp,fun a J b M e=>?_⟩;rw[iz]at M;have:=KL.1 hc.2.2 a J;rw[qF F (g a J)]at this;exact this (by rw[e,M]))
   refine⟨h1,k,?_⟩;simp at I⊢;omega
  | false =>
   rw[cond_false];obtain⟨h1,k,I⟩:=y9 q out A g hn;exact⟨h1,k,by rw[cF]; omega⟩
def bg(l:List (List G)):List (List G):=gA l []
theorem oU{l:List (List G)}(g:∀ d∈l,aV d):∀ r∈bg l,dq r:=(y9 l [] g (by simp) (by simp)).2.1
theorem oV{l:List (List G)}(g:∀ d∈l,aV d):(bg l).length≤l.length:=by simpa[bg]using(y9 l [] g (by simp) (by simp)).2.2
theorem Dt(l:List (List G))(g:∀ d∈l,aV d):((bj l).1.map dw).Perm (bg l):=by
 obtain⟨h1,A,_⟩:=y8 l g;have own:∀ e∈(bj l).1,dq (dw e):=fun e he=>by
  obtain⟨k,v,n,rfl,_,hk⟩:=h1.form e he;exact hk
 refine(US ?_ (y9 l [] g (by simp) (by simp)).1).2 fun k=>?_
 ·rw [qR, qP]
  refine(h1.keys.imp_of_mem fun {a b} F B q e=>?_);rw[e,(qF (own b B) (own b B)).2 rfl]at q;cases q
 ·constructor
  ·intro h
   obtain⟨e,he,rfl⟩:=bR.1 h;refine(Ds (own e he) l [] g (by simp)).2 (.inr ?_);rw[←A];exact J2.2 ⟨e,he,(qF (own e he) (own e he)).2 rfl⟩
  ·intro h
   have hk:=oU g k h;rcases(Ds hk l [] g (by simp)).1 h with h|h
   ·cases h
   ·rw [← A] at h
    obtain⟨e,he,hr⟩:=J2.1 h;exact bR.2 ⟨e,he,((qF hk (own e he)).1 hr).symm⟩
theorem aiw{a b:Int}(h:fI a b=0):a=0∧b=0:=by
 unfold fI at h;by_cases e:a=0
 ·rw [if_neg (by simpa using e)] at h
  exact⟨e,h⟩
 ·rw [if_pos e] at h
  exact absurd h e
def jB(a b:List G):Int:=fI (di (gi a 0).str (gi b 0).str) (d_ (gi a 1).int (gi b 1).int)
theorem TO(r s:List G):jB s r = - jB r s:=vu (fU.flip _ _) (jZ.flip _ _)
theorem Du:fu (bU jB) (fun _=>True):=JG (fun a b=>TO a b) fun a b d h1 g=>Db fU _ _ _ _ _ _ h1 g fun g1 g2=>jZ.le _ _ _ g1 g2
theorem aix{r s:List G}(hr:dq r)(hs:dq s)(h:jB r s=0):r=s:=by
 obtain⟨a,m,rfl,_⟩:=hr;obtain⟨b,n,rfl,_⟩:=hs;obtain⟨h1,d⟩:=aiw h;have g:a=b:=yU.1 h1;have k:m=n:=jZ.eq _ _ d;rw[g,k]
theorem J7{l:List (List G)}(d:∀ r∈l,dq r):∀ a∈l,∀ b∈l,bU jB a b=false→bU jB b a=false→a=b:=fun a k b q h1 g=>by
 refine aix (d a k) (d b q) ?_;unfold bU at h1 g;rw[dG,decide_eq_false_iff_not]at h1 g;have:=TO a b;omega
def dt(l:List (List G)):List (List G):=eU (bU jB) l
theorem aiy{p q:List (List G)}(d:∀ r∈q,dq r)(h:p.Perm q):dt p=dt q:=by
 have g:∀ r∈p,dq r:=fun r hr=>d r (h.mem_iff.1 hr);refine xV (lt:=bU jB) (((nB p).trans h).trans (nB q).symm) (fun a k b A=>J7 g a ((nB p).mem_iff.1 k) b ((nB p).mem_iff.1 A)) ?_ ?_
 ·exact GQ (Du.mono fun _ _=>trivial) (Q:=fun _=>True) (fun _ _=>trivial)
 ·exact GQ (Du.mono fun _ _=>trivial) (Q:=fun _=>True) (fun _ _=>trivial)
theorem aiz(a b:Int):nE [.l [[.i a],[.i b]]]=some [.i (fI a b)]:=by
 refine aa.toEq ?_;unfold nE
 (dsimp +instances only[Aa,Ab,Ac,Ad,Ae,Af,Ag])
 have h:=C_ [[.i a],[.i b]] [] (by simp);refine aa.loop (h.to (by simp)) (by(first|rfl|assumption|(simp only[aw,sl]<;>omega))) ?_;rintro x g ⟨k,rfl⟩;have e:lE [[.i a],[.i b]]=fI a b:=by
  simp only[lE,fI]
  (dsimp +instances only[Aa,Ab,Ac,Ad,Ae,Af,Ag])
  by_cases h1:a=0<;>by_cases d:b=0<;>simp[h1,d]
 rw[e]
 (dsimp +instances only[Aa,Ab,Ac,Ad,Ae,Af,Ag])
 exact aa.test (fun _=>aa.some rfl) fun _=>aa.some rfl
theorem aiA{r s:List G}(hr:dq r)(hs:dq s):sf [.l [r],.l [s]]=some [.i (jB r s)]:=by
 obtain⟨a,m,rfl,_⟩:=hr;obtain⟨b,n,rfl,_⟩:=hs;refine aa.toEq ?_;unfold sf
 (dsimp +instances only[Aa,Ab,Ac,Ad,Ae,Af,Ag])
 refine aa.cE (rfl:ir [.s a,.s b]=some [.i (di a b)]) ?_;refine aa.cE (yT m n) ?_
 (dsimp +instances only[Aa,Ab,Ac,Ad,Ae,Af,Ag])
 refine aa.cE (aiz _ _) ?_;exact aa.some rfl
theorem aiB:ly bk sf dq jB:=⟨fun _ _ hr hs=>aiA hr hs,fun _ h=>h.eta⟩
theorem aiC(a b:Int):nC [.i (a-b)]=some [.i (d_ a b)]:=by
 refine aa.toEq ?_;unfold nC d_
 (dsimp +instances only[Aa,Ab,Ac,Ad,Ae,Af,Ag])
 by_cases h1:a<b
 ·(repeat first|refine aa.p ?_|refine aa.n ?_)
  exact aa.some (by simp[h1])
 ·by_cases d : b < a
  ·(repeat first|refine aa.p ?_|refine aa.n ?_)
   exact aa.some (by simp[h1,d])
  ·(repeat first|refine aa.p ?_|refine aa.n ?_)
   exact aa.some (by simp[h1,d])
theorem aiD{r s:List G}(hr:dq r)(hs:dq s):sq [.l [r],.l [s]]=some [.i (jB r s)]:=by
 obtain⟨a,m,rfl,hm,_⟩:=hr;obtain⟨b,n,rfl,hn,_⟩:=hs;obtain⟨m1,m2⟩:=hm;obtain⟨d,g⟩:=hn;refine aa.toEq ?_;unfold sq jB fI
 (dsimp +instances only[Aa,Ab,Ac,Ad,Ae,Af,Ag])
 rw[sC];by_cases h:di a b=0
 ·rw [decide_eq_true h]
  refine aa.neg rfl (aa.p (aa.call (aa.eq (aiC m n)) ?_));rintro _ rfl;exact aa.some (by simp[h,G.int,gi])
 ·rw [decide_eq_false h]
  refine aa.pos rfl (aa.call (aa.eq (rfl:ir [.s a,.s b]=some [.i (di a b)])) ?_);rintro _ rfl;exact aa.some (by simp[h,G.int,G.str,gi])
theorem aiE:ly bk sq dq jB:=⟨fun _ _ hr hs=>aiD hr hs,fun _ h=>h.eta⟩
theorem Dv{n:Int}(h:small n):oI [.i n]=some [.s (uM n)]:=by
 obtain⟨h1,d⟩:=h;unfold oI
 (dsimp +instances only[Aa,Ab,Ac,Ad,Ae,Af,Ag])
 rw[show (bM (-9223372036854775808) n&&bM n 9223372036854775807)=true by rw[eD,eD,ay,decide_eq_true_eq,decide_eq_true_eq]; omega];rfl
theorem aiF{o d:List G}:CM [.l [o],.l [d],.l [cg d]]=some [.t (eW (cg d) o)]:=by
 have e:eW (cg d) o=(((gi o 3).int==4||(gi o 3).int==1)&&(((gi d 0).str.toList==(gi o 0).str.toList)&&(((gi d 8).int==(gi o 8).int)&&true))):=rfl;rw[e,oF (gi d 0).str.toList,oF (gi d 8).int];refine aa.toEq ?_;unfold CM cg
 (dsimp +instances only[Aa,Ab,Ac,Ad,Ae,Af,Ag])
 cases (gi o 0).str.toList==(gi d 0).str.toList with
 |false=>exact aa.neg rfl (aa.some (by simp))
 | true =>
  refine aa.pos rfl ?_;cases (gi o 3).int==4 with
  |true=>exact aa.pos rfl (aa.some (by simp))
  | false =>
   refine aa.neg rfl ?_;cases (gi o 3).int==1 with
   |true=>exact aa.pos rfl (aa.some (by simp))
   |false=>exact aa.neg rfl (aa.some (by simp))
theorem TP{d:List G}(A:aV d):∀(q w:List (List G)),(∀ z∈q,aV z)→w.length+q.length<100000 →
  cD vh [.l (w++q),.l [d],.l [cg d],.i ((w++q).length:Nat),.i (w.length:Nat)] (q.length+1) fun c g=>(c=0∧q.any (eW (cg d))=true∧∃ n:Nat,g=[.i (n:Int)])∨(c=1∧q.any (eW (cg d))=false)
 | [],w,_,B=>by
  refine cD.stop (x:=1) (d':=[]) (aa.toEq ?_) (.inr ⟨rfl,rfl⟩);unfold vh
  (dsimp +instances only[Aa,Ab,Ac,Ad,Ae,Af,Ag])
  exact aa.neg (by simp[dG]) (aa.some rfl)
 | y::q,w,F,B=>by
  simp only[cF]at B;have N:=F y cJ;have hlen:(w++y::q).length=w.length+(q.length+1):=by simp
  have J:(w++y::q).getD w.length []=y:=by simp
  have e:w++y::q=(w++[y])++q:=by simp
  have M:aR [.str,.int .i64] (cg d)=cg d:=rfl;have step:∀{Q:Option Nat × List G→Prop},aa (bif eW (cg d) y then some (some 0,[G.i (w.length:Int)]) else bif aw ((w.length:Int)+1) then some (none,[.l (w++y::q),.l [d],.l [cg d],.i ((w++y::q).length:Int),.i ((w.length:Int)+1)]) else none) Q →
    aa (vh [.l (w++y::q),.l [d],.l [cg d],.i ((w++y::q).length:Nat),.i (w.length:Nat)]) Q:=fun h=>by
   unfold vh
   (dsimp +instances only[Aa,Ab,Ac,Ad,Ae,Af,Ag])
   simp only[aH,J,N.eta,A.eta,M];refine aa.p (aa.p (aa.call (aa.eq aiF) ?_));rintro _ rfl;exact h
  cases k:eW (cg d) y with
  | true =>
   refine cD.stop (x:=0) (d':=[.i (w.length:Nat)]) (aa.toEq (step ?_)) (.inl ⟨rfl,by rw[tb,k]; rfl,_,rfl⟩);rw[k];exact aa.pos rfl (aa.some rfl)
  | false =>
   have I:=TP A q (w++[y]) (fun z O=>F z (bS _ O)) (by simp; omega);rw[←e]at I;refine cD.next (aa.toEq (step ?_)) (I.mono ?_)
   ·rw [k]
    exact aa.neg rfl (aa.p (aa.some (by simp)))
   ·rw [tb, k, gJ]
    exact fun _ _ h=>h
theorem aiG{d:List G}(A:aV d)(q:List (List G))(F:∀ z∈q,aV z)(I:q.length<100000):CN [.l q,.l [d],.l [cg d]]=some [.t (q.any (eW (cg d)))]:=by
 refine aa.toEq ?_;unfold CN
 (dsimp +instances only[Aa,Ab,Ac,Ad,Ae,Af,Ag])
 have B:aR [.str,.int .i64] (cg d)=cg d:=rfl;rw[A.eta,B];refine aa.call (P:=fun g=>(∃ j:Nat,g=[.i (j:Int)]∧q.any (eW (cg d))=true)∨(g=[.i (-1)]∧q.any (eW (cg d))=false)) ?_ ?_
 ·unfold I3
  (dsimp +instances only[Aa,Ab,Ac,Ad,Ae,Af,Ag])
  rw[A.eta,B];have h:=TP A q [] F (by simpa using I);simp only[mI,gK]at h;refine aa.loop (h.to (by omega)) rfl ?_;rintro c g (⟨rfl,k,j,rfl⟩|⟨rfl,k⟩)
  ·exact aa.pos rfl (aa.some (.inl ⟨j,rfl,k⟩))
  ·exact aa.neg rfl (aa.some (.inr ⟨rfl,k⟩))
 ·rintro g (⟨j, rfl, k⟩ | ⟨rfl, k⟩)
  ·rw [k]
   exact aa.some (by simp[eD,gi,G.int])
  ·rw [k]
   exact aa.some rfl
theorem TQ{s:ByteArray}{n:Int}:∀(q w:List (List G)),(∀ z∈q,dq z)→w.length+q.length<100000 →
  cD vj [.s s,.i n,.l (w++q),.i ((w++q).length:Nat),.i (w.length:Nat)] (q.length+1) fun c g=>(c=0∧q.any (aq bk [.s s,.i n])=true∧∃ n:Nat,g=[.i (n:Int)])∨(c=1∧q.any (aq bk [.s s,.i n])=false)
 | [],w,_,k=>by
  refine cD.stop (x:=1) (d':=[]) (aa.toEq ?_) (.inr ⟨rfl,rfl⟩);unfold vj
  (dsimp +instances only[Aa,Ab,Ac,Ad,Ae,Af,Ag])
  exact aa.neg (by simp[dG]) (aa.some rfl)
 | y::q,w,A,k=>by
  simp only[cF]at k;have I:=A y cJ;have hlen:(w++y::q).length=w.length+(q.length+1):=by simp
  have F:(w++y::q).getD w.length []=y:=by simp
  have e:w++y::q=(w++[y])++q:=by simp
  have step:∀{Q:Option Nat × List G→Prop},aa (bif aq bk [.s s,.i n] y then some (some 0,[G.i (w.length:Int)]) else bif aw ((w.length:Int)+1) then some (none,[.s s,.i n,.l (w++y::q),.i ((w++y::q).length:Int),.i ((w.length:Int)+1)]) else none) Q →
    aa (vj [.s s,.i n,.l (w++y::q),.i ((w++y::q).length:Nat),.i (w.length:Nat)]) Q:=fun h=>by
   have J:aR [.str,.int .i64] [G.s s,.i n,.l (w++y::q),.i ((w++y::q).length:Nat),.i (w.length:Nat)]=[.s s,.i n]:=rfl;have M:aR [.str,.int .i64] y=y:=I.eta;unfold vj;rw[J]
   (dsimp +instances only[Aa,Ab,Ac,Ad,Ae,Af,Ag])
   simp only[aH,F,M];exact aa.p (aa.p h)
  cases d:aq bk [.s s,.i n] y with
  | true =>
   refine cD.stop (x:=0) (d':=[.i (w.length:Nat)]) (aa.toEq (step ?_)) (.inl ⟨rfl,by rw[tb,d]; rfl,_,rfl⟩);rw[d];exact aa.pos rfl (aa.some rfl)
  | false =>
   have B:=TQ (s:=s) (n:=n) q (w++[y]) (fun z N=>A z (bS _ N)) (by simp; omega);rw[←e]at B;refine cD.next (aa.toEq (step ?_)) (B.mono ?_)
   ·rw [d]
    exact aa.neg rfl (aa.p (aa.some (by simp)))
   ·rw [tb, d, gJ]
    exact fun _ _ h=>h
theorem aiH(out:List (List G))(q:∀ z∈out,dq z)(A:out.length<100000)(d:List G):yy [.l out,.l [cg d]]=some [.t (out.any (aq bk (cg d)))]:=by
 refine aa.toEq ?_;unfold yy
 (dsimp +instances only[Aa,Ab,Ac,Ad,Ae,Af,Ag])
 refine aa.call (P:=fun g=>(∃ j:Nat,g=[.i (j:Int)]∧out.any (aq bk (cg d))=true)∨(g=[.i (-1)]∧out.any (aq bk (cg d))=false)) ?_ ?_
 ·unfold I7
  (dsimp +instances only[Aa,Ab,Ac,Ad,Ae,Af,Ag])
  have h:=TQ (s:=(gi d 0).str) (n:=(gi d 8).int) out [] q (by simpa using A);simp only[mI,gK]at h;refine aa.loop (h.to (by omega)) rfl ?_;rintro c g (⟨rfl,k,j,rfl⟩|⟨rfl,k⟩)
  ·exact aa.pos rfl (aa.some (.inl ⟨j,rfl,k⟩))
  ·exact aa.neg rfl (aa.some (.inr ⟨rfl,k⟩))
 ·rintro g (⟨j, rfl, k⟩ | ⟨rfl, k⟩)
  ·rw [k]
   exact aa.some (by simp[eD,gi,G.int])
  ·rw [k]
   exact aa.some rfl
theorem aiI{all out:List (List G)}{i:Nat}{d:List G}(g:all.getD i []=d)(hi:i<all.length):gA (all.drop i) out=gA (all.drop (i+1)) (bif (gi d 3).int==3&&(!((all.drop (i+1)).any (eW (cg d))) && !(out.any (aq bk (cg d)))) then out++[cg d] else out):=by
 rw[JP hi,g];rfl
def vG(all out:List (List G))(i:Nat)(d:List G):List (List G):=bif (gi d 3).int==3&&(!((all.drop (i+1)).any (eW (cg d))) && !(out.any (aq bk (cg d)))) then out++[cg d] else out
theorem J8(rows:List (List G))(t:Int)(hr:∀ z∈rows,aV z)(hn:rows.length≤20)(aL:j0 rows):vk [.l rows,.i t]=some [.l (dt (bg (ct rows t)))]:=by
 have q:∀ z∈ct rows t,aV z:=fun z k=>hr z (nH k);have O:=qC rows t;refine aa.toEq ?_;unfold vk
 (dsimp +instances only[Aa,Ab,Ac,Ad,Ae,Af,Ag])
 refine aa.cE (aib rows t hr hn aL) ?_
 (dsimp +instances only[Aa,Ab,Ac,Ad,Ae,Af,Ag])
 generalize ct rows t=all at q O;have J:=oU q;have hlen:=oV q;refine aa.loop (P:=fun _ g=>g=[.l (bg all)]) ((iq (σ:=List (List G)) (fun s i=>[.l s,.l all,.l all,.i (all.length:Int),.i (i:Int)]) all (fun s=>(0,[.l s])) (fun s i=>gA (all.drop i) s=bg all∧(∀ z∈s,dq z)∧s.length≤i) [] (by omega) ⟨rfl,by simp,by simp⟩ ?_ ?_).mono ?_) rfl ?_
 ·rintro s i d ⟨B, F, W⟩ hi k hm Y
  have I:=q d hm;have R:∀ z∈all.drop (i+1),aV z:=fun z k=>q z (List.mem_of_mem_drop k);have U:(all.drop (i+1)).length<100000:=by rw[List.length_drop]; omega
  rw[aiI k hi]at B;have key:gA (all.drop (i+1)) (vG all s i d)=bg all∧(∀ z∈vG all s i d,dq z)∧(vG all s i d).length≤i+1:=by
   refine⟨B,?_,?_⟩
   ·intro z A
    unfold vG at A;cases hc:(gi d 3).int==3&&(!((all.drop (i+1)).any (eW (cg d))) && !(s.any (aq bk (cg d))))with
    | true =>
     rw[hc]at A;rcases bV.1 A with h|h
     ·exact F z h
     ·rw [iz.1 h]
      exact I.own
    | false =>
     rw[hc]at A;exact F z A
   ·unfold vG
    cases (gi d 3).int==3&&(!((all.drop (i+1)).any (eW (cg d))) && !(s.any (aq bk (cg d))))with
    |true=>simp only[cond_true,eY,List.length_singleton]; omega
    |false=>simp only[cond_false]; omega
  unfold CP
  (dsimp +instances only[Aa,Ab,Ac,Ad,Ae,Af,Ag])
  simp only[aH,k];rw[I.eta];refine aa.p (aa.p (aa.p (aa.p ?_)));rw[show ((i:Int)+1).toNat=i+1 by omega];refine aa.cE (aiG I (all.drop (i+1)) R U) ?_
  (dsimp +instances only[Aa,Ab,Ac,Ad,Ae,Af,Ag])
  unfold vG at key;cases M:(gi d 3).int==3 with
  | false =>
   rw[M]at key;exact aa.neg rfl (aa.p (aa.pos (by simp) (aa.some ⟨s,rfl,key⟩)))
  | true =>
   refine aa.pos rfl ?_;rw[M]at key;cases N:(all.drop (i+1)).any (eW (cg d))with
   | true =>
    rw[N]at key;exact aa.neg rfl (aa.p (aa.pos (by simp) (aa.some ⟨s,rfl,key⟩)))
   | false =>
    rw[N]at key;refine aa.pos rfl (aa.gS (aa.eq (show yy [.l s,.l [[.s (gi d 0).str,.i (gi d 8).int]]]=some [.t (s.any (aq bk (cg d)))] from aiH s F (by omega) d)) (by simp) ?_);rintro _ rfl
    (dsimp +instances only[Aa,Ab,Ac,Ad,Ae,Af,Ag])
    cases hc:s.any (aq bk (cg d))with
    | true =>
     rw[hc]at key;exact aa.neg rfl (aa.p (aa.pos (by simp) (aa.some ⟨s,rfl,key⟩)))
    | false =>
     rw[hc]at key;exact aa.pos rfl (aa.pos (by simp only[sl]; simp; omega) (aa.p (aa.pos (by simp) (aa.some ⟨s++[cg d],rfl,key⟩))))
 ·rintro s _
  unfold CP
  (dsimp +instances only[Aa,Ab,Ac,Ad,Ae,Af,Ag])
  exact aa.n (aa.pos (by simp) (aa.some rfl))
 ·rintro c g ⟨s, ⟨B, _⟩, rfl, rfl⟩
  rw[List.drop_length]at B;rw[←B];rfl
 rintro _ _ rfl
 (dsimp +instances only[Aa,Ab,Ac,Ad,Ae,Af,Ag])
 refine aa.gS (aa.eq (show CO [.l (bg all)]=some [.l (dt (bg all))] from
  BW (C:=sq) (Q:=dq) aiE.BV (Du.mono fun _ _=>trivial) _ J (by omega) (J7 J))) (by simp) ?_
 rintro _ rfl
 (dsimp +instances only[Aa,Ab,Ac,Ad,Ae,Af,Ag])
 exact aa.pos (by simp[dt,oG]) (aa.some rfl)
def oW(r:List G):List G:=[.s (gi r 0).str,.s (uM (gi r 1).int)]
theorem aiJ{r:List G}(h:dq r):([.s (gi r 0).str,.i (gi r 1).int]:List G)=r:=by
 obtain⟨s,n,rfl,_⟩:=h;rfl
theorem aiK(l:List (List G))(q:∀ d∈l,aV d)(hn:l.length≤1000):Cm [.l (bj l).1,.i ((bj l).2:Int)]=some [.l (bj l).1,.i ((bj l).2:Int),.l (dt (bg l))]:=by
 obtain⟨h1,_,N⟩:=y8 l q;have B:=oU q;have M:=oV q;unfold Cm uB;have aL:kB [.l (bj l).1,.i ((bj l).2:Int)]=true:=by
  show (eA (bj l).1 ((bj l).2:Int).toNat&&db (bj l).1.length 1048576)=true
  rw[aH,h1.eA,jj];exact KN (by omega)
 rw[aL,cond_true];refine xp fun b p A=>?_;have A:p.Perm (bj l).1:=A;have J:p.map H_=p.map dw:=pg fun e he=>by
  obtain⟨k,v,n,rfl,_,hk⟩:=h1.form e (A.mem_iff.1 he);exact aiJ hk
 have g:(p.map dw).Perm (bg l):=(A.map dw).trans (Dt l q);have F:∀ r∈p.map dw,dq r:=fun r hr=>B r (g.mem_iff.1 hr);have I:yg [.l (p.map dw)]=some [.l (dt (bg l))]:=by
  have:=BW (C:=sf) (Q:=dq) aiB.BV (Du.mono fun _ _=>trivial) (p.map dw) F (by rw[g.length_eq]; omega) (J7 F);rw[show eU (bU jB) (p.map dw)=dt (bg l) from aiy B g]at this;exact this
 refine aa.toEq ?_;unfold Ic lB;rw[J]
 (dsimp +instances only[Aa,Ab,Ac,Ad,Ae,Af,Ag])
 simp only[aH];refine aa.gS (aa.eq I) (by simp) ?_;rintro _ rfl
 (dsimp +instances only[Aa,Ab,Ac,Ad,Ae,Af,Ag])
 refine aa.pos ?_ (aa.some ?_)
 ·have : (dt (bg l)).length = (p.map dw).length := by rw [dt, oG, g.length_eq]
  rw[this];simp
 ·show [G.l (gB [.l (bj l).1, .i ((bj l).2 : Int)]), .i ((nu [.l (bj l).1, .i ((bj l).2 : Int)] : Nat) : Int), .l (dt (bg l))] = _
  simp[gB,nu,gi,G.rows,G.int]
section
variable {dd cs ss ot l:List (List G)}
theorem aiL(q:∀ d∈l,aV d)(hn:l.length≤1000):Co [.l dd,.l cs,.l ss,.l ot,.l (bj l).1,.i ((bj l).2:Int)]=some [.l dd,.l cs,.l ss,.l ot,.l (bj l).1,.i ((bj l).2:Int),.l ((dt (bg l)).map oW)]:=by
 have B:=oU q;have R:=oV q;have A:∀ r∈dt (bg l),dq r:=GK B;have F:(dt (bg l)).length=(bg l).length:=oG _ _;refine aa.toEq ?_;unfold Co
 (dsimp +instances only[Aa,Ab,Ac,Ad,Ae,Af,Ag])
 simp only[aH];refine aa.cE (aiK l q hn) ?_
 (dsimp +instances only[Aa,Ab,Ac,Ad,Ae,Af,Ag])
 simp only[aH];generalize dt (bg l)=keys at A F;generalize (bj l).1=held;generalize (bj l).2=ck;refine aa.loop ((iq (σ:=List (List G)) (fun s i=>[.l dd,.l cs,.l ss,.l ot,.l held,.i (ck:Int),.l s,.l keys,.i (keys.length:Int),.i (i:Int)]) keys (fun s=>(0,[.l dd,.l cs,.l ss,.l ot,.l held,.i (ck:Int),.l s])) (fun s i=>s=(keys.take i).map oW) [] (by omega) rfl ?_ ?_)) (by simp) ?_
 ·rintro s i r k hi J hm M
  have hr:=A r hm;have O:s.length≤1000:=by rw[k,bu,fZ]; omega
  have N:(keys.take (i+1)).map oW=s++[oW r]:=by rw[M,fm,k]; rfl
  obtain⟨a,n,rfl,I,_⟩:=hr;unfold Cn
  (dsimp +instances only[Aa,Ab,Ac,Ad,Ae,Af,Ag])
  simp only[aH,dJ,J]
  (dsimp +instances only[Aa,Ab,Ac,Ad,Ae,Af,Ag])
  refine aa.p (aa.p (aa.p (aa.call (aa.eq (Dv I)) ?_)));rintro _ rfl
  (dsimp +instances only[Aa,Ab,Ac,Ad,Ae,Af,Ag])
  exact aa.pos (by simp only[sl]; simp; omega) (aa.p (aa.pos (by simp) (aa.some ⟨_,rfl,N.symm⟩)))
 ·rintro s _
  unfold Cn
  (dsimp +instances only[Aa,Ab,Ac,Ad,Ae,Af,Ag])
  simp only[aH];exact aa.n (aa.pos (by simp) (aa.some rfl))
 ·rintro c g ⟨s, k, rfl, rfl⟩
  rw[jl]at k;subst k
  (dsimp +instances only[Aa,Ab,Ac,Ad,Ae,Af,Ag])
  simp only[aH];exact aa.pos (by simp) (aa.some rfl)
end
def dO(m:List (List G))(n:Int):Bool:=(gi (bZ [.int .i64] m [.i n] [.t false]) 0).bool
def oX(s:List (List G) × Nat)(n:Int):List (List G) × Nat:=(bK [.int .i64] s.1 [.i n] [.t true] s.2,cU [.int .i64] s.1 [.i n] s.2)
theorem J9(k:Int):∀(l:List Int) (s:List (List G) × Nat),dO (l.foldl oX s).1 k=(dO s.1 k||l.contains k)
 | [],s=>by simp
 | n::l,s=>by
  rw[kK,J9 k l];have:dO (oX s n).1 k=(decide (k=n)||dO s.1 k):=by
   unfold oX;show (gi (bZ [.int .i64] (bK [.int .i64] s.1 [.i n] [.t true] s.2) [.i k] [.t false]) 0).bool=_
   rw[nz,kH];cases decide (k=n)<;>rfl
  rw[this,UT];cases dO s.1 k<;>cases h:decide (k=n)<;>simp_all
section
variable (rows:List (List G)) (t:Int) (hr:∀ z∈rows,aV z) (hn:rows.length≤20)
include hr hn
def vH(rows:List (List G))(t:Int):List Int:=((eV rows t).map aD).map (fun c=>(gi c 4).int)++(dt (bg (ct rows t))).map fun r=>(gi r 1).int
theorem aiM:∀ n,1≤n→n≤99999→sN ((eV rows t).map aD) (bj (ct rows t)).1 n = !((vH rows t).contains n):=fun n h1 _=>by
 have d:∀ z∈ct rows t,aV z:=fun z g=>hr z (nH g);have hk:=Dt (ct rows t) d;have k:((eO ((eV rows t).map aD)).count n==0) = !((((eV rows t).map aD).map (fun c=>(gi c 4).int)).contains n):=by
  unfold eO;generalize ((eV rows t).map aD).map (fun c=>(gi c 4).int)=L;rw[g_,beq_iff_eq,vS,ka,←UW,jm,gk];constructor
  ·intro h hm
   exact h ⟨hm,by rw[decide_eq_true_eq]; omega⟩
  ·intro h hm
   exact h hm.1
 have q:(((bj (ct rows t)).1.map da).count n==0) = !(((dt (bg (ct rows t))).map fun r=>(gi r 1).int).contains n):=by
  have F:((bj (ct rows t)).1.map da).Perm ((dt (bg (ct rows t))).map fun r=>(gi r 1).int):=by
   have:(bj (ct rows t)).1.map da=((bj (ct rows t)).1.map dw).map fun r=>(gi r 1).int:=by rw[gG]; rfl
   rw[this];exact(hk.trans (nB (lt:=bU jB) _).symm).map _
  rw[g_,beq_iff_eq,vS,ka,←UW,jm,F.mem_iff]
 unfold sN vH;rw[k,q];generalize ((eV rows t).map aD).map (fun c=>(gi c 4).int)=A;generalize (dt (bg (ct rows t))).map (fun r=>(gi r 1).int)=B;rw[g_];simp only[ay,ka,←UW,jm,bV,not_or]
theorem aiN(aL:j0 rows):CS [.l rows,.i t]=some (sO (j7 (fun n => !((vH rows t).contains n)) 99999 1)):=by
 have R:∀ z∈ct rows t,aV z:=fun z q=>hr z (nH q);have hll:=yZ rows t;have hfn:=qC rows t;have hbl:=oV R;have hsl:(dt (bg (ct rows t))).length=(bg (ct rows t)).length:=oG _ _;refine aa.toEq ?_;unfold CS
 (dsimp +instances only[Aa,Ab,Ac,Ad,Ae,Af,Ag])
 refine aa.cE (show yx [.l rows,.i t]=some [.l ((eV rows t).map aD),.l (JW rows t)] from aic rows t hr hn aL) ?_
 (dsimp +instances only[Aa,Ab,Ac,Ad,Ae,Af,Ag])
 have M:=J8 rows t hr hn aL;have U:((eV rows t).map aD).length≤20:=by rw[bu]; omega
 have J:vH rows t=((eV rows t).map aD).map (fun c=>(gi c 4).int)++(dt (bg (ct rows t))).map fun r=>(gi r 1).int:=rfl;rw[J];generalize (eV rows t).map aD=cs at U;have O:(dt (bg (ct rows t))).length≤20:=by omega
 clear J;generalize dt (bg (ct rows t))=hs at O M;refine aa.loop ((iq (σ:=List (List G) × Nat) (fun s i=>[.l s.1,.i (s.2:Int),.l rows,.i t,.l cs,.i (cs.length:Int),.i (i:Int)]) cs (fun s=>(0,[.l s.1,.i (s.2:Int),.l rows,.i t])) (fun s i=>s=((cs.take i).map fun c=>(gi c 4).int).foldl oX ([],0)) ([],0) (by omega) rfl ?_ ?_)) rfl ?_
 ·rintro s i c d hi q hm F
  have I:((cs.take (i+1)).map fun c=>(gi c 4).int).foldl oX ([],0)=oX s (gi c 4).int:=by rw[F,fm,pr,←d]; rfl
  unfold CQ
  (dsimp +instances only[Aa,Ab,Ac,Ad,Ae,Af,Ag])
  simp only[aH,q];exact aa.p (aa.p (aa.p (aa.some ⟨_,rfl,I.symm⟩)))
 ·rintro s _
  unfold CQ
  (dsimp +instances only[Aa,Ab,Ac,Ad,Ae,Af,Ag])
  simp only[aH];exact aa.n (aa.some rfl)
 rintro c g ⟨s1,d,rfl,rfl⟩;rw[jl]at d
 (dsimp +instances only[Aa,Ab,Ac,Ad,Ae,Af,Ag])
 simp only[aH];refine aa.cE M ?_
 (dsimp +instances only[Aa,Ab,Ac,Ad,Ae,Af,Ag])
 refine aa.loop ((iq (σ:=List (List G) × Nat) (fun s i=>[.l s.1,.i (s.2:Int),.l hs,.i (hs.length:Int),.i (i:Int)]) hs (fun s=>(0,[.l s.1,.i (s.2:Int)])) (fun s i=>s=((hs.take i).map fun c=>(gi c 1).int).foldl oX s1) s1 (by omega) rfl ?_ ?_)) rfl ?_
 ·rintro s i c d hi q hm F
  have I:((hs.take (i+1)).map fun c=>(gi c 1).int).foldl oX s1=oX s (gi c 1).int:=by rw[F,fm,pr,←d]; rfl
  unfold CR
  (dsimp +instances only[Aa,Ab,Ac,Ad,Ae,Af,Ag])
  simp only[aH,q];exact aa.p (aa.p (aa.p (aa.some ⟨_,rfl,I.symm⟩)))
 ·rintro s _
  unfold CR
  (dsimp +instances only[Aa,Ab,Ac,Ad,Ae,Af,Ag])
  simp only[aH];exact aa.n (aa.some rfl)
 rintro c g ⟨s2,N,rfl,rfl⟩;rw[jl]at N
 (dsimp +instances only[Aa,Ab,Ac,Ad,Ae,Af,Ag])
 simp only[aH];have B:∀ n,dO s2.1 n=(cs.map (fun c=>(gi c 4).int)++hs.map fun r=>(gi r 1).int).contains n:=fun n=>by
  rw[N,J9,d,J9];rw[g_];simp only[jC,jm,bV];constructor
  ·rintro ((h | h) | h)
   ·cases h
   ·exact .inl h
   ·exact .inr h
  ·rintro (h | h)
   ·exact .inl (.inr h)
   ·exact .inr h
 generalize (cs.map (fun c=>(gi c 4).int)++hs.map fun r=>(gi r 1).int)=T at B;refine aa.loop (TH (st:=vl) (fun n=>[.l s2.1,.i (s2.2:Int),.i n]) (fun n => !(T.contains n)) (fun n=>[.i n,.i 0]) [] (fun n W Y k=>?_) (fun n W Y k=>?_) ?_) rfl fun c g A=>?_
 ·refine aa.toEq ?_
  unfold vl
  (dsimp +instances only[Aa,Ab,Ac,Ad,Ae,Af,Ag])
  refine aa.p (aa.pos ?_ (aa.some rfl));show (!dO s2.1 n)=true
  rw[B];exact k
 ·refine aa.toEq ?_
  unfold vl
  (dsimp +instances only[Aa,Ab,Ac,Ad,Ae,Af,Ag])
  simp only[aH];refine aa.p (aa.neg ?_ (aa.p (aa.some rfl)));show (!dO s2.1 n)=false
  rw[B];exact k
 ·refine aa.toEq ?_
  unfold vl
  (dsimp +instances only[Aa,Ab,Ac,Ad,Ae,Af,Ag])
  exact aa.n (aa.some rfl)
 ·cases k : j7 (fun n => !(T.contains n)) 99999 1 with
  | some n =>
   rw[k]at A;cases A;exact aa.pos rfl (aa.some rfl)
  | none =>
   rw[k]at A;cases A;exact aa.neg rfl (aa.some rfl)
theorem aiO:Ck [.l rows,.i t]=some (bif je rows t != 0 then [.i 0,.i (je rows t)] else sO (j7 (fun n => !((vH rows t).contains n)) 99999 1)):=by
 have d:∀ z∈ct rows t,aV z:=fun z g=>hr z (nH g);obtain⟨h1,_,A⟩:=y8 (ct rows t) d;have k:=qC rows t;have q:=yZ rows t;refine aa.toEq ?_;unfold Ck
 (dsimp +instances only[Aa,Ab,Ac,Ad,Ae,Af,Ag])
 refine aa.cE (JS rows t hr hn) ?_
 (dsimp +instances only[Aa,Ab,Ac,Ad,Ae,Af,Ag])
 cases h:je rows t != 0 with
 |true=>exact aa.pos rfl (aa.pos rfl (aa.some rfl))
 | false =>
  refine aa.neg rfl (aa.call (aa.eq (JX rows t hr hn)) ?_);rintro _ rfl
  (dsimp +instances only[Aa,Ab,Ac,Ad,Ae,Af,Ag])
  simp only[aH];refine aa.neg rfl (aa.call (aa.eq (aiu (by rw[bu]; omega) (by omega) h1.eA)) ?_);rintro _ rfl;rw[TF 99999 1 (by omega) (by omega) (aiM rows t hr hn)];cases j7 (fun n => !((vH rows t).contains n)) 99999 1 with
  |some n=>exact aa.some rfl
  |none=>exact aa.some rfl
theorem aiP:Cp [.l rows,.i t]=some (bif je rows t != 0 then [.l [],.i (je rows t)] else [.l ((dt (bg (ct rows t))).map oW),.i 0]):=by
 have d:∀ z∈ct rows t,aV z:=fun z g=>hr z (nH g);have k:=qC rows t;refine aa.toEq ?_;unfold Cp
 (dsimp +instances only[Aa,Ab,Ac,Ad,Ae,Af,Ag])
 refine aa.cE (JS rows t hr hn) ?_
 (dsimp +instances only[Aa,Ab,Ac,Ad,Ae,Af,Ag])
 cases h:je rows t != 0 with
 |true=>exact aa.pos rfl (aa.pos rfl (aa.some rfl))
 | false =>
  refine aa.neg rfl (aa.call (aa.eq (JX rows t hr hn)) ?_);rintro _ rfl
  (dsimp +instances only[Aa,Ab,Ac,Ad,Ae,Af,Ag])
  simp only[aH];refine aa.neg rfl (aa.call (aa.eq (aiL d (by omega))) ?_);rintro _ rfl;exact aa.some rfl
theorem aiQ(aL:j0 rows):CU [.l rows,.i t]=some [.l ((dt (bg (ct rows t))).map oW)]:=by
 have A:∀ z∈ct rows t,aV z:=fun z k=>hr z (nH k);have N:=qC rows t;have F:=oU A;have O:=oV A;have B:∀ r∈dt (bg (ct rows t)),dq r:=GK F;have R:(dt (bg (ct rows t))).length=(bg (ct rows t)).length:=oG _ _;refine aa.toEq ?_;unfold CU
 (dsimp +instances only[Aa,Ab,Ac,Ad,Ae,Af,Ag])
 refine aa.cE (J8 rows t hr hn aL) ?_
 (dsimp +instances only[Aa,Ab,Ac,Ad,Ae,Af,Ag])
 have q:(dt (bg (ct rows t))).length≤20:=by omega
 generalize dt (bg (ct rows t))=keys at B q;refine aa.loop ((iq (σ:=List (List G)) (fun s i=>[.l s,.l keys,.i (keys.length:Int),.i (i:Int)]) keys (fun s=>(0,[.l s])) (fun s i=>s=(keys.take i).map oW) [] (by omega) rfl ?_ ?_)) rfl ?_
 ·rintro s i r d hi k hm J
  have hr:=B r hm;have q:s.length≤1000:=by rw[d,bu,fZ]; omega
  have M:(keys.take (i+1)).map oW=s++[oW r]:=by rw[J,fm,d]; rfl
  obtain⟨a,n,rfl,I,_⟩:=hr;unfold CT
  (dsimp +instances only[Aa,Ab,Ac,Ad,Ae,Af,Ag])
  simp only[aH,k]
  (dsimp +instances only[Aa,Ab,Ac,Ad,Ae,Af,Ag])
  refine aa.p (aa.p (aa.call (aa.eq (Dv I)) ?_));rintro _ rfl
  (dsimp +instances only[Aa,Ab,Ac,Ad,Ae,Af,Ag])
  exact aa.pos (by simp only[sl]; simp; omega) (aa.p (aa.pos (by simp) (aa.some ⟨_,rfl,M.symm⟩)))
 ·rintro s _
  unfold CT
  (dsimp +instances only[Aa,Ab,Ac,Ad,Ae,Af,Ag])
  exact aa.n (aa.pos (by simp) (aa.some rfl))
 ·rintro c g ⟨s, d, rfl, rfl⟩
  rw[jl]at d;subst d
  (dsimp +instances only[Aa,Ab,Ac,Ad,Ae,Af,Ag])
  exact aa.pos (by simp) (aa.some rfl)
end
def nI(r:List G):ByteArray:=(gi r 0).str
def cN(r:List G):Int:=(gi r 1).int
def bX(d:List G):Int:=(gi d 8).int
def jh(H g:List (List G))(n:Int):List ByteArray:=(H.filter fun r=>cN r==n).map nI++(g.filter fun d=>bX d==n).map jg
theorem TR{l l':List ByteArray}(h:∀ s,s∈l↔s∈l'):eI l=eI l':=Tn (JY l) (JY l') fun r=>by
 rw[Dn,Dn];constructor
 ·rintro ⟨s, hs, e⟩
  exact⟨s,(h s).1 hs,e⟩
 ·rintro ⟨s, hs, e⟩
  exact⟨s,(h s).2 hs,e⟩
theorem TS(sep:List UInt8):∀(xs:List (List UInt8)),(∀ x∈xs,x.length≤10)→(sep.intercalate xs).length≤xs.length*(10+sep.length)
 | [],_=>by simp[UX]
 | [x],h=>by
  have:=h x (by simp);simp[UX];omega
 | x::y::l,h=>by
  have h1:=TS sep (y::l) fun z d=>h z (bS _ d);have g:=h x (by simp);have e:(sep.intercalate (x::y::l)).length=x.length+(sep.length+(sep.intercalate (y::l)).length):=by
   simp[UX,List.intersperse]
  rw[e];simp only[cF]at h1⊢;rw[Nat.add_mul,Nat.one_mul];omega
theorem TT{l:List ByteArray}(d:∀ s∈l,s∈fj)(hn:l.length≤1000):vn [.l (eI l),.s (⟨#[32]⟩:ByteArray)]=some [.s (jS (eI l) (⟨#[32]⟩:ByteArray))]:=by
 have h1:=ail l;have q:(jS (eI l) (⟨#[32]⟩:ByteArray)).size≤100000:=by
  have:=TS [32] ((nw (eI l)).map (·.data.toList)) fun x g=>by
   obtain⟨b,k,rfl⟩:=bR.1 g;obtain⟨r,hr,rfl⟩:=bR.1 k;obtain⟨s,hs,rfl⟩:=(Dn l r).1 hr;have:=d s hs;simp only[fj,bC,jD,or_false]at this;rcases this with rfl|rfl|rfl|rfl<;>decide
  have e:(jS (eI l) (⟨#[32]⟩:ByteArray)).size=([32].intercalate ((nw (eI l)).map (·.data.toList))).length:=by
   show (List.toArray _).size=_
   rw[List.size_toArray];rfl
  rw[e];simp only[bu,nw]at this⊢;refine nJ this ?_;simp;omega
 unfold vn BO;show (bif db (eI l).length 1048576&&db (jS (eI l) (⟨#[32]⟩:ByteArray)).size 140737488355328 then some [G.s (jS (eI l) (⟨#[32]⟩:ByteArray))] else none)=_
 rw[show db (eI l).length 1048576=true from KN (by omega),show db (jS (eI l) (⟨#[32]⟩:ByteArray)).size 140737488355328=true from KN (by omega)];rfl
def mD(e:List G):ByteArray:=(gi (gi e 0).row 0).str
section
variable {dd ot held:List (List G)} {ck:Nat} {n:Int}
theorem TU{cs ss:List (List G)}(aT:Nat):∀(q:List (List G)) (s:List (List G) × Nat),
  bP sr (fun d=>(gi d 9).int.toNat) q [.l dd,.l cs,.l ss,.l ot,.l held,.i (ck:Int),.l s.1,.i (s.2:Int),.i n,.i (aT:Int)] =
   some [.l dd,.l cs,.l ss,.l ot,.l held,.i (ck:Int),.l (((q.filter fun e=>da e==n).map mD).foldl fW s).1,.i ((((q.filter fun e=>da e==n).map mD).foldl fW s).2:Int),.i n,.i (aT:Int)]
 | [],s=>by simp[bP]
 | e::q,s=>by
  have h1:sr e [.l dd,.l cs,.l ss,.l ot,.l held,.i (ck:Int),.l s.1,.i (s.2:Int),.i n,.i (aT:Int)] =
    some [.l dd,.l cs,.l ss,.l ot,.l held,.i (ck:Int),.l (bif da e==n then fW s (mD e) else s).1,.i ((bif da e==n then fW s (mD e) else s).2:Int),.i n,.i (aT:Int)]:=by
   unfold sr
   (dsimp +instances only[Aa,Ab,Ac,Ad,Ae,Af,Ag])
   simp only[aH];show (bif da e==n then _ else _)=_
   cases da e==n<;>rfl
  have g:=TU (cs:=cs) (ss:=ss) aT q (bif da e==n then fW s (mD e) else s);simp only[bP,h1,zF,Ab,Aa,G.int,aH,s8];rw[cond_true];refine Eq.trans g ?_;cases da e==n<;>rfl
theorem aiR(k:List (List G))(hn:k.length≤1000)(s0:List (List G) × Nat) :
  fw yG [.l dd,.l (k.map aD),.l (k.map dF),.l ot,.l held,.i (ck:Int),.l s0.1,.i (s0.2:Int),.i n,.l (k.map aD),.i (k.length:Int),.i 0] fun c g=>c=0 ∧
   g=[.l dd,.l (k.map aD),.l (k.map dF),.l ot,.l held,.i (ck:Int),.l (((k.filter fun d=>bX d==n).map jg).foldl fW s0).1,.i ((((k.filter fun d=>bX d==n).map jg).foldl fW s0).2:Int)]:=by
 have I:(k.map aD).length=k.length:=bu _;have J:(k.map dF).length=k.length:=bu _;refine(iq (σ:=List (List G) × Nat) (fun s i=>[.l dd,.l (k.map aD),.l (k.map dF),.l ot,.l held,.i (ck:Int),.l s.1,.i (s.2:Int),.i n,.l (k.map aD),.i (k.length:Int),.i (i:Int)]) k
  (fun s=>(0,[.l dd,.l (k.map aD),.l (k.map dF),.l ot,.l held,.i (ck:Int),.l s.1,.i (s.2:Int)])) (fun s i=>s=(((k.take i).filter fun d=>bX d==n).map jg).foldl fW s0) s0 (by omega) rfl ?_ ?_).mono ?_
 ·rintro s i d A hi q hm M
  have B:(((k.take (i+1)).filter fun d=>bX d==n).map jg).foldl fW s0=bif bX d==n then fW s (jg d) else s:=by
   rw[M,po,fm,pr,←A];simp only[s8,DU];cases bX d==n<;>rfl
  have hc:(k.map aD).getD i []=aD d:=by
   rw[cG,cy,bA hi];rw[cG,bA hi]at q;simp only[j_]at q;simp[q]
  have hs:(k.map dF).getD i []=dF d:=by
   rw[cG,cy,bA hi];rw[cG,bA hi]at q;simp only[j_]at q;simp[q]
  unfold yG
  (dsimp +instances only[Aa,Ab,Ac,Ad,Ae,Af,Ag])
  simp only[aH,hc,hs];refine aa.p (aa.pos (by rw[I]; (first|rfl|assumption|(simp only[aw,sl]<;>omega))) ?_);show aa (bif bX d==n then _ else _) _
  cases F:bX d==n with
  | true =>
   rw[F]at B;exact aa.pos rfl (aa.pos (by rw[J]; (first|rfl|assumption|(simp only[aw,sl]<;>omega))) (aa.p (aa.some ⟨fW s (jg d),rfl,B.symm⟩)))
  | false =>
   rw[F]at B;exact aa.neg rfl (aa.p (aa.some ⟨s,rfl,B.symm⟩))
 ·rintro s _
  unfold yG
  (dsimp +instances only[Aa,Ab,Ac,Ad,Ae,Af,Ag])
  simp only[aH];exact aa.n (aa.some rfl)
 ·rintro c g ⟨s, A, rfl, rfl⟩
  rw[jl]at A;subst A;exact⟨rfl,rfl⟩
theorem aiS{l q:List (List G)}(B:∀ d∈l,aV d)(hn:l.length≤400)(J:∀ d∈q,aV d)(hm:q.length≤400):C0 [.l dd,.l (q.map aD),.l (q.map dF),.l ot,.l (bj l).1,.i ((bj l).2:Int),.i n] =
  some [.l dd,.l (q.map aD),.l (q.map dF),.l ot,.l (bj l).1,.i ((bj l).2:Int),.l (eI (jh (bg l) q n))]:=by
 obtain⟨h1,_,h3⟩:=y8 l B;have hk:=Dt l B;have hown:=oU B;have R:Jl [.l dd,.l (q.map aD),.l (q.map dF),.l ot,.l (bj l).1,.i ((bj l).2:Int),.l [],.i 0,.i n]=some (some 0,[.l dd,.l (q.map aD),.l (q.map dF),.l ot,.l (bj l).1,.i ((bj l).2:Int),.l (eI (jh (bg l) q n))]):=by
  show iI su CZ (bj l).1 (((bj l).2:Int).toNat) _=_
  rw[aH];refine GR h1.eA fun b p A=>⟨rfl,?_⟩
  have U:=TU (dd:=dd) (cs:=q.map aD) (ss:=q.map dF) (ot:=ot) (held:=(bj l).1) (ck:=(bj l).2) (n:=n) b p ([],0);have M:bP su.st su.aT p (su.init [.l dd,.l (q.map aD),.l (q.map dF),.l ot,.l (bj l).1,.i ((bj l).2:Int),.l [],.i 0,.i n] b) =
    some [.l dd,.l (q.map aD),.l (q.map dF),.l ot,.l (bj l).1,.i ((bj l).2:Int),.l (((p.filter fun e=>da e==n).map mD).foldl fW ([],0)).1,.i ((((p.filter fun e=>da e==n).map mD).foldl fW ([],0)).2:Int),.i n,.i (b:Int)]:=by
   show bP sr (fun d=>(gi d 9).int.toNat) p [.l dd,.l (q.map aD),.l (q.map dF),.l ot,.l (bj l).1,.i (((((bj l).2:Int).toNat):Nat):Int),.l [],.i ((((0:Int).toNat:Nat)):Int),.i n,.i (b:Int)]=_
   rw[aH];exact U
  refine⟨_,M,?_⟩
  ·have I:∀ s,s∈((p.filter fun e=>da e==n).map mD++(q.filter fun d=>bX d==n).map jg)↔s∈jh (bg l) q n:=fun s=>by
    unfold jh;rw[bV,bV];have:s∈(p.filter fun e=>da e==n).map mD↔s∈((bg l).filter fun r=>cN r==n).map nI:=by
     constructor
     ·intro h
      obtain⟨e,he,rfl⟩:=bR.1 h;obtain⟨he,F⟩:=gk.1 he;exact bR.2 ⟨dw e,gk.2 ⟨hk.mem_iff.1 (KF (A.mem_iff.1 he)),F⟩,rfl⟩
     ·intro h
      obtain⟨r,hr,rfl⟩:=bR.1 h;obtain⟨hr,F⟩:=gk.1 hr;obtain⟨e,he,rfl⟩:=bR.1 (hk.mem_iff.2 hr);exact bR.2 ⟨e,gk.2 ⟨A.mem_iff.2 he,F⟩,rfl⟩
    rw[this]
   have N:∀ s∈((p.filter fun e=>da e==n).map mD++(q.filter fun d=>bX d==n).map jg),s∈fj:=fun s hs=>by
    rcases bV.1 hs with h|h
    ·obtain ⟨e, he, rfl⟩ := bR.1 h
     obtain⟨k,v,m,rfl,_,hk⟩:=h1.form e (A.mem_iff.1 (gk.1 he).1);obtain⟨a,j,rfl,_,W⟩:=hk;exact W
    ·obtain ⟨d, Y, rfl⟩ := bR.1 h
     exact Tw (J d (gk.1 Y).1)
   have O:((p.filter fun e=>da e==n).map mD++(q.filter fun d=>bX d==n).map jg).length≤1000:=by
    have a1:=pq (fun e=>da e==n) p;have a2:=pq (fun d=>bX d==n) q;have a3:=A.length_eq;rw[eY,bu,bu];omega
   refine aa.toEq ?_;unfold CZ
   (dsimp +instances only[Aa,Ab,Ac,Ad,Ae,Af,Ag])
   simp only[aH];rw[show (q.map aD).length=q.length from bu _];refine aa.loop (aiR (dd:=dd) (ot:=ot) (held:=(bj l).1) (ck:=(bj l).2) (n:=n) q (by omega) _) rfl ?_;rintro c g ⟨rfl,rfl⟩
   (dsimp +instances only[Aa,Ab,Ac,Ad,Ae,Af,Ag])
   simp only[aH];rw[←pr];refine aa.cE (aim N O) ?_
   (dsimp +instances only[Aa,Ab,Ac,Ad,Ae,Af,Ag])
   rw[TR I];exact aa.some rfl
 refine aa.toEq ?_;unfold C0
 (dsimp +instances only[Aa,Ab,Ac,Ad,Ae,Af,Ag])
 simp only[aH];rw[R];refine gU ⟨_,rfl,0,rfl,rfl⟩ rfl fun _=>?_
 (dsimp +instances only[Aa,Ab,Ac,Ad,Ae,Af,Ag])
 simp only[aH];exact aa.some rfl
end
def fX(vs:List Int):List Int:=vs.mergeSort fun x y=>decide (x≤y)
theorem mE(vs:List Int):(fX vs).Perm vs:=KJ _ _
theorem aiT(vs:List Int):(fX vs).Pairwise (·≤·):=by
 have:=UR (le:=fun x y:Int=>decide (x≤y)) (fun a b c h1 d=>by simp only[decide_eq_true_eq]at *; omega) (fun a b=>by simp only[jC,decide_eq_true_eq]; omega) vs;exact this.imp fun h=>by simpa using h
theorem TV{p q:List Int}(d:p.Pairwise (·<·))(g:q.Pairwise (·<·))(h:∀ n,n∈p↔n∈q):p=q:=by
 have k:∀{q:List Int},q.Pairwise (·<·)→q.Nodup:=fun h=>by
  rw[qR];exact h.imp fun h=>by omega
 refine xV (lt:=fun a b:Int=>decide (a<b)) ((US (k d) (k g)).2 h) (fun a _ b _ h1 A=>?_) (d.imp fun h=>?_) (g.imp fun h=>?_)
 ·rw [decide_eq_false_iff_not] at h1 A
  omega
 ·rw [decide_eq_false_iff_not]
  omega
 ·rw [decide_eq_false_iff_not]
  omega
theorem y_{vs:List Int}(h:vs.Nodup):(fX vs).Pairwise (·<·):=by
 have h1:=(mE vs).nodup_iff.2 h;rw[qR]at h1;exact((aiT vs).and h1).imp fun⟨d,g⟩=>by omega
theorem aiU{p q:List Int}(h:p.Perm q)(hn:q.Nodup):fX p=fX q:=TV (y_ (h.nodup_iff.2 hn)) (y_ hn) fun n=>by
 rw[(mE p).mem_iff,(mE q).mem_iff,h.mem_iff]
theorem TW(vs:List Int)(hn:vs.length<1000000):sg [.l (vs.map fun v=>[G.i v])]=some [.l ((fX vs).map fun v=>[G.i v])]:=by
 unfold sg By;show (bif eZ (vs.map fun v=>[G.i v]).length 1000000 then some [G.l (qj (vs.map fun v=>[G.i v]))] else none)=_
 rw[show eZ (vs.map fun v=>[G.i v]).length 1000000=true by rw[iA,bu]; exact hn];have e:(vs.map fun v=>[G.i v]).map (fun r=>(gi r 0).int)=vs:=by
  rw[gG];have:((fun r=>(gi r 0).int) ∘ fun v=>[G.i v])=id:=by funext v; rfl
  rw[this,List.map_id]
 unfold qj;rw[e];rfl
def bY(e:List G):Int:=(gi (gi e 0).row 0).int
theorem Dw{m:List (List G)}{clk:Nat}(h:dE [.int .i64] mC m clk):(m.map bY).Nodup:=by
 rw[qR,qP];refine h.keys.imp_of_mem fun {a b} g q d e=>?_;obtain⟨k,v,n,rfl,_,i,rfl⟩:=h.form a g;obtain⟨k',A,B,rfl,_,F,rfl⟩:=h.form b q;have e:i=F:=e;subst e;have:aq [.int .i64] [.i i] [.i i]=true:=by rw[kH]; simp
 rw[show aq [.int .i64] (dw [G.l [[.i i]],.l [v],.i (n:Int)]) (dw [G.l [[.i i]],.l [A],.i (B:Int)])=aq [.int .i64] [.i i] [.i i] from rfl,this]at d;cases d
theorem Dx{m:List (List G)}{clk:Nat}(h:dE [.int .i64] mC m clk)(n:Int):n∈m.map bY↔bp [.int .i64] m [.i n]=true:=by
 rw[J2,bR];constructor
 ·rintro ⟨e, he, rfl⟩
  obtain⟨k,v,j,rfl,_,i,rfl⟩:=h.form e he;refine⟨_,he,?_⟩;show aq [.int .i64] [.i i] [.i i]=true
  rw[kH];simp
 ·rintro ⟨e, he, d⟩
  obtain⟨k,v,j,rfl,_,i,rfl⟩:=h.form e he;have d:aq [.int .i64] [.i n] [.i i]=true:=d;rw[kH,decide_eq_true_eq]at d;exact⟨_,he,d.symm⟩
theorem aiV{m:List (List G)}{clk:Nat}(h:dE [.int .i64] mC m clk)(hn:m.length≤1000):Cr [.l m,.i (clk:Int)]=some [.l m,.i (clk:Int),.l ((fX (m.map bY)).map fun v=>[G.i v])]:=by
 unfold Cr uB;have aL:kB [.l m,.i (clk:Int)]=true:=by
  show (eA m (clk:Int).toNat&&db m.length 1048576)=true
  rw[aH,h.eA,jj];exact KN (by omega)
 rw[aL,cond_true];refine xp fun b p d=>?_;have d:p.Perm m:=d;have k:p.map Ij=(p.map bY).map fun v=>[G.i v]:=by rw[gG]; rfl
 have q:(p.map bY).Perm (m.map bY):=d.map bY;have g:=TW (p.map bY) (by rw[bu,d.length_eq]; omega);rw[aiU q (Dw h)]at g;refine aa.toEq ?_;unfold Im lC;rw[k]
 (dsimp +instances only[Aa,Ab,Ac,Ad,Ae,Af,Ag])
 simp only[aH];refine aa.gS (aa.eq g) (by simp) ?_;rintro _ rfl
 (dsimp +instances only[Aa,Ab,Ac,Ad,Ae,Af,Ag])
 refine aa.pos ?_ (aa.some ?_)
 ·have h1 := (mE (m.map bY)).length_eq
  have A:=d.length_eq;rw[bu]at h1;rw[bu,bu,bu,h1,A];simp
 ·show [G.l (gB [.l m, .i (clk : Int)]), .i ((nu [.l m, .i (clk : Int)] : Nat) : Int), .l ((fX (m.map bY)).map fun v => [G.i v])] = _
  simp[gB,nu,gi,G.rows,G.int]
def fx(hm:List (List G))(s:List (List G) × Nat)(n:Int):List (List G) × Nat:=(bK [.int .i64] s.1 [.i n] [.i (dp s.1 n+dp hm n)] s.2,cU [.int .i64] s.1 [.i n] s.2)
theorem TX(hm:List (List G))(s:List (List G) × Nat)(n k:Int):dp (fx hm s n).1 k=if k=n then dp s.1 n+dp hm n else dp s.1 k:=by
 unfold fx;show (gi (bZ [.int .i64] (bK [.int .i64] s.1 [.i n] [.i (dp s.1 n+dp hm n)] s.2) [.i k] [.i 0]) 0).int=_
 rw[nz,kH];by_cases h:k=n
 ·rw [decide_eq_true h, if_pos h]
  rfl
 ·rw [decide_eq_false h, if_neg h]
  rfl
theorem TY(hm:List (List G))(k:Int):∀(l:List Int) (s:List (List G) × Nat),l.Nodup→dp (l.foldl (fx hm) s).1 k=dp s.1 k+(if k∈l then dp hm k else 0)
 | [],s,_=>by simp
 | n::l,s,hn=>by
  obtain⟨h1,g⟩:=kg.1 hn;rw[kK,TY hm k l _ g,TX];by_cases h:k=n
  ·subst h
   rw[if_pos rfl,if_neg h1,if_pos cJ,akr]
  ·rw [if_neg h]
   by_cases d:k∈l
   ·rw[if_pos d,if_pos (bS _ d)]
   ·rw[if_neg d,if_neg (by rw[bC]; exact fun e=>e.elim h d)]
theorem TZ(hm:List (List G)):∀(l:List Int) (s:List (List G) × Nat),dE [.int .i64] mC s.1 s.2→dE [.int .i64] mC (l.foldl (fx hm) s).1 (l.foldl (fx hm) s).2
 | [],s,h=>h
 |n::l,s,h=>TZ hm l (fx hm s n) (h.put ⟨n,rfl⟩ _)
theorem T0(hm:List (List G))(k:Int):∀(l:List Int) (s:List (List G) × Nat),bp [.int .i64] (l.foldl (fx hm) s).1 [.i k]=(bp [.int .i64] s.1 [.i k]||l.contains k)
 | [],s=>by simp
 | n::l,s=>by
  rw[kK,T0 hm k l];have:bp [.int .i64] (fx hm s n).1 [.i k]=(decide (k=n)||bp [.int .i64] s.1 [.i k]):=by
   unfold fx;rw[qm,kH]
  rw[this,UT];cases bp [.int .i64] s.1 [.i k]<;>cases h:decide (k=n)<;>simp_all
theorem T3(hm:List (List G)):∀(l:List Int) (s:List (List G) × Nat),(l.foldl (fx hm) s).1.length≤s.1.length+l.length
 | [],s=>by simp
 | n::l,s=>by
  have h1:=T3 hm l (fx hm s n);have d:(fx hm s n).1.length≤s.1.length+1:=by
   unfold fx;have:=(vE (K:=[.int .i64]) (k:=[.i n]) (v:=[.i (dp s.1 n+dp hm n)]) (clk:=s.2) (m:=s.1)).1;have:=congrArg pk this;rw[bu]at this;rw[this];cases bp [.int .i64] s.1 [.i n]<;>simp
  rw[kK,cF];omega
def eX(H d:List (List G))(n:Int):Nat:=(eO (d.map aD)).count n+(H.map cN).count n
def sP(H d:List (List G))(K:List Int):Prop:=K.Pairwise (·<·)∧∀ n,n∈K↔1<eX H d n
def za(H d:List (List G)):List Int:=Classical.epsilon (sP H d)
theorem sP.eq{H d:List (List G)}{K:List Int}(h:sP H d K):za H d=K:=by
 have g:sP H d (za H d):=Classical.epsilon_spec ⟨K,h⟩;exact TV g.1 h.1 fun n=>by rw[g.2,h.2]
def vI(H d:List (List G))(n:Int):List G:=[.s (uM n),.s (jS (eI (jh H d n)) (⟨#[32]⟩:ByteArray))]
def oY(H d:List (List G)):List (List G):=(za H d).map (vI H d)
theorem T4{H g:List (List G)}{n:Int}(hH:∀ r∈H,dq r)(k:∀ d∈g,aV d)(h:1<eX H g n):small n:=by
 unfold eX at h;by_cases h1:0<(eO (g.map aD)).count n
 ·have hm := qS.1 h1
  unfold eO at hm;obtain⟨c,hc,e⟩:=bR.1 (gk.1 hm).1;obtain⟨d,q,rfl⟩:=bR.1 hc;obtain⟨_,m,A,hs,_⟩:=(k d q).own;have:(gi (cg d) 1).int=m:=by rw[A]; rfl
  have B:(gi (aD d) 4).int=m:=this;rw[←e,B];exact hs
 ·have hm : n ∈ H.map cN := qS.1 (by omega)
  obtain⟨r,hr,rfl⟩:=bR.1 hm;obtain⟨_,m,rfl,hs,_⟩:=hH r hr;exact hs
theorem T5{H g:List (List G)}{n:Int}(hH:∀ r∈H,dq r)(k:∀ d∈g,aV d):∀ s∈jh H g n,s∈fj:=fun s hs=>by
 rcases bV.1 hs with h|h
 ·obtain ⟨e, he, rfl⟩ := bR.1 h
  obtain⟨a,j,rfl,_,q⟩:=hH e (gk.1 he).1;exact q
 ·obtain ⟨d, A, rfl⟩ := bR.1 h
  exact Tw (k d (gk.1 A).1)
theorem T6(H g:List (List G))(n:Int):(jh H g n).length≤H.length+g.length:=by
 unfold jh;have k:=pq (fun r=>cN r==n) H;have a2:=pq (fun d=>bX d==n) g;rw[eY,bu,bu];omega
section
variable {dd ot:List (List G)}
theorem T7{cs ss held M hm:List (List G)}{ck c1 hc:Nat}(g:∀ k,0≤dp hm k∧dp hm k≤1000)(aT:Nat):∀(q:List (List G)) (s:List (List G) × Nat),(q.map bY).Nodup→(∀ k∈q.map bY,0≤dp s.1 k∧dp s.1 k≤1000) →
  bP sv (fun d=>(gi d 12).int.toNat) q [.l dd,.l cs,.l ss,.l ot,.l held,.i (ck:Int),.l M,.i (c1:Int),.l hm,.i (hc:Int),.l s.1,.i (s.2:Int),.i (aT:Int)] =
   some [.l dd,.l cs,.l ss,.l ot,.l held,.i (ck:Int),.l M,.i (c1:Int),.l hm,.i (hc:Int),.l ((q.map bY).foldl (fx hm) s).1,.i (((q.map bY).foldl (fx hm) s).2:Int),.i (aT:Int)]
 | [],s,_,_=>by simp[bP]
 | e::q,s,hn,hs=>by
  obtain⟨A,B⟩:=kg.1 hn;have h0:=hs (bY e) cJ;have J:=g (bY e);have h1:sv e [.l dd,.l cs,.l ss,.l ot,.l held,.i (ck:Int),.l M,.i (c1:Int),.l hm,.i (hc:Int),.l s.1,.i (s.2:Int),.i (aT:Int)] =
    some [.l dd,.l cs,.l ss,.l ot,.l held,.i (ck:Int),.l M,.i (c1:Int),.l hm,.i (hc:Int),.l (fx hm s (bY e)).1,.i ((fx hm s (bY e)).2:Int),.i (aT:Int)]:=by
   unfold sv
   (dsimp +instances only[Aa,Ab,Ac,Ad,Ae,Af,Ag])
   simp only[aH];have:aw (dp s.1 (bY e)+dp hm (bY e))=true:=by(first|rfl|assumption|(simp only[aw,sl]<;>omega))
   rw[show aw ((gi (bZ [.int .i64] s.1 [.i (gi (gi e 0).row 0).int] [.i 0]) 0).int+(gi (bZ [.int .i64] hm [.i (gi (gi e 0).row 0).int] [.i 0]) 0).int)=true from this];rfl
  have F:=T7 (cs:=cs) (ss:=ss) (held:=held) (M:=M) (ck:=ck) (c1:=c1) (hc:=hc) g aT q (fx hm s (bY e)) B fun k hk=>by
   rw[TX,if_neg (fun I:k=bY e=>A (I▸hk))];exact hs k (bS _ hk)
  simp only[bP,h1,zF,Ab,Aa,G.int,aH];rw[cond_true];exact F
theorem aiW{l k held M hm all:List (List G)}{ck c1 hc ac:Nat}(U:held=(bj l).1)(Y:ck=(bj l).2)(J:∀ d∈l,aV d)(hn:l.length≤400)(I:∀ d∈k,aV d)(hm':k.length≤400) (W:∀ n,dp all n=(eX (bg l) k n:Nat)) (K:List Int) (hK:K.length≤1000) :
  fw yJ [.l dd,.l (k.map aD),.l (k.map dF),.l ot,.l held,.i (ck:Int),.l M,.i (c1:Int),.l hm,.i (hc:Int),.l all,.i (ac:Int),.l [],.l (K.map fun v=>[G.i v]),.i (K.length:Int),.i 0] fun c g=>c=0 ∧
   g=[.l dd,.l (k.map aD),.l (k.map dF),.l ot,.l held,.i (ck:Int),.l M,.i (c1:Int),.l hm,.i (hc:Int),.l ((K.filter fun n=>decide (1<eX (bg l) k n)).map (vI (bg l) k))]:=by
 have O:=oU J;have hbl:=oV J;have q:(K.map fun v=>[G.i v]).length=K.length:=bu _;refine(iq (σ:=List (List G)) (fun s i=>[.l dd,.l (k.map aD),.l (k.map dF),.l ot,.l held,.i (ck:Int),.l M,.i (c1:Int),.l hm,.i (hc:Int),.l all,.i (ac:Int),.l s,.l (K.map fun v=>[G.i v]),.i (K.length:Int),.i (i:Int)]) (K.map fun v=>[G.i v])
  (fun s=>(0,[.l dd,.l (k.map aD),.l (k.map dF),.l ot,.l held,.i (ck:Int),.l M,.i (c1:Int),.l hm,.i (hc:Int),.l s])) (fun s i=>s=((K.take i).filter fun n=>decide (1<eX (bg l) k n)).map (vI (bg l) k)) [] (by omega) rfl ?_ ?_).mono ?_
 ·rintro s i x A hi N hmx ht
  obtain⟨v,hv,rfl⟩:=bR.1 hmx;have ht2:K.take (i+1)=K.take i++[v]:=by
   have R:i<K.length:=by omega
   rw[aks R];congr 2;rw[cG,cy,bA R]at N;simpa using N
  have B:((K.take (i+1)).filter fun n=>decide (1<eX (bg l) k n)).map (vI (bg l) k)=bif decide (1<eX (bg l) k v) then s++[vI (bg l) k v] else s:=by
   rw[ht2,po,fm,←A];simp only[s8,DU];cases decide (1<eX (bg l) k v)<;>simp
  have hsl:s.length≤1000:=by
   have:=pq (fun n=>decide (1<eX (bg l) k n)) (K.take i);rw[A,bu];rw[fZ]at this;omega
  unfold yJ
  (dsimp +instances only[Aa,Ab,Ac,Ad,Ae,Af,Ag])
  simp only[aH,dJ,N]
  (dsimp +instances only[Aa,Ab,Ac,Ad,Ae,Af,Ag])
  refine aa.pos (by rw[q]at hi; (first|rfl|assumption|(simp only[aw,sl]<;>omega))) (aa.pos (by rw[q]; rw[q]at hi; (first|rfl|assumption|(simp only[aw,sl]<;>omega))) (aa.pos (by rw[q]; rw[q]at hi; (first|rfl|assumption|(simp only[aw,sl]<;>omega))) ?_));have hq:aB 1 (gi (bZ [.int .i64] all [.i v] [.i 0]) 0).int=decide (1<eX (bg l) k v):=by
   rw[show (gi (bZ [.int .i64] all [.i v] [.i 0]) 0).int=dp all v from rfl,W,dG,g_,decide_eq_true_eq,decide_eq_true_eq];omega
  rw[hq];cases F:decide (1<eX (bg l) k v)with
  | true =>
   rw[F]at B;rw[decide_eq_true_eq]at F;refine aa.pos rfl (aa.call (aa.eq (Dv (T4 O I F))) ?_);rintro _ rfl;subst U;subst Y;refine aa.cE (aiS (n:=v) J hn I hm') ?_
   (dsimp +instances only[Aa,Ab,Ac,Ad,Ae,Af,Ag])
   simp only[aH];refine aa.cE (TT (T5 O I) (by have:=T6 (bg l) k v; omega)) ?_
   (dsimp +instances only[Aa,Ab,Ac,Ad,Ae,Af,Ag])
   exact aa.pos (by simp only[sl]; simp; omega) (aa.pos (by rw[q]at hi; (first|rfl|assumption|(simp only[aw,sl]<;>omega))) (aa.pos (by simp) (aa.some ⟨_,rfl,B.symm⟩)))
  | false =>
   rw[F]at B;exact aa.neg rfl (aa.pos (by rw[q]at hi; (first|rfl|assumption|(simp only[aw,sl]<;>omega))) (aa.pos (by simp) (aa.some ⟨_,rfl,B.symm⟩)))
 ·rintro s _
  unfold yJ
  (dsimp +instances only[Aa,Ab,Ac,Ad,Ae,Af,Ag])
  simp only[aH];refine aa.neg ?_ (aa.pos (by simp) (aa.some rfl));rw[q]
  (first|rfl|assumption|(simp only[aw,sl]<;>omega))
 ·rintro c g ⟨s, A, rfl, rfl⟩
  rw[q,jl]at A;subst A;exact⟨rfl,rfl⟩
theorem aiX{l q:List (List G)}(F:∀ d∈l,aV d)(hn:l.length≤400)(hlg:∀ d∈q,aV d)(hm':q.length≤400):vo [.l dd,.l (q.map aD),.l (q.map dF),.l ot,.l (bj l).1,.i ((bj l).2:Int)] =
  some [.l dd,.l (q.map aD),.l (q.map dF),.l ot,.l (bj l).1,.i ((bj l).2:Int),.l (oY (bg l) q)]:=by
 obtain⟨h1,_,h3⟩:=y8 l F;have hk:=Dt l F;have hown:=oU F;have hcsl:(q.map aD).length=q.length:=bu _;have hss:=J6 (q.map aD);unfold vo;have hsent:oL (Jq [.l dd,.l (q.map aD),.l (q.map dF),.l ot,.l (bj l).1,.i ((bj l).2:Int)])=some [.l dd,.l (q.map aD),.l (q.map dF),.l ot,.l (bj l).1,.i ((bj l).2:Int),.l (cu (q.map aD)).1,.i ((cu (q.map aD)).2:Int)]:=TJ (cs:=q.map aD) (by omega);rw[xl hsent];refine TI h1.eA fun b p I=>?_;have I:p.Perm (bj l).1:=I;refine⟨_,TL (dd:=dd) (cs:=q.map aD) (ss:=q.map dF) (ot:=ot) (held:=(bj l).1) (ck:=(bj l).2) b p (by rw[I.length_eq]; omega),?_⟩;have hpl:=I.length_eq;have J:dE [.int .i64] mC (du p).1 (du p).2:=J4 _ _ dE.nil;have hsI:dE [.int .i64] mC (cu (q.map aD)).1 (cu (q.map aD)).2:=J4 _ _ dE.nil;have N:∀ n,dp (du p).1 n=(((bg l).map cN).count n:Nat):=fun n=>by
  rw[y6];have:(p.map da).Perm ((bg l).map cN):=by
   have e:p.map da=(p.map dw).map cN:=by rw[gG]; rfl
   rw[e];exact((I.map dw).trans hk).map cN
  rw[this.count_eq]
 have hhl:(du p).1.length≤400:=by
  have:=J5 (p.map da) ([],0);rw[bu]at this;have e:(du p).1=((p.map da).foldl bump ([],0)).1:=rfl;rw[e];simp only[gK]at this;omega
 have hbl:=oV F;have R:Jo [.l dd,.l (q.map aD),.l (q.map dF),.l ot,.l (bj l).1,.i ((bj l).2:Int),.l (cu (q.map aD)).1,.i ((cu (q.map aD)).2:Int),.l (du p).1,.i ((du p).2:Int),.l (cu (q.map aD)).1,.i ((cu (q.map aD)).2:Int)] =
   some (some 0,[.l dd,.l (q.map aD),.l (q.map dF),.l ot,.l (bj l).1,.i ((bj l).2:Int),.l (cu (q.map aD)).1,.i ((cu (q.map aD)).2:Int),.l (du p).1,.i ((du p).2:Int),.l (oY (bg l) q)]):=by
  show iI sw C2 (du p).1 (((du p).2:Int).toNat) _=_
  rw[aH];refine GR J.eA fun W B O=>⟨rfl,?_⟩
  have hpI:=J.perm O;have hnd:=Dw hpI;have hf:=T7 (dd:=dd) (ot:=ot) (cs:=q.map aD) (ss:=q.map dF) (held:=(bj l).1) (ck:=(bj l).2) (M:=(cu (q.map aD)).1) (c1:=(cu (q.map aD)).2) (hm:=(du p).1) (hc:=(du p).2) (fun k=>by
   rw[N];have:=KM (a:=k) (l:=(bg l).map cN);rw[bu]at this;omega) W B (cu (q.map aD)) hnd fun k _=>by
    rw[vF];have:=KM (a:=k) (l:=eO (q.map aD));omega
  have hf2:bP sw.st sw.aT B (sw.init [.l dd,.l (q.map aD),.l (q.map dF),.l ot,.l (bj l).1,.i ((bj l).2:Int),.l (cu (q.map aD)).1,.i ((cu (q.map aD)).2:Int),.l (du p).1,.i ((du p).2:Int),.l (cu (q.map aD)).1,.i ((cu (q.map aD)).2:Int)] W) =
    some [.l dd,.l (q.map aD),.l (q.map dF),.l ot,.l (bj l).1,.i ((bj l).2:Int),.l (cu (q.map aD)).1,.i ((cu (q.map aD)).2:Int),.l (du p).1,.i ((du p).2:Int),.l ((B.map bY).foldl (fx (du p).1) (cu (q.map aD))).1,.i (((B.map bY).foldl (fx (du p).1) (cu (q.map aD))).2:Int),.i (W:Int)]:=by
   show bP sv (fun d=>(gi d 12).int.toNat) B [.l dd,.l (q.map aD),.l (q.map dF),.l ot,.l (bj l).1,.i (((((bj l).2:Int).toNat):Nat):Int),.l (cu (q.map aD)).1,.i (((((cu (q.map aD)).2:Int).toNat):Nat):Int),.l (du p).1,.i (((((du p).2:Int).toNat):Nat):Int),.l (cu (q.map aD)).1,.i (((((cu (q.map aD)).2:Int).toNat):Nat):Int),.i (W:Int)]=_
   rw[aH,aH,aH];exact hf
  refine⟨_,hf2,?_⟩;have U:=TZ (du p).1 (B.map bY) _ hsI;have hAl:((B.map bY).foldl (fx (du p).1) (cu (q.map aD))).1.length≤1000:=by
   have Y:=T3 (du p).1 (B.map bY) (cu (q.map aD));have q2:=J5 (eO (q.map aD)) ([],0);have q3:=O.length_eq;have e:(cu (q.map aD)).1=((eO (q.map aD)).foldl bump ([],0)).1:=rfl;rw[bu]at Y;rw[e]at Y;simp only[gK]at q2;omega
  have hAc:∀ n,dp ((B.map bY).foldl (fx (du p).1) (cu (q.map aD))).1 n=(eX (bg l) q n:Nat):=fun n=>by
   rw[TY _ _ _ _ hnd,vF];unfold eX;by_cases hin:n∈B.map bY
   ·rw [if_pos hin, N]
    omega
   ·rw [if_neg hin]
    have h0:bp [.int .i64] (du p).1 [.i n]=false:=by
     cases hh:bp [.int .i64] (du p).1 [.i n]with
     |false=>rfl
     |true=>exact(hin ((O.map bY).mem_iff.2 ((Dx J n).2 hh))).elim
    have h5:(p.map da).contains n=false:=by
     have:=Dq n (p.map da) ([],0);rw[mo,gJ]at this;rw[←this];exact h0
    have h6:((bg l).map cN).count n=0:=by
     have h7:=y6 p n;rw[N]at h7;have:(p.map da).count n=0:=vS.2 fun hm=>by
      rw[←jm,h5]at hm;cases hm
     omega
    omega
  have hAm:∀ n,1<eX (bg l) q n→n∈((B.map bY).foldl (fx (du p).1) (cu (q.map aD))).1.map bY:=fun n hc=>by
   rw[Dx U,T0];by_cases Y:0<(eO (q.map aD)).count n
   ·have := Dq n (eO (q.map aD)) ([], 0)
    rw[mo,gJ]at this;rw[show bp [.int .i64] (cu (q.map aD)).1 [.i n]=(eO (q.map aD)).contains n from this,jm.2 (qS.1 Y)];rfl
   ·have q2:0<((bg l).map cN).count n:=by
     unfold eX at hc;omega
    have q3:n∈B.map bY:=by
     refine(O.map bY).mem_iff.2 ((Dx J n).2 ?_);have:=Dq n (p.map da) ([],0);rw[mo,gJ]at this;rw[show bp [.int .i64] (du p).1 [.i n]=(p.map da).contains n from this,jm];refine qS.1 ?_;have h7:=y6 p n;rw[N]at h7;omega
    rw[jm.2 q3,Bool.or_true]
  generalize ((B.map bY).foldl (fx (du p).1) (cu (q.map aD)))=A at U hAl hAc hAm;have hnums:za (bg l) q=(fX (A.1.map bY)).filter fun n=>decide (1<eX (bg l) q n):=sP.eq ⟨(y_ (Dw U)).filter _,fun n=>by
   rw[gk,decide_eq_true_eq,(mE _).mem_iff];exact⟨fun h=>h.2,fun h=>⟨hAm n h,h⟩⟩⟩
  refine aa.toEq ?_;unfold C2
  (dsimp +instances only[Aa,Ab,Ac,Ad,Ae,Af,Ag])
  simp only[aH];refine aa.cE (aiV U hAl) ?_
  (dsimp +instances only[Aa,Ab,Ac,Ad,Ae,Af,Ag])
  simp only[aH];have hzl:(fX (A.1.map bY)).length=A.1.length:=by rw[(mE _).length_eq,bu]
  rw[show ((fX (A.1.map bY)).map fun v=>[G.i v]).length=(fX (A.1.map bY)).length from bu _];refine aa.loop (aiW (dd:=dd) (ot:=ot) (M:=(cu (q.map aD)).1) (c1:=(cu (q.map aD)).2) (hm:=(du p).1) (hc:=(du p).2) rfl rfl F hn hlg hm' hAc (fX (A.1.map bY)) (by omega)) (by simp) ?_;rintro c g ⟨rfl,rfl⟩
  (dsimp +instances only[Aa,Ab,Ac,Ad,Ae,Af,Ag])
  simp only[aH];rw[←hnums];exact aa.pos (by simp) (aa.some rfl)
 refine aa.toEq ?_;unfold C4
 (dsimp +instances only[Aa,Ab,Ac,Ad,Ae,Af,Ag])
 simp only[aH];refine aa.cE (show Ii [.l (cu (q.map aD)).1,.i ((cu (q.map aD)).2:Int)]=some [.l (cu (q.map aD)).1,.i ((((cu (q.map aD)).2:Int).toNat:Nat):Int),.l (cu (q.map aD)).1,.i ((((cu (q.map aD)).2:Int).toNat:Nat):Int)] from rfl) ?_
 (dsimp +instances only[Aa,Ab,Ac,Ad,Ae,Af,Ag])
 simp only[aH];rw[R];refine gU ⟨_,rfl,0,rfl,rfl⟩ rfl fun _=>?_
 (dsimp +instances only[Aa,Ab,Ac,Ad,Ae,Af,Ag])
 simp only[aH];exact aa.pos (by simp) (aa.some rfl)
end
theorem aiY(rows:List (List G))(t:Int)(hr:∀ z∈rows,aV z)(hn:rows.length≤20):C5 [.l rows,.i t]=some (bif je rows t != 0 then [.l [],.i (je rows t)] else [.l (oY (bg (ct rows t)) (eV rows t)),.i 0]):=by
 have g:∀ z∈ct rows t,aV z:=fun z k=>hr z (nH k);have A:=qC rows t;have B:=yZ rows t;refine aa.toEq ?_;unfold C5
 (dsimp +instances only[Aa,Ab,Ac,Ad,Ae,Af,Ag])
 refine aa.cE (JS rows t hr hn) ?_
 (dsimp +instances only[Aa,Ab,Ac,Ad,Ae,Af,Ag])
 cases h:je rows t != 0 with
 |true=>exact aa.pos rfl (aa.pos rfl (aa.some rfl))
 | false =>
  refine aa.neg rfl (aa.call (aa.eq (JX rows t hr hn)) ?_);rintro _ rfl
  (dsimp +instances only[Aa,Ab,Ac,Ad,Ae,Af,Ag])
  simp only[aH];refine aa.neg rfl (aa.call (aa.eq (aiX g (by omega) (fun d q=>hr d (Dm q).1) (by omega))) ?_);rintro _ rfl;exact aa.some rfl
def Dy(P:List (List G))(w:Int→List ByteArray):Prop:=∀ n,ft [.int .i64] P [.i n]=true∧dX [.int .i64] P [.i n]=(w n).map fun s=>[G.s s]
def qH(w:Int→List ByteArray)(n:Int)(s:ByteArray):Int→List ByteArray:=fun k=>if k=n then w k++[s] else w k
theorem Dy.put{P:List (List G)}{w:Int→List ByteArray}(h:Dy P w)(n:Int)(s:ByteArray)(c:Nat):Dy (jK [.int .i64] (gv [.int .i64] P [.i n]) [.i n] (dX [.int .i64] P [.i n]++[[.s s]]) c) (qH w n s):=fun k=>by
 rw[TA,Tz,kH];unfold qH;by_cases hk:k=n
 ·subst hk
  rw[decide_eq_true rfl,if_pos rfl,(h k).2,fm];exact⟨rfl,rfl⟩
 ·rw [decide_eq_false hk, if_neg hk, cond_false, cond_false, J1 _ (by rw [kH]; exact decide_eq_false hk), J0]
  exact h k
theorem Dz(m:List (List G))(n k:Int)(b:Bool)(c:Nat):dO (bK [.int .i64] m [.i n] [.t b] c) k=if k=n then b else dO m k:=by
 show (gi (bZ [.int .i64] (bK [.int .i64] m [.i n] [.t b] c) [.i k] [.t false]) 0).bool=_
 rw[nz,kH];by_cases h:k=n
 ·rw [decide_eq_true h, if_pos h]
  rfl
 ·rw [decide_eq_false h, if_neg h]
  rfl
theorem T8{m:List (List G)}{n:Int}{b:Bool}{c:Nat}:(bK [.int .i64] m [.i n] [.t b] c).length≤m.length+1:=by
 have:=(vE (K:=[.int .i64]) (k:=[.i n]) (v:=[.t b]) (clk:=c) (m:=m)).1;have:=congrArg pk this;rw[bu]at this;rw[this];cases bp [.int .i64] m [.i n]<;>simp
structure mF (H:List (List G)) (L:List Int) (w:Int→List ByteArray) (P hm cm:List (List G)) (cc:Nat):Prop where
 aQ:Dy P w
 held:∀ n,dO hm n=(H.map cN).contains n
 form:dE [.int .i64] mC cm cc
 qw:∀ n,dO cm n=decide (1<(H.map cN).count n+L.count n)
 DA:∀ n,(w n).length≤H.length+L.length
 J_:cm.length≤H.length+L.length
section
variable {P hm cm sm sQ hs T9:List (List G)} {pc hc cc sc:Nat} {s:ByteArray} {n len i:Int}
theorem T_(d:ft [.int .i64] P [.i n]=true)(g:(dX [.int .i64] P [.i n]).length≤1000) :
  aa (yK [.l P,.i (pc:Int),.l hm,.i (hc:Int),.l cm,.i (cc:Int),.s s,.i n,.l sQ,.l hs,.i len,.i i]) fun o=>∃ x,o.1=some x∧o.2 =
   [.l (jK [.int .i64] (gv [.int .i64] P [.i n]) [.i n] (dX [.int .i64] P [.i n]++[[.s s]]) pc),.i ((cU [.int .i64] (gv [.int .i64] P [.i n]) [.i n] pc:Nat):Int),.l (bK [.int .i64] hm [.i n] [.t true] hc),.i ((cU [.int .i64] hm [.i n] hc:Nat):Int),.l cm,.i (cc:Int),.l sQ,.l hs,.i len,.i i]:=by
 unfold yK
 (dsimp +instances only[Aa,Ab,Ac,Ad,Ae,Af,Ag])
 simp only[aH];exact aa.pos d (aa.pos (by simp only[sl]; simp; omega) (aa.pos (by simp) (aa.some ⟨0,rfl,rfl⟩)))
theorem J'{B a2 a3 a4 a5 F a9 d:Int}{I J g k q A:ByteArray}(M:ft [.int .i64] P [.i n]=true)(N:(dX [.int .i64] P [.i n]).length≤1000) :
  aa (yM [.l P,.i (pc:Int),.l hm,.i (hc:Int),.l cm,.i (cc:Int),.l sm,.i (sc:Int),.s s,.i B,.i a2,.i a3,.i a4,.i a5,.s I,.s J,.i F,.i a9,.s g,.s k,.s q,.s A,.i d,.i n,.l T9,.i len,.i i]) fun o=>∃ x,o.1=some x∧o.2 =
   [.l (jK [.int .i64] (gv [.int .i64] P [.i n]) [.i n] (dX [.int .i64] P [.i n]++[[.s s]]) pc),.i ((cU [.int .i64] (gv [.int .i64] P [.i n]) [.i n] pc:Nat):Int),.l hm,.i (hc:Int),.l cm,.i (cc:Int),.l (bK [.int .i64] sm [.i n] [.t true] sc),.i ((cU [.int .i64] sm [.i n] sc:Nat):Int),.l T9,.i len,.i i]:=by
 unfold yM
 (dsimp +instances only[Aa,Ab,Ac,Ad,Ae,Af,Ag])
 simp only[aH];exact aa.pos M (aa.pos (by simp only[sl]; simp; omega) (aa.pos (by simp) (aa.some ⟨0,rfl,rfl⟩)))
end
def wH(H:List (List G))(n:Int):List ByteArray:=(H.filter fun r=>cN r==n).map nI
theorem mF.hold{H P hm cm:List (List G)}{cc hc pc:Nat}(h:mF H [] (wH H) P hm cm cc)(r:List G) :
  mF (H++[r]) [] (wH (H++[r])) (jK [.int .i64] (gv [.int .i64] P [.i (cN r)]) [.i (cN r)] (dX [.int .i64] P [.i (cN r)]++[[.s (nI r)]]) pc) (bK [.int .i64] hm [.i (cN r)] [.t true] hc)
   (bK [.int .i64] cm [.i (cN r)] [.t (dO cm (cN r)||dO hm (cN r))] cc) (cU [.int .i64] cm [.i (cN r)] cc):=by
 have d:wH (H++[r])=qH (wH H) (cN r) (nI r):=by
  funext k
  unfold wH qH;rw[po,fm];simp only[s8,DU];by_cases hk:k=cN r
  ·subst hk
   rw[if_pos rfl];simp
  ·rw [if_neg hk]
   have:(cN r==k)=false:=by simpa using fun e=>hk e.symm
   rw[this];simp
 refine⟨by rw[d]; exact h.aQ.put _ _ _,fun k=>?_,h.form.put ⟨_,rfl⟩ _,fun k=>?_,fun k=>?_,?_⟩
 ·rw [Dz, fm, h.held]
  by_cases hk:k=cN r
  ·rw [if_pos hk]
   symm;rw[jm];simp[hk]
  ·rw [if_neg hk, g_, jm, jm, bV]
   simp[hk]
 ·rw [Dz, fm, akt]
  simp only[dK,pj,KO,j9];by_cases hk:k=cN r
  ·subst hk
   rw[if_pos rfl,h.qw,h.held,g_,jC,decide_eq_true_eq,decide_eq_true_eq,jm,←qS];simp only[KO,j9,aku];omega
  ·rw [if_neg hk, h.qw]
   have:[cN r].count k=0:=by
    rw[vS];simpa using hk
   simp only[this,KO,j9];rfl
 ·rw [d]
  unfold qH;have:=h.DA k;split
  ·simp at this ⊢
   omega
  ·simp at this ⊢
   omega
 ·have := h.J_
  have g:=T8 (m:=cm) (n:=cN r) (b:=dO cm (cN r)||dO hm (cN r)) (c:=cc);simp at this⊢;omega
theorem aiZ(sQ hs:List (List G))(hn:hs.length≤400) :
  fw yL [.l [],.i 0,.l [],.i 0,.l [],.i 0,.l sQ,.l hs,.i (hs.length:Int),.i 0] fun _ g=>∃(P hm cm:List (List G)) (pc hc cc:Nat),mF hs [] (wH hs) P hm cm cc∧g=[.l P,.i (pc:Int),.l hm,.i (hc:Int),.l cm,.i (cc:Int),.l sQ]:=by
 refine(iq (σ:=(List (List G) × Nat) × (List (List G) × Nat) × (List (List G) × Nat)) (fun s i=>[.l s.1.1,.i (s.1.2:Int),.l s.2.1.1,.i (s.2.1.2:Int),.l s.2.2.1,.i (s.2.2.2:Int),.l sQ,.l hs,.i (hs.length:Int),.i (i:Int)]) hs
  (fun s=>(0,[.l s.1.1,.i (s.1.2:Int),.l s.2.1.1,.i (s.2.1.2:Int),.l s.2.2.1,.i (s.2.2.2:Int),.l sQ])) (fun s i=>mF (hs.take i) [] (wH (hs.take i)) s.1.1 s.2.1.1 s.2.2.1 s.2.2.2) (([],0),([],0),([],0)) (by omega)
  ⟨fun n=>⟨rfl,rfl⟩,fun n=>rfl,dE.nil,fun n=>by simp[dO,xQ,gi,G.bool],fun n=>by simp[wH],by simp⟩ ?_ ?_).mono ?_
 ·rintro ⟨⟨P, pc⟩, ⟨hm, hc⟩, ⟨cm, cc⟩⟩ i r d hi F J I
  simp only at d;have q:=(d.aQ (cN r)).1;have A:(dX [.int .i64] P [.i (cN r)]).length≤1000:=by
   rw[(d.aQ (cN r)).2,bu];have:=d.DA (cN r);rw[fZ,gK]at this;omega
  have k:=fun hc pc=>d.hold (hc:=hc) (pc:=pc) r;rw[←I]at k;unfold yL
  (dsimp +instances only[Aa,Ab,Ac,Ad,Ae,Af,Ag])
  simp only[aH,F];refine aa.p (aa.p ?_);show aa (bif dO cm (cN r) then _ else _) _
  cases B:dO cm (cN r)with
  | true =>
   rw[B,KI]at k;refine aa.pos rfl (gU (T_ (n:=cN r) (s:=nI r) q A) rfl fun _=>?_)
   (dsimp +instances only[Aa,Ab,Ac,Ad,Ae,Af,Ag])
   simp only[aH];exact aa.p (aa.some ⟨((_,_),(_,_),(_,_)),rfl,k hc pc⟩)
  | false =>
   rw[B,gJ]at k;refine aa.neg rfl (gU (T_ (n:=cN r) (s:=nI r) q A) rfl fun _=>?_)
   (dsimp +instances only[Aa,Ab,Ac,Ad,Ae,Af,Ag])
   simp only[aH];exact aa.p (aa.some ⟨((_,_),(_,_),(_,_)),rfl,k hc pc⟩)
 ·rintro s _
  unfold yL
  (dsimp +instances only[Aa,Ab,Ac,Ad,Ae,Af,Ag])
  simp only[aH];exact aa.n (aa.some rfl)
 ·rintro c g ⟨⟨⟨P, pc⟩, ⟨hm, hc⟩, ⟨cm, cc⟩⟩, d, _, rfl⟩
  rw[jl]at d;exact⟨P,hm,cm,pc,hc,cc,d,rfl⟩
def gW(d:List (List G)):List Int:=(d.map bX).filter fun n => !(n==0)
def wL(H d:List (List G))(n:Int):List ByteArray:=if n=0 then wH H n else jh H d n
theorem mF.log{H g P hm cm:List (List G)}{cc pc:Nat}{sm:List (List G)}(h:mF H (gW g) (wL H g) P hm cm cc)(hs:∀ n,dO sm n=(gW g).contains n)(d:List G)(q:bX d≠0)(sc:Nat) :
  mF H (gW (g++[d])) (wL H (g++[d])) (jK [.int .i64] (gv [.int .i64] P [.i (bX d)]) [.i (bX d)] (dX [.int .i64] P [.i (bX d)]++[[.s (jg d)]]) pc) hm
   (bK [.int .i64] cm [.i (bX d)] [.t (dO cm (bX d)||(dO hm (bX d)||dO sm (bX d)))] cc) (cU [.int .i64] cm [.i (bX d)] cc)∧∀ n,dO (bK [.int .i64] sm [.i (bX d)] [.t true] sc) n=(gW (g++[d])).contains n:=by
 have B:gW (g++[d])=gW g++[bX d]:=by
  unfold gW;rw[fm,po];simp[q]
 have A:wL H (g++[d])=qH (wL H g) (bX d) (jg d):=by
  funext k
  unfold wL qH jh;rw[po,fm];simp only[s8,DU];by_cases hk:k=bX d
  ·subst hk
   rw[if_neg q,if_pos rfl,if_neg q];simp
  ·rw [if_neg hk]
   have:(bX d==k)=false:=by simpa using fun e=>hk e.symm
   rw[this];simp
 rw[B];refine⟨⟨by rw[A]; exact h.aQ.put _ _ _,h.held,h.form.put ⟨_,rfl⟩ _,fun k=>?_,fun k=>?_,?_⟩,fun k=>?_⟩
 ·rw [Dz, akt]
  by_cases hk:k=bX d
  ·subst hk
   rw[if_pos rfl,h.qw,h.held,hs,g_,jC,jC,decide_eq_true_eq,decide_eq_true_eq,jm,jm,←qS,←qS];simp only[aku,KO];omega
  ·rw [if_neg hk, h.qw]
   have:[bX d].count k=0:=by
    rw[vS];simpa using hk
   rw[this,j9]
 ·rw [A]
  unfold qH;have:=h.DA k;split
  ·simp at this ⊢
   omega
  ·simp at this ⊢
   omega
 ·have := h.J_
  have F:=T8 (m:=cm) (n:=bX d) (b:=dO cm (bX d)||(dO hm (bX d)||dO sm (bX d))) (c:=cc);simp at this⊢;omega
 ·rw [Dz, hs]
  by_cases hk:k=bX d
  ·rw [if_pos hk]
   symm;rw[jm];simp[hk]
  ·rw [if_neg hk, g_, jm, jm, bV]
   simp[hk]
theorem ai0{H P hm cm:List (List G)}{pc hc cc:Nat}(q:List (List G))(U:∀ d∈q,aV d)(hn:q.length≤400)(hH:H.length≤400)(h0:mF H [] (wH H) P hm cm cc) :
  fw yN [.l P,.i (pc:Int),.l hm,.i (hc:Int),.l cm,.i (cc:Int),.l [],.i 0,.l q,.i (q.length:Int),.i 0] fun _ g=>∃(P cm:List (List G)) (pc cc:Nat),mF H (gW q) (wL H q) P hm cm cc∧g=[.l P,.i (pc:Int),.l cm,.i (cc:Int)]:=by
 refine(iq (σ:=(List (List G) × Nat) × (List (List G) × Nat) × (List (List G) × Nat)) (fun s i=>[.l s.1.1,.i (s.1.2:Int),.l hm,.i (hc:Int),.l s.2.1.1,.i (s.2.1.2:Int),.l s.2.2.1,.i (s.2.2.2:Int),.l q,.i (q.length:Int),.i (i:Int)]) q
  (fun s=>(0,[.l s.1.1,.i (s.1.2:Int),.l s.2.1.1,.i (s.2.1.2:Int)])) (fun s i=>mF H (gW (q.take i)) (wL H (q.take i)) s.1.1 hm s.2.1.1 s.2.1.2∧∀ n,dO s.2.2.1 n=(gW (q.take i)).contains n) ((P,pc),(cm,cc),([],0)) (by omega) ⟨?_,fun n=>rfl⟩ ?_ ?_).mono ?_
 ·have e:wL H (q.take 0)=wH H:=by
   funext n
   unfold wL jh wH;split<;>simp
  rw[e];exact h0
 ·rintro ⟨⟨P, pc⟩, ⟨cm, cc⟩, ⟨sm, sc⟩⟩ i d ⟨A, I⟩ hi Y W J
  simp only at A I;have hd:=U d W;have hnl:(gW (q.take i)).length≤400:=by
   unfold gW;have:=pq (fun n:Int => !(n==0)) ((q.take i).map bX);rw[bu,fZ]at this;omega
  have M:=(A.aQ (bX d)).1;have N:(dX [.int .i64] P [.i (bX d)]).length≤1000:=by
   rw[(A.aQ (bX d)).2,bu];have:=A.DA (bX d);omega
  unfold yN
  (dsimp +instances only[Aa,Ab,Ac,Ad,Ae,Af,Ag])
  simp only[aH,Y];refine aa.p (aa.p ?_);show aa (bif bX d==0 then _ else _) _
  cases F:bX d==0 with
  | true =>
   have F:bX d=0:=by simpa using F
   have en:gW (q.take (i+1))=gW (q.take i):=by
    rw[J];unfold gW;rw[fm,po];simp[F]
   have ew:wL H (q.take (i+1))=wL H (q.take i):=by
    rw[J]
    funext k
    unfold wL jh;by_cases hk:k=0
    ·rw[if_pos hk,if_pos hk]
    ·rw [if_neg hk, if_neg hk, po, fm]
     have:(bX d==k)=false:=by
      rw[F];simpa using fun e=>hk e.symm
     simp[this]
   refine aa.pos rfl (aa.p (aa.some ⟨((P,pc),(cm,cc),(sm,sc)),rfl,?_⟩));simp only;rw[en,ew];exact⟨A,I⟩
  | false =>
   have F:bX d≠0:=by simpa using F
   have B:=fun sc pc=>A.log (pc:=pc) I d F sc;rw[←J]at B;refine aa.neg rfl ?_;show aa (bif dO cm (bX d) then _ else _) _
   cases R:dO cm (bX d)with
   | true =>
    rw[R,KI]at B;refine aa.pos rfl (gU (J' (n:=bX d) (s:=jg d) M N) rfl fun _=>?_)
    (dsimp +instances only[Aa,Ab,Ac,Ad,Ae,Af,Ag])
    simp only[aH];exact aa.p (aa.some ⟨((_,_),(_,_),(_,_)),rfl,B sc pc⟩)
   | false =>
    rw[R,gJ]at B;refine aa.neg rfl ?_;show aa (bif dO hm (bX d) then _ else _) _
    cases O:dO hm (bX d)with
    | true =>
     rw[O,KI]at B;refine aa.pos rfl (gU (J' (n:=bX d) (s:=jg d) M N) rfl fun _=>?_)
     (dsimp +instances only[Aa,Ab,Ac,Ad,Ae,Af,Ag])
     simp only[aH];exact aa.p (aa.some ⟨((_,_),(_,_),(_,_)),rfl,B sc pc⟩)
    | false =>
     rw[O,gJ]at B;refine aa.neg rfl (gU (J' (n:=bX d) (s:=jg d) M N) rfl fun _=>?_)
     (dsimp +instances only[Aa,Ab,Ac,Ad,Ae,Af,Ag])
     simp only[aH];exact aa.p (aa.some ⟨((_,_),(_,_),(_,_)),rfl,B sc pc⟩)
 ·rintro s _
  unfold yN
  (dsimp +instances only[Aa,Ab,Ac,Ad,Ae,Af,Ag])
  simp only[aH];exact aa.n (aa.some rfl)
 ·rintro c g ⟨⟨⟨P, pc⟩, ⟨cm, cc⟩, ⟨sm, sc⟩⟩, ⟨A, _⟩, _, rfl⟩
  rw[jl]at A;exact⟨P,cm,pc,cc,A,rfl⟩
theorem Ua{K:List Kd}{x z:List G}:∀{m:List (List G)},bp K m x=false→bZ K m x z=z
 | [],_=>rfl
 | r::rs,h=>by
  rw[mq,akq]at h;rw[uG,h.1];exact Ua h.2
def fY(e:List G):Bool:=(gi (gi e 1).row 0).bool
theorem Ub{m:List (List G)}{clk:Nat}(h:dE [.int .i64] mC m clk){e:List G}(he:e∈m):dO m (bY e)=fY e:=by
 have:=h.get e he [.t false] fun k hk=>by
  obtain⟨n,rfl⟩:=hk;rw[kH];simp
 obtain⟨k,v,n,rfl,_,i,rfl⟩:=h.form e he;show (gi (bZ [.int .i64] m [.i i] [.t false]) 0).bool=_
 rw[show bZ [.int .i64] m [.i i] [.t false]=_ from this];rfl
theorem ai1(l:List ByteArray)(hn:l.length≤1000):yB [.l (l.map fun s=>[G.s s])]=some [.l (gC (l.map fun s=>[G.s s]))]:=by
 unfold yB BM
 (dsimp +instances only[Aa,Ab,Ac,Ad,Ae,Af,Ag])
 rw[show eZ (l.map fun s=>[G.s s]).length 1000000=true by simp; omega];rfl
theorem ai2(l:List ByteArray)(hn:l.length≤1000):aa (yD [.l (gC (l.map fun s=>[G.s s]))]) fun g=>∃ J,g=[.l (eI l++J),.i ((eI l).length:Int)]:=by
 have d:(gC (l.map fun s=>[G.s s])).length=l.length:=by rw[BN,bu]
 rw[ais];have h:aa (xS [.str] [.s (⟨#[]⟩:ByteArray)] [.l (gC (l.map fun s=>[G.s s]))]) _:=Zp (K:=[.str]) (Z:=[.s (⟨#[]⟩:ByteArray)]) aio (gC (l.map fun s=>[G.s s])) (fun r hr=>by
  obtain⟨s,_,e⟩:=JZ.1 hr;exact⟨s,e⟩) (by omega)
 rw[aip]at h;exact h.mono fun g ⟨J,e,_⟩=>⟨J,e⟩
def sR(w:Int→List ByteArray)(n:Int):List G:=[.s (uM n),.s (jS (eI (w n)) (⟨#[32]⟩:ByteArray))]
theorem ai3{A:List (List G)}{pc:Nat}{w:Int→List ByteArray}(K:List Int)(hK:K.length≤1000)(Y:K.Nodup)(hsm:∀ n∈K,small n)(hP:∀ n∈K,ft [.int .i64] A [.i n]=true∧dX [.int .i64] A [.i n]=(w n).map fun s=>[G.s s])
  (hw:∀ n∈K,(w n).length≤1000∧∀ s∈w n,s∈fj) :
  fw yO [.l A,.i (pc:Int),.l [],.l (K.map fun v=>[G.i v]),.i (K.length:Int),.i 0] fun c g=>c=0∧g=[.l (K.map (sR w))]:=by
 have d:(K.map fun v=>[G.i v]).length=K.length:=bu _;refine(iq (σ:=List (List G) × List (List G)) (fun s i=>[.l s.1,.i (pc:Int),.l s.2,.l (K.map fun v=>[G.i v]),.i (K.length:Int),.i (i:Int)]) (K.map fun v=>[G.i v])
  (fun s=>(0,[.l s.2])) (fun s i=>s.2=(K.take i).map (sR w)∧∀ n∈K.drop i,ft [.int .i64] s.1 [.i n]=true∧dX [.int .i64] s.1 [.i n]=(w n).map fun s=>[G.s s]) (A,[]) (by omega) ⟨rfl,by simpa using hP⟩ ?_ ?_).mono ?_
 ·rintro ⟨P, s⟩ i x ⟨k, B⟩ hi M hmx ht
  simp only at k B;have q:i<K.length:=by omega
  obtain⟨v,N,ev⟩:∃ v,K[i]? = some v∧x=[.i v]:=by
   refine⟨K[i],bA q,?_⟩;rw[cG,cy,bA q]at M;simpa using M.symm
  subst ev;have R:K[i]=v:=by
   rw[bA q]at N;exact nT N
  have F:K.drop i=v::K.drop (i+1):=by rw[List.drop_eq_getElem_cons q,R]
  have O:v∈K:=List.mem_of_getElem? N;have ht2:K.take (i+1)=K.take i++[v]:=by rw[aks q,R]
  have en:(K.take (i+1)).map (sR w)=s++[sR w v]:=by rw[ht2,fm,k]; rfl
  have hsl:s.length≤1000:=by rw[k,bu,fZ]; omega
  obtain⟨hp1,hp2⟩:=B v (by rw[F]; exact cJ);obtain⟨I,hw2⟩:=hw v O;have U:∀ n∈K.drop (i+1),ft [.int .i64] (gv [.int .i64] P [.i v]) [.i n]=true∧dX [.int .i64] (gv [.int .i64] P [.i v]) [.i n]=(w n).map fun s=>[G.s s]:=fun n hn=>by
   have hne:n≠v:=fun e=>by
    have:=(kg.1 (F▸(Y.sublist (List.drop_sublist i K)))).1;exact this (e▸hn)
   rw[J1 _ (by rw[kH]; exact decide_eq_false hne),J0];exact B n (by rw[F]; exact bS _ hn)
  have W:(gC ((w v).map fun s=>[G.s s])).length=(w v).length:=by rw[BN,bu]
  unfold yO
  (dsimp +instances only[Aa,Ab,Ac,Ad,Ae,Af,Ag])
  simp only[aH,dJ,M]
  (dsimp +instances only[Aa,Ab,Ac,Ad,Ae,Af,Ag])
  rw[hp1,hp2];refine aa.pos (by rw[d]at hi; (first|rfl|assumption|(simp only[aw,sl]<;>omega))) (aa.pos (by rw[d]; rw[d]at hi; (first|rfl|assumption|(simp only[aw,sl]<;>omega))) (aa.pos (by rw[d]; rw[d]at hi; (first|rfl|assumption|(simp only[aw,sl]<;>omega))) (aa.pos rfl ?_)));refine aa.gS (aa.eq (ai1 (w v) I)) (by simp) ?_;rintro _ rfl
  (dsimp +instances only[Aa,Ab,Ac,Ad,Ae,Af,Ag])
  refine aa.cE (Dv (hsm v O)) ?_
  (dsimp +instances only[Aa,Ab,Ac,Ad,Ae,Af,Ag])
  refine aa.gS (ai2 (w v) I) (by simp[W]) ?_;rintro _ ⟨J,rfl⟩
  (dsimp +instances only[Aa,Ab,Ac,Ad,Ae,Af,Ag])
  simp only[aH,List.take_left'];refine aa.gS (aa.eq (TT hw2 I)) (by simp) ?_;rintro _ rfl
  (dsimp +instances only[Aa,Ab,Ac,Ad,Ae,Af,Ag])
  exact aa.pos (by simp only[sl]; simp; omega) (aa.pos (by rw[d]at hi; (first|rfl|assumption|(simp only[aw,sl]<;>omega))) (aa.pos (by simp) (aa.some ⟨(gv [.int .i64] P [.i v],s++[sR w v]),rfl,en.symm,U⟩)))
 ·rintro s _
  unfold yO
  (dsimp +instances only[Aa,Ab,Ac,Ad,Ae,Af,Ag])
  refine aa.neg ?_ (aa.pos (by simp) (aa.some rfl));rw[d]
  (first|rfl|assumption|(simp only[aw,sl]<;>omega))
 ·rintro c g ⟨⟨P, s⟩, ⟨k, _⟩, rfl, rfl⟩
  simp only at k;rw[d,jl]at k;subst k;exact⟨rfl,rfl⟩
theorem Uc{P:List (List G)}{pc:Nat}(aT:Nat):∀(q out:List (List G)),out.length+q.length≤2000 →
  bP yP (fun d=>(gi d 3).int.toNat) q [.l P,.i (pc:Int),.l out,.i (aT:Int)]=some [.l P,.i (pc:Int),.l (out++(q.filter fY).map fun e=>[G.i (bY e)]),.i (aT:Int)]
 | [],out,_=>by simp[bP]
 | e::q,out,g=>by
  simp only[cF]at g;have h1:yP e [.l P,.i (pc:Int),.l out,.i (aT:Int)]=some [.l P,.i (pc:Int),.l (bif fY e then out++[[.i (bY e)]] else out),.i (aT:Int)]:=by
   refine aa.toEq ?_;unfold yP
   (dsimp +instances only[Aa,Ab,Ac,Ad,Ae,Af,Ag])
   simp only[aH];show aa (bif fY e then _ else _) _
   cases fY e with
   |true=>exact aa.pos rfl (aa.pos (by simp only[sl]; simp; omega) (aa.pos (by simp) (aa.some rfl)))
   |false=>exact aa.neg rfl (aa.pos (by simp) (aa.some rfl))
  have k:=Uc (P:=P) (pc:=pc) aT q (bif fY e then out++[[.i (bY e)]] else out) (by cases fY e<;>simp<;>omega);simp only[bP,h1,zF,Ab,Aa,G.int,aH];rw[cond_true];refine Eq.trans k ?_;rw[s8];cases fY e<;>simp
theorem ai4{rows:List (List G)}(h:j0 rows):∀ z∈rows,jz z=0:=fun z d=>by
 obtain⟨i,hi,rfl⟩:=List.mem_iff_getElem.1 d;have:=h.1.1 i hi
 rwa [cG,bA hi]at this
theorem Ud{n a b:Int}:cq n a b=true↔a≤n∧n≤b:=by
 unfold cq;rw[eD,eD,ay,decide_eq_true_eq,decide_eq_true_eq]
theorem ai5{d:List G}(h:jz d=0)(hk:(gi d 3).int=1):0≤bX d:=by
 unfold jz at h;cases h1:lG (gi d 0).str with
 |false=>rw[h1]at h; cases h
 |true =>
 cases A:cq (gi d 1).int 1 1000000 with
 |false=>rw[h1,A]at h; cases h
 |true =>
 cases F:cq (gi d 2).int 0 345686399999 with
 |false=>rw[h1,A,F]at h; cases h
 |true =>
 rw[h1,A,F,hk]at h;simp only[Bool.not_true,cond_false,show cq 1 1 5=true from rfl,show ((1:Int)==1)=true from rfl,cond_true]at h;cases g:jY (lH d) != 0 with
 | true =>
  rw[g,cond_true]at h;rw[h]at g;simp at g
 | false =>
  have g:jY (lH d)=0:=by simpa using g
  unfold jY at g;cases k:cq (gi (lH d) 0).int 0 345686399999 with
  |false=>rw[k]at g; cases g
  |true =>
  cases q:cq (gi (lH d) 1).int 1 3 with
  |false=>rw[k,q]at g; cases g
  |true =>
  cases B:jX (gi (lH d) 2).str with
  |false=>rw[k,q,B]at g; cases g
  |true =>
  cases I:vr (gi (lH d) 3).str with
  |false=>rw[k,q,B,I]at g; cases g
  |true =>
  cases J:cq (gi (lH d) 4).int 0 99999 with
  |false=>rw[k,q,B,I,J]at g; cases g
  |true=>exact(Ud.1 J).1
theorem ai6{d:List G}(h:jz d=0)(hk:(gi d 3).int=3):1≤bX d:=by
 unfold jz at h;cases h1:lG (gi d 0).str with
 |false=>rw[h1]at h; cases h
 |true =>
 cases g:cq (gi d 1).int 1 1000000 with
 |false=>rw[h1,g]at h; cases h
 |true =>
 cases k:cq (gi d 2).int 0 345686399999 with
 |false=>rw[h1,g,k]at h; cases h
 |true =>
 rw[h1,g,k,hk]at h;cases q:cq (gi d 8).int 1 99999 with
 |false=>rw[q]at h; cases h
 |true=>exact(Ud.1 q).1
theorem Ue{k:List G}(hk:dq k):∀{q:List (List G)},(∀ d∈q,aV d)→lL k q=true→∃ d∈q,(gi d 3).int=3∧k=cg d
 | d::q,g,h=>by
  simp only[lL,jC,ay]at h;rcases h with⟨h,_⟩|h
  ·unfold oT qG at h
   rw[ay,beq_iff_eq,qF hk (g d cJ).own]at h;exact⟨d,cJ,h.1,h.2⟩
  ·obtain ⟨e, he, h⟩ := Ue hk (fun x A => g x (bS _ A)) h
   exact⟨e,bS _ he,h⟩
section
variable (rows:List (List G)) (t:Int) (hr:∀ z∈rows,aV z) (hn:rows.length≤20) (aL:j0 rows)
include hr hn aL
theorem ai7:C8 [.l rows,.i t]=some [.l (oY (bg (ct rows t)) (eV rows t))]:=by
 have F:∀ z∈ct rows t,aV z:=fun z hz=>hr z (nH hz);have N:∀ d∈eV rows t,aV d:=fun d q=>hr d (Dm q).1;have hfn:=qC rows t;have hll:=yZ rows t;have M:=oU F;have hbl:=oV F;have hF:=ai4 aL;have hpos:∀ d∈eV rows t,0≤bX d:=fun d q=>ai5 (hF d (Dm q).1) (Dm q).2;have hone:∀ r∈bg (ct rows t),1≤cN r:=fun r B=>by
  have hR:=M r B;rcases(Ds hR (ct rows t) [] F (by simp)).1 B with h|h
  ·cases h
  ·obtain ⟨d, q, h3, e⟩ := Ue hR F h
   have:=ai6 (hF d (nH q)) h3;rw[e];exact this
 have Y:=J8 rows t hr hn aL;have O:vg [.l rows,.i t]=some [.l (eV rows t),.l (JW rows t)]:=Tj rows t hr hn aL;have I:(dt (bg (ct rows t))).Perm (bg (ct rows t)):=nB _;refine aa.toEq ?_;unfold C8
 (dsimp +instances only[Aa,Ab,Ac,Ad,Ae,Af,Ag])
 refine aa.cE O ?_;refine aa.cE Y ?_
 (dsimp +instances only[Aa,Ab,Ac,Ad,Ae,Af,Ag])
 have hll2:(eV rows t).length≤20:=by omega
 have hbl2:(bg (ct rows t)).length≤20:=by omega
 clear Y O F hfn;generalize eV rows t=k at *;generalize bg (ct rows t)=H at *;have hsl:(dt H).length=H.length:=I.length_eq;refine aa.loop (aiZ k (dt H) (by omega)) rfl ?_;rintro _ _ ⟨P,hm,cm,pc,hc,cc,h0,rfl⟩
 (dsimp +instances only[Aa,Ab,Ac,Ad,Ae,Af,Ag])
 simp only[aH];refine aa.loop (ai0 k N (by omega) (by omega) h0) rfl ?_;rintro _ _ ⟨P,cm,pc,cc,A,rfl⟩
 (dsimp +instances only[Aa,Ab,Ac,Ad,Ae,Af,Ag])
 simp only[aH];have hnz:gW k=eO (k.map aD):=by
  unfold gW eO;have e:(k.map aD).map (fun c=>(gi c 4).int)=k.map bX:=by rw[gG]; rfl
  rw[e];refine List.filter_congr fun n hn=>?_;obtain⟨d,q,rfl⟩:=bR.1 hn;have:=hpos d q;rw[g_,decide_eq_true_eq];simp;omega
 have hcN:∀ n,dO cm n=decide (1<eX H k n):=fun n=>by
  rw[A.qw,hnz,(I.map cN).count_eq];unfold eX;rw[Nat.add_comm]
 have hc0:¬ 1<eX H k 0:=fun h=>by
  unfold eX at h;have q1:(eO (k.map aD)).count 0=0:=vS.2 fun hm=>by
   have:=(gk.1 hm).2;simp at this
  have q2:(H.map cN).count 0=0:=vS.2 fun hm=>by
   obtain⟨r,B,e⟩:=bR.1 hm;have:=hone r B;omega
  omega
 have hcl:=A.J_;have hnl:(gW k).length≤20:=by
  unfold gW;have:=pq (fun n:Int => !(n==0)) (k.map bX);rw[bu]at this;omega
 have R:Jw [.l P,.i (pc:Int),.l cm,.i (cc:Int),.l []]=some (some 0,[.l (oY H k)]):=by
  show iI sA C7 cm ((cc:Int).toNat) _=_
  rw[aH];refine GR A.form.eA fun b p J=>⟨rfl,?_⟩
  have hpl:=J.length_eq;have hf:=Uc (P:=P) (pc:=pc) b p [] (by simp; omega);have hf2:bP sA.st sA.aT p (sA.init [.l P,.i (pc:Int),.l cm,.i (cc:Int),.l []] b)=some [.l P,.i (pc:Int),.l (((p.filter fY).map bY).map fun v=>[G.i v]),.i (b:Int)]:=by
   show bP yP (fun d=>(gi d 3).int.toNat) p [.l P,.i ((((pc:Int).toNat):Nat):Int),.l [],.i (b:Int)]=_
   rw[aH,hf,mI,gG];rfl
  refine⟨_,hf2,?_⟩;have hpI:=A.form.perm J;have U:((p.filter fY).map bY).Nodup:=(Dw hpI).sublist (List.filter_sublist.map bY);have hvl:((p.filter fY).map bY).length≤100:=by
   have:=pq fY p;rw[bu];omega
  have hK:sP H k (fX ((p.filter fY).map bY)):=⟨y_ U,fun n=>by
   rw[(mE _).mem_iff,←decide_eq_true_eq (p:=1<eX H k n),←hcN];constructor
   ·intro h
    obtain⟨e,he,rfl⟩:=bR.1 h;obtain⟨he,hv⟩:=gk.1 he;rw[Ub A.form (J.mem_iff.1 he)];exact hv
   ·intro h
    have hh:bp [.int .i64] cm [.i n]=true:=by
     cases hq:bp [.int .i64] cm [.i n]with
     |true=>rfl
     | false =>
      have h:(gi (bZ [.int .i64] cm [.i n] [.t false]) 0).bool=true:=h;rw[Ua hq]at h;cases h
    obtain⟨e,he,rfl⟩:=bR.1 ((Dx A.form n).2 hh);rw[Ub A.form he]at h;exact bR.2 ⟨e,gk.2 ⟨J.mem_iff.2 he,h⟩,rfl⟩⟩
  have hnums:=hK.eq;have hzl:(fX ((p.filter fY).map bY)).length=((p.filter fY).map bY).length:=(mE _).length_eq;have hin:∀ n∈fX ((p.filter fY).map bY),1<eX H k n:=fun n h=>(hK.2 n).1 h;have W:∀ n∈fX ((p.filter fY).map bY),wL (dt H) k n=jh (dt H) k n:=fun n h=>by
   unfold wL;rw[if_neg];intro e;exact hc0 (e▸hin n h)
  have hoS:∀ r∈dt H,dq r:=fun r B=>M r (I.mem_iff.1 B);have hsrt:=TW ((p.filter fY).map bY) (by omega);refine aa.toEq ?_;unfold C7
  (dsimp +instances only[Aa,Ab,Ac,Ad,Ae,Af,Ag])
  simp only[aH];refine aa.gS (aa.eq hsrt) (by simp) ?_;rintro _ rfl
  (dsimp +instances only[Aa,Ab,Ac,Ad,Ae,Af,Ag])
  rw[show (((p.filter fY).map bY).map fun v=>[G.i v]).length=(fX ((p.filter fY).map bY)).length by rw[bu,hzl]];refine aa.loop (ai3 (pc:=pc) (w:=wL (dt H) k) (fX ((p.filter fY).map bY)) (by omega) ((mE _).nodup_iff.2 U) (fun n h=>T4 M N (hin n h)) (fun n h=>A.aQ n) (fun n h=>by
   rw[W n h];refine⟨?_,T5 hoS N⟩;have:=T6 (dt H) k n;omega)) (by simp) ?_
  rintro c g ⟨rfl,rfl⟩
  (dsimp +instances only[Aa,Ab,Ac,Ad,Ae,Af,Ag])
  have efin:(fX ((p.filter fY).map bY)).map (sR (wL (dt H) k))=oY H k:=by
   unfold oY;rw[hnums];refine pg fun n h=>?_;unfold sR vI;rw[W n h];have:eI (jh (dt H) k n)=eI (jh H k n):=TR fun s=>by
    unfold jh;rw[bV,bV];have:((dt H).filter fun r=>cN r==n).map nI |>.Perm ((H.filter fun r=>cN r==n).map nI):=(I.filter _).map nI
    rw[this.mem_iff]
   rw[this]
  rw[efin];exact aa.pos (by simp) (aa.some rfl)
 rw[R];refine gU ⟨_,rfl,0,rfl,rfl⟩ rfl fun _=>?_
 (dsimp +instances only[Aa,Ab,Ac,Ad,Ae,Af,Ag])
 exact aa.pos (by simp) (aa.some rfl)
end
def Uf(r:List G):Prop:=∃ a b:ByteArray,r=[.s a,.s b]
theorem DB(a:List (List G))(d:∀ z∈a,Uf z)(hn:a.length<100000):vm [.l a,.l a]=some [.t true]:=by
 have h:=Zq (K:=[.str,.str]) (Q:=Uf) ⟨fun r h=>by obtain⟨s,b,rfl⟩:=h; rfl⟩ a a d d hn;rw[Oq rfl]at h;exact h
def qI:List Int→List Int
 | []=>[]
 |x::l=>if x∈l then qI l else x::qI l
theorem DC(n:Int):∀ l:List Int,n∈qI l↔n∈l
 | []=>Iff.rfl
 | x::l=>by
  unfold qI;by_cases h:x∈l
  ·rw [if_pos h, DC n l, bC]
   exact⟨.inr,fun e=>e.elim (fun e=>e▸h) id⟩
  ·rw[if_neg h,bC,bC,DC n l]
theorem DD:∀ l:List Int,(qI l).Nodup
 | []=>List.nodup_nil
 | x::l=>by
  unfold qI;by_cases h:x∈l
  ·rw [if_pos h]
   exact DD l
  ·rw [if_neg h]
   exact kg.2 ⟨fun hm=>h ((DC x l).1 hm),DD l⟩
theorem ai8(H d:List (List G)):(za H d).length≤H.length+d.length:=by
 have g:∀ n,1<eX H d n→n∈eO (d.map aD)++H.map cN:=fun n this=>by
  unfold eX at this;rw[bV];by_cases h1:0<(eO (d.map aD)).count n
  ·exact .inl (qS.1 h1)
  ·exact .inr (qS.1 (by omega))
 have k:sP H d (fX ((qI (eO (d.map aD)++H.map cN)).filter fun n=>decide (1<eX H d n))):=⟨y_ ((DD _).filter _),fun n=>by
  rw[(mE _).mem_iff,gk,decide_eq_true_eq,DC];exact⟨fun h=>h.2,fun h=>⟨g n h,h⟩⟩⟩
 rw[k.eq];have q:(fX ((qI (eO (d.map aD)++H.map cN)).filter fun n=>decide (1<eX H d n))).Nodup:=(mE _).nodup_iff.2 ((DD _).filter _);have:=q.length_le_of_subset (l₂:=eO (d.map aD)++H.map cN) fun n hn=>g n ((k.2 n).1 hn);have A:=J6 (d.map aD);rw[eY,bu]at this;rw[bu]at A;omega
theorem ai9(l:List (List G)):Jz [.l l]=some [.t true]:=by
 refine aa.toEq ?_;unfold Jz
 (dsimp +instances only[Aa,Ab,Ac,Ad,Ae,Af,Ag])
 refine aa.call (yQ l 0 0 18 (by omega) (by omega) (by omega) (by omega) (by omega)) ?_;rintro _ ⟨n,rfl,B,O⟩
 (dsimp +instances only[Aa,Ab,Ac,Ad,Ae,Af,Ag])
 refine aa.call (ahw l (0+1) n (by omega) (by omega) B (by omega)) ?_;rintro _ ⟨p1,rows,rfl,q1,q2,hr,R⟩
 (dsimp +instances only[Aa,Ab,Ac,Ad,Ae,Af,Ag])
 refine aa.call (ah1 l p1 (by omega) (by omega)) ?_;rintro _ ⟨t,rfl,U,W⟩
 (dsimp +instances only[Aa,Ab,Ac,Ad,Ae,Af,Ag])
 have d:rows.length≤20:=by omega
 have F:∀ z∈ct rows t,aV z:=fun z q=>hr z (nH q);have Y:=qC rows t;have hbl:=oV F;have hsl:(dt (bg (ct rows t))).length=(bg (ct rows t)).length:=oG _ _;refine aa.cE (aiO rows t hr d) ?_;refine aa.cE (aiP rows t hr d) ?_;refine aa.cE (aiY rows t hr d) ?_;obtain⟨f1,f2⟩:=ahN rows hr d;refine aa.cE f1 ?_;refine aa.cE (ah2 t) ?_
 (dsimp +instances only[Aa,Ab,Ac,Ad,Ae,Af,Ag])
 refine aa.cE (ah3 _ _) ?_
 (dsimp +instances only[Aa,Ab,Ac,Ad,Ae,Af,Ag])
 have J:(bif j6 rows != 0 then j6 rows else bif cq t 0 345686399999 then 0 else 1)=je rows t:=rfl;rw[J];have fin:aa (ar (uQ []) fun g15=>some [G.t (gi g15 0).bool]) fun o=>o=[.t true]:=by
  refine aa.cE (rfl:uQ []=some [.t true]) ?_;exact aa.some rfl
 cases g:je rows t != 0 with
 | true =>
  have k:je rows t≠0:=by simpa using g
  refine aa.neg (by simpa using k) ?_;simp only[cond_true]
  (dsimp +instances only[Aa,Ab,Ac,Ad,Ae,Af,Ag])
  refine aa.pos (by simp) (aa.pos rfl (aa.pos (by simp) (aa.call (aa.eq (DB [] (by simp) (by simp))) ?_)));rintro _ rfl;refine aa.pos rfl (aa.pos (by simp) (aa.call (aa.eq (DB [] (by simp) (by simp))) ?_));rintro _ rfl;exact aa.pos rfl fin
 | false =>
  have k:je rows t=0:=by simpa using g
  have aL:j0 rows:=by
   unfold je at g;cases A:j6 rows != 0 with
   |true=>rw[A]at g; simp only[cond_true]at g; rw[A]at g; cases g
   | false =>
    have:j6 rows=0:=by simpa using A
    rw[this]at f2;exact f2.zero
  refine aa.pos (by rw[k]; rfl) ?_;simp only[cond_false];refine aa.cE (aiN rows t hr d aL) ?_;refine aa.cE (aiQ rows t hr d aL) ?_;refine aa.cE (ai7 rows t hr d aL) ?_
  (dsimp +instances only[Aa,Ab,Ac,Ad,Ae,Af,Ag])
  have M:∀ o:Option Int,((gi (sO o) 1).int==(gi (sO o) 1).int)=true:=fun o=>by simp
  have N:∀ o:Option Int,((gi (sO o) 0).int==(gi (sO o) 0).int)=true:=fun o=>by simp
  refine aa.pos (M _) (aa.pos (N _) (aa.pos (by rw[k]; rfl) (aa.call (aa.eq (DB _ (fun z q=>by
   obtain⟨r,_,rfl⟩:=bR.1 q;exact⟨_,_,rfl⟩) (by rw[bu]; omega))) ?_)))
  rintro _ rfl;have I:(oY (bg (ct rows t)) (eV rows t)).length<100000:=by
   have q3:=ai8 (bg (ct rows t)) (eV rows t);have q4:=yZ rows t;unfold oY;rw[bu];omega
  refine aa.pos rfl (aa.pos (by rw[k]; rfl) (aa.call (aa.eq (DB _ (fun z q=>by
   obtain⟨r,_,rfl⟩:=bR.1 q;exact⟨_,_,rfl⟩) I)) ?_))
  rintro _ rfl;exact aa.pos rfl fin
end
end Go.Proofs.gT
