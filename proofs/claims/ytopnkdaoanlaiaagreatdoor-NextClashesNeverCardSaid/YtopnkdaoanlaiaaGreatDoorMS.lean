/-
 What is proved here: two lists of deeds as one,on both sides. No condition.
-/
import Derived.Test.YtopnkdaoanlaiaaGreatDoorMF
set_option linter.all false
open Bool renaming and_true→dZ,and_eq_true→aw,true_and→iY,not_eq_true'→jD,or_eq_true→lW,false_or→jF,eq_iff_iff→j7,false_and→I1,or_false→yk,not_eq_true→Tx
open Classical renaming byContradiction→uR
open Go.Lib renaming decDigits→oy
open Int renaming toNat_natCast→aR,add_zero→aiW,zero_add→Tu
open List renaming length_cons→di,length_map→bF,mem_map→bR,getElem?_map→cq,all_eq_true→dX,getElem?_eq_getElem→bE,getD_eq_getElem?_getD→cH,mem_cons→bI,map_cons→dA,cons_append→ob,foldl_cons→iJ,length_take→iX,length_append→fD,mem_append→bV,map_map→iK,mem_cons_self→cZ,mem_cons_of_mem→cU,map_append→j6,mem_append_left→uP,map_congr_left→om,any_eq_true→jE,nodup_cons→jG,mem_singleton→gA,length_nil→kY,map_nil→sa,length→uS,getElem_of_mem→yj,not_mem_nil→iL,mem_filter→ga,filter_cons→Cx,pairwise_map→p_,pairwise_iff_getElem→Tp,mem_map_of_mem→CA,nodup_iff_pairwise_ne→qd,pairwise_cons→l5,any_cons→yu,any_nil→I8,nodup_append→yv,find?_eq_none→I9,find?_append→aiU,any_eq_false→I_,foldl_append→qe,take_length→oz,any_append→I',perm_ext_iff_of_nodup→Ts,count_cons→aiX,contains_cons→Tt,length_filter_le→yw,count_le_length→Ja,filter_append→Tv,filter_nil→Tw,count_eq_zero→CD,contains_iff_mem→kZ,intercalate→Ty,count_pos_iff→oA,append_inj'→Jc
open List.Pairwise renaming imp→aiS
open List.Sublist renaming refl→ajx
open List.cons renaming inj→Tz
open Nat renaming le_refl→aI,le_trans→mS,zero_add→dO,beq→ab,ble→cR,blt_eq→gB,lt_succ_of_lt→lZ,lt_succ_self→Cv,beq_refl→Cz,ble_eq_true_of_le→CC
open Option renaming getD_some→kW,or_none→aiV
open Prod.mk renaming injEq→aZ
open UInt8 renaming ofNat→Jb,toNat_ofNat'→aiY
namespace Go.Proofs.gq
open Go Go.AL Go.Proofs
noncomputable section
theorem Ia(r s:List G):fm r s=fA (eS (gi r 2).int (gi s 2).int) (fA (dM (gi r 0).str (gi s 0).str) (eS (gi r 1).int (gi s 1).int)):=by
 unfold fm fA;by_cases h:(gi r 2).int=(gi s 2).int
 ·have e : eS (gi r 2).int (gi s 2).int = 0 := by rw [h]; simp [eS]
  simp[h,e,eS]
 ·have := (RT (a := (gi r 2).int) (b := (gi s 2).int)).2 h
  simp[h,this]
theorem agu(r s:List G):fm s r = - fm r s:=by
 rw[Ia,Ia];exact uj (jx.flip _ _) (uj (gr.flip _ _) (jx.flip _ _))
theorem uo{a b:List G}:dG a b=true↔(gi a 0).str=(gi b 0).str∧(gi a 1).int=(gi b 1).int:=by
 unfold dG;rw[aw,beq_iff_eq,beq_iff_eq];constructor
 ·rintro ⟨h1, d⟩
  have:=pN (gi a 0).str (gi b 0).str;rw[h1,beq_self_eq_true]at this;exact⟨gr.eq _ _ (by simpa using this.symm),d⟩
 ·rintro ⟨h1, d⟩
  rw[h1];exact⟨rfl,d⟩
theorem agv{a b:List G}(h:fm a b=0):dG a b=true:=by
 rw[Ia]at h;unfold fA at h;split at h
 ·rename_i h1; exact(h1 h).elim
 ·split at h
  ·rename_i h1; exact(h1 h).elim
  ·rename_i d
   exact uo.2 ⟨gr.eq _ _ (by simpa using d),jx.eq _ _ h⟩
def nT(l:List (List G)):Prop:=l.Pairwise fun a b=>dG a b=false
theorem jV.apart{rows:List (List G)}(h:jV rows rows.length):nT rows:=by
 unfold nT;rw[Tp];intro i j hi d g;have:=h j d i g;rw[cH,cH,bE hi,bE d]at this;exact this
theorem nT.inj{l:List (List G)}(h:nT l):∀ a∈l,∀ b∈l,dG a b=true→a=b:=by
 intro a g b k e;refine Fo (f:=fun r:List G=>((gi r 0).str,(gi r 1).int)) (aiS ?_ h) a g b k ?_
 ·intro x y d he
  rw[(uo (a:=x) (b:=y)).2 ⟨congrArg Prod.fst he,congrArg Prod.snd he⟩]at d;cases d
 ·obtain ⟨h1, q⟩ := uo.1 e
  exact Prod.ext h1 q
theorem nT.zero{l:List (List G)}(h:nT l):∀ a∈l,∀ b∈l,bN fm a b=false→bN fm b a=false→a=b:=by
 intro a g b k h1 d;unfold bN at h1 d;rw[dT,decide_eq_false_iff_not]at h1 d;have:=agu a b;exact h.inj a g b k (agv (by omega))
theorem nT.sort{l:List (List G)}(h:nT l):nT (eI (bN fm) l):=(mI (lt:=bN fm) l).symm.pairwise h (fun e=>by rw[H8]; exact e)
theorem agw{out:List (List G)}{x:List G}(h:(out.find? fun o=>dG o x)=none):∀ o∈out,dG o x=false:=fun o d=>by
 have:=I9.1 h o d;simpa using this
def zD:List G:=[.s (⟨#[]⟩:ByteArray),.i 0,.i 0,.i 0,.i 0,.i 0,.s (⟨#[]⟩:ByteArray),.s (⟨#[]⟩:ByteArray),.i 0,.i 0,.s (⟨#[]⟩:ByteArray),.s (⟨#[]⟩:ByteArray),.s (⟨#[]⟩:ByteArray),.s (⟨#[]⟩:ByteArray),.i 0]
def xM(m out:List (List G)):Prop:=∀ r,bq r→bg bO m (bh bO r)=(out.find? fun o=>dG o r).isSome∧∀ o,(out.find? fun o=>dG o r)=some o→ch bO m (bh bO r) zD=o
theorem xM.nil:xM [] []:=fun r _=>⟨rfl,fun o h=>by cases h⟩
theorem xM.put{m out:List (List G)}{x:List G}(h:xM m out)(g:bq x)(hn:(out.find? fun o=>dG o x)=none)(c:Nat):xM (cu bO m (bh bO x) (bh aq x) c) (out++[x]):=fun r hr=>by
 obtain⟨h1,I⟩:=h r hr;rw[pG,nI,RU hr g,H8 r x,aiU];cases d:dG x r with
 | true =>
  have B:(out.find? fun o=>dG o r)=none:=I9.2 fun o J F=>by
   have k:=uo.1 d;have q:=uo.1 F;have A:=agw hn o J;rw[uo.2 ⟨q.1.trans k.1.symm,q.2.trans k.2.symm⟩]at A;cases A
  rw[B];simp[d,g.eta]
 | false =>
  simp only[jF,cond_false];have e:([x].find? fun o=>dG o r)=none:=by simp[d]
  rw[e,aiV];exact⟨h1,I⟩
theorem agx(r:List G):aF aq r r=true:=MR aq r rfl
def gO(rows:List (List G))(t:Int):Int:=bif kP rows != 0 then kP rows else bif cz t 0 345686399999 then 0 else 1
theorem Cb(rows:List (List G))(t:Int)(hr:∀ z∈rows,bq z)(hn:rows.length≤20):rr [.l rows,.i t]=some [.i (gO rows t)]:=by
 refine aa.toEq ?_;unfold rr gO
 (dsimp +instances only[Aa,Ab,Ac,Ad,Ae,Af,Ag])
 refine aa.cE (agr rows hr hn).1 ?_
 (dsimp +instances only[Aa,Ab,Ac,Ad,Ae,Af,Ag])
 cases kP rows != 0 with
 |true=>exact aa.pos rfl (aa.some rfl)
 | false =>
  refine aa.neg rfl ?_;refine aa.cE (RS t) ?_
  (dsimp +instances only[Aa,Ab,Ac,Ad,Ae,Af,Ag])
  cases cz t 0 345686399999<;>exact⟨_,rfl,rfl⟩
def aA(r:List G):List G:=[.i (gi r 4).int,.i (gi r 5).int,.s (gi r 6).str,.s (gi r 7).str,.i (gi r 8).int,.i (gi r 9).int,.s (gi r 10).str,.s (gi r 11).str]
theorem bq.rO{r:List G}(h:bq r):iS (aA r):=by
 obtain⟨_,_,_,_,t,m,b,c,s,h,x,y,_,_,_,rfl,_,_,_,_,⟨p1,d,g,k,q,A,B,F⟩,_⟩:=h;exact⟨t,m,b,c,s,h,x,y,rfl,p1,d,q,A,g,k,B,F⟩
def jW(r s:List G):Int:=eJ (aA r) (aA s)
theorem Cc(r s:List G):eJ r s=fA (eS (gi r 0).int (gi s 0).int) (fA (dM (gi r 3).str (gi s 3).str) (fA (dM (gi r 2).str (gi s 2).str) (eS (gi r 1).int (gi s 1).int))):=rfl
theorem Ib(r s:List G):eJ s r = - eJ r s:=by
 rw[Cc,Cc];exact uj (jx.flip _ _) (uj (gr.flip _ _) (uj (gr.flip _ _) (jx.flip _ _)))
theorem agy(a b d:List G)(h1:eJ a b≤0)(g:eJ b d≤0):eJ a d≤0:=by
 rw[Cc]at *;exact B6 jx _ _ _ _ _ _ h1 g fun g1 g2=>B6 gr _ _ _ _ _ _ g1 g2 fun k q=>B6 gr _ _ _ _ _ _ k q fun m1 m2=>jx.le _ _ _ m1 m2
theorem agz:fi (bN eJ) (fun _=>True):=RG (fun a b=>Ib a b) agy
theorem rP{r s:List G}:eJ r s=0↔(gi r 0).int=(gi s 0).int∧(gi r 3).str=(gi s 3).str∧(gi r 2).str=(gi s 2).str∧(gi r 1).int=(gi s 1).int:=by
 have z2:∀ a b:Int,fA a b=0↔a=0∧b=0:=fun a b=>by
  unfold fA;by_cases h:a=0<;>simp[h]
 rw[Cc,z2,z2,z2];constructor
 ·rintro ⟨h1, d, g, k⟩
  exact⟨jx.eq _ _ h1,gr.eq _ _ d,gr.eq _ _ g,jx.eq _ _ k⟩
 ·rintro ⟨h1, d, g, k⟩
  rw[h1,d,g,k];exact⟨jx.refl _,gr.refl _,gr.refl _,jx.refl _⟩
theorem RX{α β:Type}(f:α→β){lt:α→α→Bool}{d:β→β→Bool}(h:∀ a b,d (f a) (f b)=lt a b)(x:α):∀ p:List α,fl d (f x) (p.map f)=(fl lt x p).map f
 | []=>rfl
 | y::p=>by
  simp only[fl,dA,h];cases lt x y with
  |true=>simp only[cond_true,dA,RX f h x p]
  |false=>rfl
theorem RY{α β:Type}(f:α→β){lt:α→α→Bool}{d:β→β→Bool}(h:∀ a b,d (f a) (f b)=lt a b):∀ r p:List α,hG d (p.map f) (r.map f)=(hG lt p r).map f
 | [],p=>rfl
 | x::r,p=>by
  simp only[hG,dA,RX f h];exact RY f h r (fl lt x p)
theorem agA{α β:Type}(f:α→β){lt:α→α→Bool}{d:β→β→Bool}(h:∀ a b,d (f a) (f b)=lt a b)(l:List α):eI d (l.map f)=(eI lt l).map f:=by
 unfold eI;have:=RY f h l [];rw[sa]at this;rw[this,List.map_reverse]
def uq(rows n:List (List G)):Prop:=∀ z∈n,∃ j:Nat,z=[.i (j:Int)]∧j<rows.length
theorem ur(t:Int)(rows:List (List G)):uq rows (cA t 0 rows):=fun z d=>by
 obtain⟨j,e,_,h⟩:=H_ d;exact⟨j,e,by omega⟩
def gu(rows:List (List G))(z:List G):List G:=rows.getD (gi z 0).int.toNat []
def uu(lg:List (List G))(d:List G):Bool:=lg.any fun o=>jW o d==0
def lS(rows:List (List G))(s:List (List G) × List (List G))(z:List G):List (List G) × List (List G) :=
 bif (gi (gu rows z) 3).int != 1 then s else bif uu s.1 (gu rows z) then (s.1,s.2++[z]) else (s.1++[gu rows z],s.2)
def gP(rows n:List (List G)):List (List G) × List (List G):=n.foldl (lS rows) ([],[])
structure iF (rows:List (List G)) (k:Nat) (s:List (List G) × List (List G)):Prop where
 mem:∀ d∈s.1,d∈rows∧(gi d 3).int=1
 idx:uq rows s.2
 apart:s.1.Pairwise fun a b=>jW a b≠0
 Cd:s.1.length≤k
 RZ:s.2.length≤k
theorem iF.nil(rows:List (List G)):iF rows 0 ([],[]):=⟨by simp,fun z d=>by simp at d,by simp,by simp,by simp⟩
theorem iF.step{rows:List (List G)}{k:Nat}{s:List (List G) × List (List G)}(h:iF rows k s){z:List G}(g:∃ j:Nat,z=[.i (j:Int)]∧j<rows.length):iF rows (k+1) (lS rows s z):=by
 obtain⟨j,rfl,A⟩:=g;have B:gu rows [.i (j:Int)]∈rows:=nG A;unfold lS;generalize gu rows [.i (j:Int)]=d at B;have h1:=h.Cd;have N:=h.RZ;cases J:(gi d 3).int != 1 with
 |true=>exact⟨h.mem,h.idx,h.apart,by simp only[cond_true]; omega,by simp only[cond_true]; omega⟩
 | false =>
  cases F:uu s.1 d with
  | true =>
   refine⟨h.mem,fun z g=>?_,h.apart,by simp only[cond_true,cond_false]; omega,by simp only[cond_true,cond_false]; simp; omega⟩;simp only[cond_true,cond_false,bV,gA]at g;rcases g with g|rfl
   ·exact h.idx z g
   ·exact⟨j,rfl,A⟩
  | false =>
   refine⟨fun o q=>?_,h.idx,?_,by simp only[cond_false]; simp; omega,by simp only[cond_false]; omega⟩
   ·simp only [cond_false, bV, gA] at q
    rcases q with q|rfl
    ·exact h.mem o q
    ·exact⟨B,by simpa using J⟩
   ·simp only [cond_false]
    rw[List.pairwise_append];refine⟨h.apart,by simp,fun a M b I=>?_⟩;simp only[gA]at I;subst I;unfold uu at F;have:=I_.1 F a M;simpa using this
theorem Ic{rows n:List (List G)}(hn:uq rows n):∀ i,i≤n.length→iF rows i (gP rows (n.take i))
 |0,_=>by rw[List.take_zero]; exact iF.nil rows
 | i+1,hi=>by
  have d:i<n.length:=hi;have g:=Ic hn i (by omega);have e:n.take (i+1)=n.take i++[n.getD i []]:=MI d;rw[e];unfold gP at g⊢;rw[qe];exact g.step (hn _ (nG d))
theorem Ie{rows n:List (List G)}(hn:uq rows n):iF rows n.length (gP rows n):=by
 have:=Ic hn n.length (aI _)
 rwa [oz]at this
theorem iF.R2{rows:List (List G)}{k:Nat}{s:List (List G) × List (List G)}(h:iF rows k s)(hr:∀ z∈rows,bq z):∀ d∈s.1,bq d:=fun d g=>hr d (h.mem d g).1
theorem iF.zero{rows:List (List G)}{k:Nat}{s:List (List G) × List (List G)}(h:iF rows k s):∀ a∈s.1,∀ b∈s.1,bN jW a b=false→bN jW b a=false→a=b:=by
 intro a q b A h1 d;unfold bN at h1 d;rw[dT,decide_eq_false_iff_not]at h1 d;have B:jW a b=0:=by
  have:=Ib (aA a) (aA b);unfold jW at *;omega
 refine Fo (f:=fun r:List G=>((gi r 4).int,(gi r 7).str,(gi r 6).str,(gi r 5).int)) (aiS ?_ h.apart) a q b A ?_
 ·intro x y g he
  refine g (rP.2 ?_);simp only[aZ]at he;exact he
 ·have := rP.1 B
  simp only[aZ];exact this
def If(lg:List (List G)):List (List G):=eI (bN jW) lg
theorem R3(lg:List (List G)):(If lg).length=lg.length:=rf _ _
def cK(rows:List (List G))(t:Int):List (List G):=(cA t 0 rows).map (gu rows)
section
variable (rows:List (List G)) (t:Int) (hr:∀ z∈rows,bq z) (hn:rows.length≤20) (aL:gN rows)
include hr hn aL
end
def fX(c:List G):List G:=[.i (gi c 0).int,.i (gi c 1).int,.s (gi c 2).str,.s (gi c 3).str,.i 0,.i 0,.s (⟨#[]⟩:ByteArray),.s (⟨#[]⟩:ByteArray)]
theorem Ig{c:List G}:Bv [.l [c]]=some [.l [fX c]]:=rfl
theorem agB(c o:List G):aF [.int .i64,.int .i64,.str,.str,.int .i64,.int .i64,.str,.str] (fX c) (fX o)=(eJ o c==0):=by
 have e:aF [.int .i64,.int .i64,.str,.str,.int .i64,.int .i64,.str,.str] (fX c) (fX o)=(((gi c 0).int==(gi o 0).int)&&(((gi c 1).int==(gi o 1).int)&&(((gi c 2).str.toList==(gi o 2).str.toList)&&(((gi c 3).str.toList==(gi o 3).str.toList)&&true)))):=by
  simp only[aF,fX,lu];simp[dZ,G.str,G.int]
 have cs:∀ a b:ByteArray,(a.toList==b.toList)=decide (a=b):=fun a b=>by
  rw[pN];by_cases h:a=b
  ·rw[h]; simp[gr.refl b]
  ·have k : ¬ dM a b = 0 := fun e => h (gr.eq _ _ e)
   simp[h,k]
 rw[e,cs,cs];have z:=rP (r:=o) (s:=c);cases h:eJ o c==0 with
 | true =>
  obtain⟨h1,k,A,B⟩:=z.1 (by simpa using h);rw[h1,k,A,B];simp
 | false =>
  have g:¬ eJ o c=0:=by simpa using h
  have g:=fun q=>g (z.2 q);rw[Bool.eq_false_iff];intro d;simp only[aw,beq_iff_eq,decide_eq_true_eq,and_true]at d;exact g ⟨d.1.symm,d.2.2.2.symm,d.2.2.1.symm,d.2.1.symm⟩
def kQ(m lg:List (List G)):Prop:=∀ c,bg [.int .i64,.int .i64,.str,.str,.int .i64,.int .i64,.str,.str] m (fX c)=(lg.any fun o=>eJ (aA o) c==0)∧∀ o,(lg.find? fun o=>eJ (aA o) c==0)=some o→ch [.int .i64,.int .i64,.str,.str,.int .i64,.int .i64,.str,.str] m (fX c) zD=o
theorem kQ.nil:kQ [] []:=fun c=>⟨rfl,fun o h=>by cases h⟩
theorem kQ.put{m lg:List (List G)}{x:List G}(h:kQ m lg)(hn:uu lg x=false)(c:Nat):kQ (cu [.int .i64,.int .i64,.str,.str,.int .i64,.int .i64,.str,.str] m (fX (aA x)) x c) (lg++[x]):=fun k=>by
 obtain⟨h1,A⟩:=h k;rw[pG,nI,agB,I',aiU];cases d:eJ (aA x) k==0 with
 | true =>
  have B:(lg.find? fun o=>eJ (aA o) k==0)=none:=I9.2 fun o F hk=>by
   have I:=I_.1 hn o F;have g:=rP.1 (show eJ (aA x) k=0 by simpa using d);have q:=rP.1 (show eJ (aA o) k=0 by simpa using hk);refine I ?_;have:eJ (aA o) (aA x)=0:=rP.2 ⟨q.1.trans g.1.symm,q.2.1.trans g.2.1.symm,q.2.2.1.trans g.2.2.1.symm,q.2.2.2.trans g.2.2.2.symm⟩;unfold jW;rw[this];rfl
  rw[B];simp[d]
 | false =>
  simp only[jF,cond_false];have e:([x].find? fun o=>eJ (aA o) k==0)=none:=by simp[d]
  rw[e,aiV,h1];exact⟨by simp[d],A⟩
def iW(s:List (List G) × Nat)(d:List G):List (List G) × Nat :=
 bif (gi d 3).int==3 then (cu bO s.1 [.s (gi d 0).str,.i (gi d 8).int] [.t true] s.2,dF bO s.1 [.s (gi d 0).str,.i (gi d 8).int] s.2)
 else bif (gi d 3).int==4||(gi d 3).int==1 then (jg bO s.1 [.s (gi d 0).str,.i (gi d 8).int],s.2) else s
def be(l:List (List G)):List (List G) × Nat:=l.foldl iW ([],0)
section
variable {dd cs ss ot held bK rows n:List (List G)} {ck hZ:Nat} {len i j:Int} {si b c x y bd aV:ByteArray} {no at_ kd t m s h pQ:Int}
theorem uv(h1:az (i+1)=true):tW [.l dd,.l cs,.l ss,.l ot,.l held,.i (ck:Int),.l bK,.i (hZ:Int),.l rows,.l n,.i len,.i i] =
  some (some 0,[.l dd,.l cs,.l ss,.l ot,.l held,.i (ck:Int),.l bK,.i (hZ:Int),.l rows,.l n,.i len,.i (i+1)]):=by
 refine aa.toEq ?_;unfold tW
 (dsimp +instances only[Aa,Ab,Ac,Ad,Ae,Af,Ag])
 simp only[aR];exact aa.pos h1 (aa.pos (by simp) (aa.some rfl))
theorem R4(f:Bool):xi [.l dd,.l cs,.l ss,.l ot,.l held,.i (ck:Int),.l bK,.i (hZ:Int),.s si,.i no,.i at_,.i kd,.i t,.i m,.s b,.s c,.i s,.i h,.s x,.s y,.s bd,.s aV,.i pQ,.l rows,.i j,.l n,.i len,.i i,.t f] =
  some (some 0,[.l dd,.l cs,.l ss,.l ot,.l (bif f then jg bO held [.s si,.i s] else held),.i (ck:Int),.l bK,.i (hZ:Int),.s si,.i no,.i at_,.i kd,.i t,.i m,.s b,.s c,.i s,.i h,.s x,.s y,.s bd,.s aV,.i pQ,.l rows,.i j,.l n,.i len,.i i]):=by
 refine aa.toEq ?_;unfold xi
 (dsimp +instances only[Aa,Ab,Ac,Ad,Ae,Af,Ag])
 simp only[aR];cases f with
 |true=>exact aa.pos rfl (aa.pos (by simp) (aa.some rfl))
 |false=>exact aa.neg rfl (aa.pos (by simp) (aa.some rfl))
def xN(kd j:Int)(rO row:List G)(s:List (List G) × List (List G) × List (List G) × Nat):List (List G) × List (List G) × List (List G) × Nat :=
 bif kd != 1 then s else bif bg [.int .i64,.int .i64,.str,.str,.int .i64,.int .i64,.str,.str] s.2.2.1 (fX rO) then (s.1,s.2.1++[[.i j]],s.2.2.1,s.2.2.2)
 else (s.1++[rO],s.2.1,cu [.int .i64,.int .i64,.str,.str,.int .i64,.int .i64,.str,.str] s.2.2.1 (fX rO) row s.2.2.2,dF [.int .i64,.int .i64,.str,.str,.int .i64,.int .i64,.str,.str] s.2.2.1 (fX rO) s.2.2.2)
theorem Ih(S:List (List G) × List (List G) × List (List G) × Nat)(g:xN kd j [.i t,.i m,.s b,.s c,.i s,.i h,.s x,.s y] [.s si,.i no,.i at_,.i kd,.i t,.i m,.s b,.s c,.i s,.i h,.s x,.s y,.s bd,.s aV,.i pQ] (cs,ot,bK,hZ)=S)(q:cs.length≤1000)(A:ot.length≤1000) :
  aa (tV [.l dd,.l cs,.l ss,.l ot,.l held,.i (ck:Int),.l bK,.i (hZ:Int),.s si,.i no,.i at_,.i kd,.i t,.i m,.s b,.s c,.i s,.i h,.s x,.s y,.s bd,.s aV,.i pQ,.l rows,.i j,.l n,.i len,.i i]) fun o=>∃ k,o.1=some k ∧
   o.2=[.l dd,.l S.1,.l ss,.l S.2.1,.l held,.i (ck:Int),.l S.2.2.1,.i (S.2.2.2:Int),.l rows,.l n,.i len,.i i]:=by
 subst g;unfold tV xN
 (dsimp +instances only[Aa,Ab,Ac,Ad,Ae,Af,Ag])
 simp only[aR];cases B:kd != 1 with
 |true=>exact aa.pos rfl (aa.pos (by simp) (aa.some ⟨0,rfl,rfl⟩))
 | false =>
  refine aa.neg rfl (aa.call (aa.eq (Ig (c:=[.i t,.i m,.s b,.s c,.i s,.i h,.s x,.s y]))) ?_);rintro _ rfl
  (dsimp +instances only[Aa,Ab,Ac,Ad,Ae,Af,Ag])
  have d:bh [.int .i64,.int .i64,.str,.str,.int .i64,.int .i64,.str,.str] (fX [.i t,.i m,.s b,.s c,.i s,.i h,.s x,.s y])=fX [.i t,.i m,.s b,.s c,.i s,.i h,.s x,.s y]:=rfl;rw[d];cases F:bg [.int .i64,.int .i64,.str,.str,.int .i64,.int .i64,.str,.str] bK (fX [.i t,.i m,.s b,.s c,.i s,.i h,.s x,.s y])with
  |true=>exact aa.pos rfl (aa.pos (by simp only[sl]; simp; omega) (aa.pos (by simp) (aa.some ⟨0,rfl,rfl⟩)))
  | false =>
   refine aa.neg rfl (aa.call (aa.eq (Ig (c:=[.i t,.i m,.s b,.s c,.i s,.i h,.s x,.s y]))) ?_);rintro _ rfl
   (dsimp +instances only[Aa,Ab,Ac,Ad,Ae,Af,Ag])
   rw[d];exact aa.pos (by simp only[sl]; simp; omega) (aa.pos (by simp) (aa.some ⟨1,rfl,rfl⟩))
end
theorem jX{β:Type}{Q:β→Prop}{c:Bool}{t:Option (Option Nat × List G)}{k:Nat→List G→Option β}{R:List G}(h:aa t fun o=>∃ x,o.1=some x∧o.2=R)(hc:c=true)(hk:∀ x,aa (k x R) Q):aa (aY c (cY t) k) Q :=
 aa.tail (P:=fun _ g=>g=R) h hc fun x g d=>by rw[d]; exact hk x
def pR(rows:List (List G))(s:List (List G) × List (List G) × List (List G) × Nat)(z:List G):List (List G) × List (List G) × List (List G) × Nat :=
 xN (gi (gu rows z) 3).int (gi z 0).int (aA (gu rows z)) (gu rows z) s
theorem agC(rows n dd:List (List G))(s:List (List G) × List (List G) × List (List G) × Nat)(q:List (List G) × Nat)(i j:Nat)(hr:∀ z∈rows,bq z)(N:n.length≤1000)(hi:i<n.length)(I:n.getD i []=[.i (j:Int)])(J:j<rows.length)
  (h1:s.1.length≤900) (A:s.2.1.length≤900) (M:dd.length≤900) :
  aa (tX [.l dd,.l s.1,.l [],.l s.2.1,.l q.1,.i (q.2:Int),.l s.2.2.1,.i (s.2.2.2:Int),.l rows,.l n,.i (n.length:Int),.i (i:Int)]) fun o =>
   o=(none,[.l (dd++[rows.getD j []]),.l (pR rows s [.i (j:Int)]).1,.l [],.l (pR rows s [.i (j:Int)]).2.1,.l (iW q (rows.getD j [])).1,.i ((iW q (rows.getD j [])).2:Int),.l (pR rows s [.i (j:Int)]).2.2.1,.i ((pR rows s [.i (j:Int)]).2.2.2:Int),.l rows,.l n,.i (n.length:Int),.i ((i:Int)+1)]):=by
 obtain⟨cs,ot,bK,hZ⟩:=s;obtain⟨held,ck⟩:=q;have F:=hr _ (nG J);unfold pR;rw[show gu rows [.i (j:Int)]=rows.getD j [] from rfl];unfold tX
 (dsimp +instances only[Aa,Ab,Ac,Ad,Ae,Af,Ag])
 simp only[aR,I]
 (dsimp +instances only[Aa,Ab,Ac,Ad,Ae,Af,Ag])
 simp only[aR];generalize rows.getD j []=d at F;obtain⟨si,no,at_,kd,t,m,b,c,s,h,x,y,bd,aV,pQ,rfl,O⟩:=F;rw[show bh aq (jy si no at_ kd t m b c s h x y bd aV pQ)=jy si no at_ kd t m b c s h x y bd aV pQ from rfl];unfold iW;simp only[jy,aA]
 (dsimp +instances only[Aa,Ab,Ac,Ad,Ae,Af,Ag])
 have g:az ((i:Int)+1)=true:=by(first|rfl|assumption|(simp only[az,sl]<;>omega))
 have h1:cs.length≤1000:=by simp only at h1; omega
 have A:ot.length≤1000:=by simp only at A; omega
 generalize B:xN kd (j:Int) [.i t,.i m,.s b,.s c,.i s,.i h,.s x,.s y] [.s si,.i no,.i at_,.i kd,.i t,.i m,.s b,.s c,.i s,.i h,.s x,.s y,.s bd,.s aV,.i pQ] (cs,ot,bK,hZ)=S;refine aa.p (aa.p (aa.p (aa.pos (by simp only[sl]; simp; omega) ?_)));cases M:kd==3 with
 | true =>
  refine aa.pos rfl (jX (Ih S B h1 A) (by simp) fun k=>?_)
  (dsimp +instances only[Aa,Ab,Ac,Ad,Ae,Af,Ag])
  simp only[aR];cases ab k 0 with
  | true =>
   refine aa.pos rfl (jX ⟨_,uv g,0,rfl,rfl⟩ (by simp) fun _=>?_)
   (dsimp +instances only[Aa,Ab,Ac,Ad,Ae,Af,Ag])
   simp only[aR];exact aa.pos (by simp) (aa.some rfl)
  | false =>
   refine aa.neg rfl (jX ⟨_,uv g,0,rfl,rfl⟩ (by simp) fun _=>?_)
   (dsimp +instances only[Aa,Ab,Ac,Ad,Ae,Af,Ag])
   simp only[aR];exact aa.pos (by simp) (aa.some rfl)
 | false =>
  refine aa.neg rfl ?_;have fin:∀ f:Bool,(bif f then (jg bO held [.s si,.i s],ck) else (held,ck))=((bif f then jg bO held [.s si,.i s] else held),ck):=fun f=>by cases f<;>rfl
  cases R:kd==4 with
  | true =>
   refine aa.pos rfl (jX ⟨_,R4 true,0,rfl,rfl⟩ (by simp) fun _=>?_)
   (dsimp +instances only[Aa,Ab,Ac,Ad,Ae,Af,Ag])
   simp only[aR];refine jX (Ih S B h1 A) (by simp) fun k=>?_
   (dsimp +instances only[Aa,Ab,Ac,Ad,Ae,Af,Ag])
   simp only[aR];cases ab k 0 with
   | true =>
    refine aa.pos rfl (jX ⟨_,uv g,0,rfl,rfl⟩ (by simp) fun _=>?_)
    (dsimp +instances only[Aa,Ab,Ac,Ad,Ae,Af,Ag])
    simp only[aR];exact aa.pos (by simp) (aa.some rfl)
   | false =>
    refine aa.neg rfl (jX ⟨_,uv g,0,rfl,rfl⟩ (by simp) fun _=>?_)
    (dsimp +instances only[Aa,Ab,Ac,Ad,Ae,Af,Ag])
    simp only[aR];exact aa.pos (by simp) (aa.some rfl)
  | false =>
   rw[jF,fin];simp only[cond_false];refine jX ⟨_,R4 (kd==1),0,rfl,rfl⟩ (by simp) fun _=>?_
   (dsimp +instances only[Aa,Ab,Ac,Ad,Ae,Af,Ag])
   simp only[aR];refine jX (Ih S B h1 A) (by simp) fun k=>?_
   (dsimp +instances only[Aa,Ab,Ac,Ad,Ae,Af,Ag])
   simp only[aR];cases ab k 0 with
   | true =>
    refine aa.pos rfl (jX ⟨_,uv g,0,rfl,rfl⟩ (by simp) fun _=>?_)
    (dsimp +instances only[Aa,Ab,Ac,Ad,Ae,Af,Ag])
    simp only[aR];exact aa.pos (by simp) (aa.some rfl)
   | false =>
    refine aa.neg rfl (jX ⟨_,uv g,0,rfl,rfl⟩ (by simp) fun _=>?_)
    (dsimp +instances only[Aa,Ab,Ac,Ad,Ae,Af,Ag])
    simp only[aR];exact aa.pos (by simp) (aa.some rfl)
def rQ(s:List (List G) × List (List G) × List (List G) × Nat)(l:List (List G) × List (List G)):Prop:=s.1=l.1.map aA∧s.2.1=l.2∧kQ s.2.2.1 l.1
theorem rQ.nil:rQ ([],[],[],0) ([],[]):=⟨rfl,rfl,kQ.nil⟩
theorem rQ.step{rows:List (List G)}{s:List (List G) × List (List G) × List (List G) × Nat}{l:List (List G) × List (List G)}(h:rQ s l){j:Nat}:rQ (pR rows s [.i (j:Int)]) (lS rows l [.i (j:Int)]):=by
 obtain⟨h1,k,g⟩:=h;unfold pR xN lS;generalize gu rows [.i (j:Int)]=d;obtain⟨q,B⟩:=g (aA d);have q:bg [.int .i64,.int .i64,.str,.str,.int .i64,.int .i64,.str,.str] s.2.2.1 (fX (aA d))=uu l.1 d:=q;cases (gi d 3).int != 1 with
 |true=>exact⟨h1,k,g⟩
 | false =>
  simp only[cond_false];rw[q];cases A:uu l.1 d with
  |true=>exact⟨h1,by simp only[cond_true]; rw[k]; rfl,g⟩
  |false=>exact⟨by simp only[cond_false]; rw[h1,j6]; rfl,k,g.put A _⟩
theorem agD(rows n:List (List G))(hr:∀ z∈rows,bq z)(hn:uq rows n)(M:n.length≤800) :
  fy tX [.l [],.l [],.l [],.l [],.l [],.i 0,.l [],.i 0,.l rows,.l n,.i (n.length:Int),.i 0] fun c g=>∃ m hZ,kQ m (gP rows n).1 ∧
   g=[.l (n.map (gu rows)),.l ((gP rows n).1.map aA),.l [],.l (gP rows n).2,.l (be (n.map (gu rows))).1,.i ((be (n.map (gu rows))).2:Int),.l m,.i ((hZ:Nat):Int)]:=by
 refine(qZ (σ:=List (List G) × (List (List G) × List (List G) × List (List G) × Nat) × (List (List G) × Nat)) (fun s i=>[.l s.1,.l s.2.1.1,.l [],.l s.2.1.2.1,.l s.2.2.1,.i (s.2.2.2:Int),.l s.2.1.2.2.1,.i (s.2.1.2.2.2:Int),.l rows,.l n,.i (n.length:Int),.i (i:Int)]) n
  (fun s=>(0,[.l s.1,.l s.2.1.1,.l [],.l s.2.1.2.1,.l s.2.2.1,.i (s.2.2.2:Int),.l s.2.1.2.2.1,.i (s.2.1.2.2.2:Int)]))
  (fun s i=>s.1=(n.take i).map (gu rows)∧rQ s.2.1 (gP rows (n.take i))∧s.2.2=be ((n.take i).map (gu rows))) ([],([],[],[],0),([],0)) (by omega) ⟨rfl,rQ.nil,rfl⟩ ?_ ?_).mono ?_
 ·rintro ⟨dd, s, q⟩ i z ⟨i1, i2, i3⟩ hi A hm d
  simp only at i1 i2 i3;obtain⟨j,rfl,B⟩:=hn z hm;have k:=Ic hn i (by omega);have l1:=k.Cd;have l2:=k.RZ;have F:s.1.length≤900:=by rw[i2.1,bF]; omega
  have I:s.2.1.length≤900:=by rw[i2.2.1]; omega
  have J:dd.length≤900:=by rw[i1,bF,iX]; omega
  refine(agC rows n dd s q i j hr (by omega) hi A B F I J).mono ?_;rintro _ rfl;refine⟨(dd++[rows.getD j []],pR rows s [.i (j:Int)],iW q (rows.getD j [])),rfl,?_,?_,?_⟩
  ·simp only
   rw[d,j6,i1];rfl
  ·simp only
   rw[d];unfold gP at i2⊢;rw[qe];exact i2.step
  ·simp only
   rw[d,j6,i3];unfold be;rw[qe];rfl
 ·rintro ⟨dd, ⟨cs, ot, m, hZ⟩, ⟨held, ck⟩⟩ _
  unfold tX
  (dsimp +instances only[Aa,Ab,Ac,Ad,Ae,Af,Ag])
  simp only[aR];exact aa.n (aa.pos (by simp) (aa.some rfl))
 ·rintro c g ⟨⟨dd, ⟨cs, ot, m, hZ⟩, ⟨held, ck⟩⟩, ⟨i1, ⟨i2, i3, i4⟩, i5⟩, rfl, rfl⟩
  rw[oz]at i1 i2 i3 i4 i5;simp only at i1 i2 i3 i4 i5⊢;refine⟨m,hZ,i4,?_⟩;rw[←i5,←i1,←i2,←i3]
theorem iF.same{rows:List (List G)}{k:Nat}{s:List (List G) × List (List G)}(h:iF rows k s){a b:List G}(d:a∈s.1)(g:b∈s.1)(e:jW a b=0):a=b:=by
 refine h.zero a d b g ?_ ?_
 ·unfold bN
  rw[dT,decide_eq_false_iff_not];omega
 ·unfold bN
  have:jW b a = - jW a b:=Ib _ _;rw[dT,decide_eq_false_iff_not];omega
theorem kQ.site{rows:List (List G)}{k:Nat}{s:List (List G) × List (List G)}(h:iF rows k s){m:List (List G)}(hm:kQ m s.1){d:List G}(q:d∈s.1):ch [.int .i64,.int .i64,.str,.str,.int .i64,.int .i64,.str,.str] m (fX (aA d)) zD=d:=by
 refine(hm (aA d)).2 d ?_;cases g:s.1.find? fun o=>eJ (aA o) (aA d)==0 with
 | none =>
  have:=I9.1 g d q;have e:eJ (aA d) (aA d)=0:=rP.2 ⟨rfl,rfl,rfl,rfl⟩;rw[e]at this;simp at this
 | some o =>
  have h1:=List.mem_of_find?_eq_some g;have A:=List.find?_some g;simp only[beq_iff_eq]at A;rw[h.same h1 q A]
def dw(d:List G):List G:=[.s (gi d 0).str]
theorem agE(rows lg bK:List (List G)){k:Nat}{ot:List (List G)}(M:iF rows k (lg,ot))(hr:∀ z∈rows,bq z)(hm:kQ bK lg)(q:List (List G))(R:∀ d∈q,d∈lg)(hl:q.length≤800)(dd B held:List (List G))(ck hZ:Nat) :
  fy xj [.l dd,.l (q.map aA),.l [],.l B,.l held,.i (ck:Int),.l bK,.i (hZ:Int),.i (q.length:Int),.i 0] fun c g=>g=[.l dd,.l (q.map aA),.l (q.map dw),.l B,.l held,.i (ck:Int)]:=by
 refine(qZ (σ:=List (List G)) (fun s i=>[.l dd,.l (q.map aA),.l s,.l B,.l held,.i (ck:Int),.l bK,.i (hZ:Int),.i (q.length:Int),.i (i:Int)]) q (fun s=>(0,[.l dd,.l (q.map aA),.l s,.l B,.l held,.i (ck:Int)])) (fun s i=>s=(q.take i).map dw) [] (by omega) rfl ?_ ?_).mono ?_
 ·rintro s i d A hi F O U
  have W:(q.take (i+1)).map dw=s++[dw d]:=by rw[U,j6,A]; rfl
  have hsl:s.length≤800:=by rw[A,bF,iX]; omega
  have hc:(q.map aA).getD i []=aA d:=by
   rw[cH,cq,bE hi];rw[cH,bE hi]at F;simp only[kW]at F;simp[F]
  have I:(q.map aA).length=q.length:=bF _;have J:d∈lg:=R d O;have N:=(M.R2 hr d J).rO;unfold xj
  (dsimp +instances only[Aa,Ab,Ac,Ad,Ae,Af,Ag])
  simp only[aR,dO,hc,N.eta];refine aa.p (aa.pos (by rw[I]; (first|rfl|assumption|(simp only[az,sl]<;>omega))) (aa.pos (by rw[I]; (first|rfl|assumption|(simp only[az,sl]<;>omega))) ?_));refine aa.cE (Ig (c:=aA d)) ?_
  (dsimp +instances only[Aa,Ab,Ac,Ad,Ae,Af,Ag])
  have Y:bh [.int .i64,.int .i64,.str,.str,.int .i64,.int .i64,.str,.str] (fX (aA d))=fX (aA d):=rfl;have es:ch [.int .i64,.int .i64,.str,.str,.int .i64,.int .i64,.str,.str] bK (fX (aA d)) [.s (⟨#[]⟩:ByteArray),.i 0,.i 0,.i 0,.i 0,.i 0,.s (⟨#[]⟩:ByteArray),.s (⟨#[]⟩:ByteArray),.i 0,.i 0,.s (⟨#[]⟩:ByteArray),.s (⟨#[]⟩:ByteArray),.s (⟨#[]⟩:ByteArray),.s (⟨#[]⟩:ByteArray),.i 0]=d:=kQ.site M hm J;rw[Y,es];exact aa.pos (by simp only[sl]; simp; omega) (aa.p (aa.pos (by simp) (aa.some ⟨s++[dw d],rfl,W.symm⟩)))
 ·rintro s _
  unfold xj
  (dsimp +instances only[Aa,Ab,Ac,Ad,Ae,Af,Ag])
  simp only[aR];exact aa.n (aa.pos (by simp) (aa.some rfl))
 ·rintro c g ⟨s, A, rfl, rfl⟩
  rw[oz]at A;rw[A]
def eD(rows:List (List G))(t:Int):List (List G):=If (gP rows (cA t 0 rows)).1
def Ii(rows:List (List G))(t:Int):List (List G):=(gP rows (cA t 0 rows)).2
theorem xO(rows:List (List G))(t:Int):(eD rows t).length≤rows.length:=by
 have:=(Ie (ur t rows)).Cd;have h:=um t 0 rows;unfold eD;rw[R3];omega
theorem agF{rows:List (List G)}{t:Int}{d:List G}(h:d∈eD rows t):d∈rows∧(gi d 3).int=1 :=
 (Ie (ur t rows)).mem d ((mI (lt:=bN jW) _).mem_iff.1 h)
theorem uw(rows:List (List G))(t:Int):(cK rows t).length≤rows.length:=by
 unfold cK;rw[bF];exact um t 0 rows
theorem mP{rows:List (List G)}{t:Int}{d:List G}(h:d∈cK rows t):d∈rows:=by
 obtain⟨z,g,rfl⟩:=bR.1 h;obtain⟨j,rfl,k⟩:=ur t rows z g;exact nG k
theorem agG(lg:List (List G)):eI (bN eJ) (lg.map aA)=(If lg).map aA:=agA aA (fun _ _=>rfl) lg
theorem Ce(rows:List (List G))(t:Int)(hr:∀ z∈rows,bq z)(hn:rows.length≤20) :
  ry [.l rows,.i t]=some [.l (cK rows t),.l ((eD rows t).map aA),.l ((eD rows t).map dw),.l (Ii rows t),.l (be (cK rows t)).1,.i ((be (cK rows t)).2:Int),.i 0]:=by
 have F:=ur t rows;have O:=um t 0 rows;have q:=Ie F;have h1:=q.Cd;refine aa.toEq ?_;unfold ry
 (dsimp +instances only[Aa,Ab,Ac,Ad,Ae,Af,Ag])
 refine aa.cE (agt rows t hr (by omega)) ?_
 (dsimp +instances only[Aa,Ab,Ac,Ad,Ae,Af,Ag])
 refine aa.loop (agD rows (cA t 0 rows) hr F (by omega)) (by simp) ?_;rintro _ _ ⟨m,hZ,hm,rfl⟩
 (dsimp +instances only[Aa,Ab,Ac,Ad,Ae,Af,Ag])
 simp only[aR];have A:((gP rows (cA t 0 rows)).1.map aA).length=(gP rows (cA t 0 rows)).1.length:=bF _;refine aa.neg (by rw[dT,decide_eq_false_iff_not,A]; omega) ?_;have I:Bw [.l ((gP rows (cA t 0 rows)).1.map aA)]=some [.l ((eD rows t).map aA)]:=by
  have h:=MY (C:=pI) (Q:=iS) afN.MW (agz.mono fun _ _=>trivial) ((gP rows (cA t 0 rows)).1.map aA) (fun y J=>by
   obtain⟨d,g,rfl⟩:=bR.1 J;exact(q.R2 hr d g).rO) (by omega) (fun a M b N g1 g2=>by
   obtain⟨d,g,rfl⟩:=bR.1 M;obtain⟨e,he,rfl⟩:=bR.1 N;rw[q.zero d g e he g1 g2])
  rw[agG]at h;exact h
 refine aa.nF (aa.eq I) (by simp) ?_;rintro _ rfl
 (dsimp +instances only[Aa,Ab,Ac,Ad,Ae,Af,Ag])
 have B:(eD rows t).length=(gP rows (cA t 0 rows)).1.length:=R3 _;rw[A,←B];refine aa.loop (agE rows (gP rows (cA t 0 rows)).1 m (k:=(cA t 0 rows).length) (ot:=(gP rows (cA t 0 rows)).2) q hr hm (eD rows t) (fun d g=>(mI (lt:=bN jW) _).mem_iff.1 g) (by omega) _ _ _ _ _) (by simp[B]) ?_;rintro _ _ rfl
 (dsimp +instances only[Aa,Ab,Ac,Ad,Ae,Af,Ag])
 simp only[aR];exact aa.pos (by simp) (aa.some rfl)
theorem agH(rows:List (List G))(t:Int)(hr:∀ z∈rows,bq z)(hn:rows.length≤20) :
  xm [.l rows,.i t]=some (bif gO rows t != 0 then [.l [],.l [],.i (gO rows t)] else [.l ((eD rows t).map aA),.l (Ii rows t),.i 0]):=by
 refine aa.toEq ?_;unfold xm
 (dsimp +instances only[Aa,Ab,Ac,Ad,Ae,Af,Ag])
 refine aa.cE (Cb rows t hr hn) ?_
 (dsimp +instances only[Aa,Ab,Ac,Ad,Ae,Af,Ag])
 cases h:gO rows t != 0 with
 |true=>exact aa.pos rfl (aa.pos rfl (aa.some rfl))
 | false =>
  refine aa.neg rfl (aa.call (aa.eq (Ce rows t hr hn)) ?_);rintro _ rfl
  (dsimp +instances only[Aa,Ab,Ac,Ad,Ae,Af,Ag])
  exact aa.neg rfl (aa.some rfl)
theorem agI{s:ByteArray}(h:s∈fJ):s.size≤maxLen:=by
 simp only[fJ,bI,iL,or_false]at h;rcases h with rfl|rfl|rfl|rfl|rfl<;>decide
theorem R5{m:List (List G)}{r:List G}(h:r∈lI m):r=[.s (gi r 0).str]:=by
 obtain⟨e,_,rfl⟩:=bR.1 ((B8 m).mem_iff.1 h);rfl
theorem R6{q:List (List G)}(h:q.Pairwise fun a b=>dM (gi a 0).str (gi b 0).str<0):q.Nodup:=by
 rw[qd];refine h.imp fun {a b} d e=>?_;rw[e,ui.2 rfl]at d;omega
theorem agJ{p q:List (List G)}(d:p.Pairwise fun a b=>dM (gi a 0).str (gi b 0).str<0)(F:q.Pairwise fun a b=>dM (gi a 0).str (gi b 0).str<0)(h:∀ r,r∈p↔r∈q):p=q:=by
 have J:p.Perm q:=(Ts (R6 d) (R6 F)).2 h;have M:∀ a∈p,∀ b∈p,dM (gi a 0).str (gi b 0).str=0→a=b:=fun a g b A U=>by
  refine uR fun N=>?_;obtain⟨i,hi,rfl⟩:=yj g;obtain⟨k,hk,rfl⟩:=yj A;rw[Tp]at d;have I:=gr.flip (gi p[i] 0).str (gi p[k] 0).str;rcases Nat.lt_trichotomy i k with h|h|h
  ·have := d i k hi hk h
   omega
  ·subst h
   exact N rfl
  ·have := d k i hk hi h
   omega
 have B:∀{q:List (List G)},(q.Pairwise fun a b=>dM (gi a 0).str (gi b 0).str<0)→q.Pairwise fun a b=>decide (dM (gi b 0).str (gi a 0).str<0)=false:=fun h=>h.imp fun {a b} R=>by
  have I:=gr.flip (gi a 0).str (gi b 0).str;rw[decide_eq_false_iff_not];omega
 refine wQ (lt:=fun a b=>decide (dM (gi a 0).str (gi b 0).str<0)) J (fun a g b A h1 O=>?_) (B d) (B F);rw[decide_eq_false_iff_not]at h1 O;have I:=gr.flip (gi a 0).str (gi b 0).str;exact M a g b A (by omega)
structure ux (L:List ByteArray) (m:List (List G)) (k:Nat):Prop where
 form:∀ e∈m,∃(s:ByteArray) (n:Nat),e=[.l [[.s s]],.l [[.t true]],.i (n:Int)]∧n<k∧s∈L
 born:(m.map cd).Nodup
 keys:(m.map fT).Nodup
theorem ux.put{L:List ByteArray}{m:List (List G)}{k:Nat}(h:ux L m k){s:ByteArray}(q:s∈L):ux L (cu [.str] m [.s s] [.t true] k) (dF [.str] m [.s s] k):=by
 obtain⟨h1,B,F⟩:=HZ s [.t true] k m;have A:∀ n∈m.map cd,n<k:=fun n hn=>by
  obtain⟨e,he,rfl⟩:=bR.1 hn;obtain⟨w,n,rfl,hn,_⟩:=h.form e he;exact hn
 refine⟨fun e he=>?_,?_,?_⟩
 ·unfold dF
  rcases F e he with he|⟨z,rfl,⟨r,hr,rfl⟩|⟨rfl,I⟩⟩
  ·obtain ⟨w, n, J, hn, hw⟩ := h.form e he
   refine⟨w,n,J,?_,hw⟩;cases bg [.str] m [.s s]
   ·exact lZ hn
   ·exact hn
  ·obtain ⟨w, n, rfl, hn, _⟩ := h.form r hr
   refine⟨s,n,rfl,?_,q⟩;cases bg [.str] m [.s s]
   ·exact lZ hn
   ·exact hn
  ·rw [I]
   exact⟨s,k,rfl,Cv k,q⟩
 ·rw [B]
  cases bg [.str] m [.s s]with
  |true=>exact h.born
  | false =>
   rw[cond_false,yv];refine⟨h.born,by simp,fun a g b d e=>?_⟩;rw[gA]at d;have:=A a g;omega
 ·rw [h1]
  cases M:bg [.str] m [.s s]with
  |true=>exact h.keys
  | false =>
   rw[cond_false,yv];refine⟨h.keys,by simp,fun a g b d e=>?_⟩;rw[gA]at d;have:bg [.str] m [.s s]=true:=(B7 _ m).2 (by rw[←d,←e]; exact g);rw[M]at this;cases this
def fB(s:List (List G) × Nat)(x:ByteArray):List (List G) × Nat:=(cu [.str] s.1 [.s x] [.t true] s.2,dF [.str] s.1 [.s x] s.2)
def gv(l:List ByteArray):List (List G) × Nat:=l.foldl fB ([],0)
theorem R7(L:List ByteArray):∀(l:List ByteArray) (s:List (List G) × Nat),ux L s.1 s.2→(∀ x∈l,x∈L)→ux L (l.foldl fB s).1 (l.foldl fB s).2
 | [],s,h,_=>h
 |x::l,s,h,d=>R7 L l (fB s x) (h.put (d x cZ)) fun z g=>d z (cU _ g)
theorem R8(L l:List ByteArray)(d:∀ x∈l,x∈L):ux L (gv l).1 (gv l).2:=R7 L l ([],0) ⟨by simp,by simp,by simp⟩ d
theorem R9:∀(l:List ByteArray) (s:List (List G) × Nat),(l.foldl fB s).1.length≤s.1.length+l.length
 | [],s=>by simp
 | x::l,s=>by
  have h1:=R9 l (fB s x);have d:(fB s x).1.length≤s.1.length+1:=RL _ _ _ _;simp only[iJ,di];omega
theorem R_(l:List ByteArray):(gv l).1.length≤l.length:=by
 have:=R9 l ([],0);simpa[gv]using this
theorem R'(s:ByteArray):∀(l:List ByteArray) (m:List (List G) × Nat),bg [.str] (l.foldl fB m).1 [.s s]=true↔bg [.str] m.1 [.s s]=true∨s∈l
 | [],m=>by simp
 | x::l,m=>by
  rw[iJ,R' s l];have e:bg [.str] (fB m x).1 [.s s]=(aF [.str] [.s s] [.s x]||bg [.str] m.1 [.s s]):=pG _ _ _ _ _ _;have d:aF [.str] [.s s] [.s x]=decide (s=x):=by
   have:aF [.str] [.s s] [.s x]=((s.toList==x.toList)&&true):=rfl;rw[this,dZ,HX]
  rw[e,d,lW,decide_eq_true_eq,bI];constructor
  ·rintro ((h | h) | h)
   ·exact .inr (.inl h)
   ·exact .inl h
   ·exact .inr (.inr h)
  ·rintro (h | h | h)
   ·exact .inl (.inr h)
   ·exact .inl (.inl h)
   ·exact .inr h
theorem Sa(l:List ByteArray)(s:ByteArray):s∈(gv l).1.map fT↔s∈l:=by
 rw[←B7];have:=R' s l ([],0);unfold gv;rw[this];simp[lK]
theorem agK{l:List ByteArray}(g:∀ x∈l,x∈fJ)(hn:l.length≤1000):Fc (gv l).1 (gv l).2:=by
 have h:=R8 fJ l g;have q:=R_ l;refine⟨?_,fun r hr=>?_,?_,by omega⟩
 ·simp only [eC, H6 _ h.born, iY, dX, gB]
  intro e he;obtain⟨v,n,rfl,hn,_⟩:=h.form e he;exact hn
 ·obtain ⟨s, n, rfl, _, k⟩ := h.form r hr
  exact agI k
 ·have := h.keys
  rw[qd,p_]at this⊢;exact this.imp fun d e=>d (ByteArray.ext (Array.toList_inj.1 e))
def fo(l:List ByteArray):List (List G):=lI (gv l).1
theorem Ij(l:List ByteArray)(r:List G):r∈fo l↔∃ s∈l,r=[.s s]:=by
 unfold fo;rw[(B8 _).mem_iff];constructor
 ·intro h
  obtain⟨e,he,rfl⟩:=bR.1 h;exact⟨fT e,(Sa l _).1 (CA he),rfl⟩
 ·rintro ⟨s, d, rfl⟩
  obtain⟨e,he,h⟩:=bR.1 ((Sa l s).2 d);exact bR.2 ⟨e,he,by rw[h]⟩
theorem agL(l:List ByteArray):(fo l).length≤l.length:=by
 unfold fo;rw[(B8 _).length_eq,bF];exact R_ l
theorem Sb(l:List ByteArray):(fo l).Pairwise fun a b=>dM (gi a 0).str (gi b 0).str<0:=by
 unfold fo;have q:=R8 l l fun _ h=>h;have d:(lI (gv l).1).Nodup:=by
  refine(B8 _).nodup_iff.2 ?_;have:=q.keys;rw[qd,p_]at this⊢;refine this.imp fun k e=>k ?_;simpa using e
 rw[qd]at d;refine((afV (gv l).1).and d).imp_of_mem fun {a b} A B g=>?_;have F:¬ dM (gi a 0).str (gi b 0).str=0:=fun h=>g.2 (by rw[R5 A,R5 B,ui.1 h]);have I:=gr.flip (gi a 0).str (gi b 0).str;have:=g.1;omega
theorem agM{l:List ByteArray}(g:∀ x∈l,x∈fJ)(hn:l.length≤1000):xw [.l (gv l).1,.i ((gv l).2:Int)]=some [.l (gv l).1,.i ((gv l).2:Int),.l (fo l)]:=by
 unfold xw AG;have d:Fc (gi [G.l (gv l).1,.i ((gv l).2:Int)] 0).rows (gi [G.l (gv l).1,.i ((gv l).2:Int)] 1).int.toNat:=agK g hn;rw[if_pos d];rfl
def lT(d:List G):ByteArray:=(gi d 0).str
theorem Sc{d:List G}(h:bq d):lT d∈fJ:=by
 obtain⟨_,_,_,_,_,_,_,_,_,_,_,_,_,_,_,rfl,h,_⟩:=h;exact h
structure xP (Q:List G→Prop) (m:List (List G)) (n:ByteArray→Nat):Prop where
 qA:∀ k,qA [.str] m [.s k]=true
 get:∀ k,(oU [.str] m [.s k]).length≤n k∧∀ z∈oU [.str] m [.s k],Q z
theorem xP.nil(Q:List G→Prop):xP Q [] fun _=>0:=⟨fun _=>rfl,fun _=>⟨aI _,by intro z d; cases d⟩⟩
theorem xP.mono{Q:List G→Prop}{m:List (List G)}{n d:ByteArray→Nat}(h:xP Q m n)(hn:∀ k,n k≤d k):xP Q m d :=
 ⟨h.qA,fun k=>⟨mS (h.get k).1 (hn k),(h.get k).2⟩⟩
def df(e:List G):List G:=(gi e 0).row
theorem uy{K:List Kd}{x:List G}:∀{m:List (List G)},bg K m x=false↔∀ e∈m,aF K x (df e)=false
 | []=>by simp[lK]
 | r::rs=>by
  rw[mF,Bool.or_eq_false_iff,uy (m:=rs)];simp[df]
theorem Ik{K:List Kd}{x:List G}{m:List (List G)}:bg K m x=true↔∃ e∈m,aF K x (df e)=true:=by
 cases h:bg K m x with
 | true =>
  refine⟨fun _=>?_,fun _=>rfl⟩;refine uR fun hn=>?_;have:bg K m x=false:=uy.2 fun e he=>by
   cases hr:aF K x (df e)with
   |false=>rfl
   |true=>exact(hn ⟨e,he,hr⟩).elim
  rw[this]at h;cases h
 | false =>
  refine⟨fun h=>(by cases h),fun⟨e,he,hr⟩=>?_⟩;rw[uy.1 h e he]at hr;cases hr
theorem Sd(K:List Kd)(r:List G)(rs:List (List G))(k:List G):jg K (r::rs) k=bif aF K k (gi r 0).row then rs else r::jg K rs k:=by
 unfold jg;simp only[dy];cases aF K k (gi r 0).row with
 |true=>rfl
 | false =>
  simp only[cond_false];rw[tF K k rs (0+1)];cases dy K k rs 0<;>rfl
theorem Se(K:List Kd)(k:List G):jg K [] k=[]:=rfl
structure dH (K:List Kd) (Q:List G→Prop) (m:List (List G)) (clk:Nat):Prop where
 form:∀ e∈m,∃(k v:List G) (n:Nat),e=[.l [k],.l [v],.i (n:Int)]∧n<clk∧Q k
 born:(m.map cd).Nodup
 keys:m.Pairwise fun a b=>aF K (df a) (df b)=false
theorem dH.nil{K:List Kd}{Q:List G→Prop}:dH K Q [] 0:=⟨by simp,by simp,by simp⟩
theorem dH.tail{K:List Kd}{Q:List G→Prop}{r:List G}{m:List (List G)}{clk:Nat}(h:dH K Q (r::m) clk):dH K Q m clk :=
 ⟨fun e he=>h.form e (cU _ he),(jG.1 h.born).2,(l5.1 h.keys).2⟩
theorem dH.perm{K:List Kd}{Q:List G→Prop}{m p:List (List G)}{clk:Nat}(h:dH K Q m clk)(d:p.Perm m):dH K Q p clk :=
 ⟨fun e he=>h.form e (d.mem_iff.1 he),(d.map cd).nodup_iff.2 h.born,d.symm.pairwise h.keys fun {a b} g=>by rw[kH]; exact g⟩
theorem dH.eC{K:List Kd}{Q:List G→Prop}{m:List (List G)}{clk:Nat}(h:dH K Q m clk):eC m clk=true:=by
 simp only[AL.eC,H6 _ h.born,iY,dX,gB];intro e he;obtain⟨k,v,n,rfl,hn,_⟩:=h.form e he;exact hn
theorem dH.get{K:List Kd}{Q:List G→Prop}:∀{m:List (List G)} {clk:Nat},dH K Q m clk→∀ e∈m,∀ z,(∀ k,Q k→aF K k k=true)→ch K m (df e) z=(gi e 1).row
 | r::rs,clk,h,e,he,z,d=>by
  rw[wO];rcases bI.1 he with rfl|he
  ·obtain ⟨k, v, n, rfl, _, h1⟩ := h.form _ cZ
   rw[show aF K (df [G.l [k],.l [v],.i (n:Int)]) (gi [G.l [k],.l [v],.i (n:Int)] 0).row=true from d k h1];rfl
  ·have := (l5.1 h.keys).1 e he
   rw[kH]at this;rw[show aF K (df e) (gi r 0).row=false from this];exact h.tail.get e he z d
theorem xQ{K:List Kd}{k v:List G}{clk:Nat}:∀{m:List (List G)},(cu K m k v clk).map cd=(bif bg K m k then m.map cd else m.map cd++[clk]) ∧
  ∀ e∈cu K m k v clk,e∈m∨∃ z:Int,e=[.l [k],.l [v],.i z]∧((∃ r∈m,z=(gi r 2).int)∨(z=clk∧bg K m k=false))
 | []=>by
  rw[tG,lK];exact⟨by simp[cd,gi,G.int],fun e he=>.inr ⟨clk,gA.1 he,.inr ⟨rfl,rfl⟩⟩⟩
 | r::rs=>by
  obtain⟨h1,g⟩:=xQ (K:=K) (k:=k) (v:=v) (clk:=clk) (m:=rs);rw[tH,mF];cases A:aF K k (gi r 0).row with
  | true =>
   refine⟨rfl,fun e he=>?_⟩;rw[cond_true]at he;rcases bI.1 he with rfl|he
   ·exact .inr ⟨_,rfl,.inl ⟨r,cZ,rfl⟩⟩
   ·exact .inl (cU _ he)
  | false =>
   rw[cond_false,jF];refine⟨?_,fun e he=>?_⟩
   ·rw [dA, h1]
    cases bg K rs k<;>rfl
   ·rcases bI.1 he with rfl | he
    ·exact .inl cZ
    ·rcases g e he with h | ⟨z, rfl, ⟨q, d, rfl⟩ | ⟨rfl, d⟩⟩
     ·exact .inl (cU _ h)
     ·exact .inr ⟨_,rfl,.inl ⟨q,cU _ d,rfl⟩⟩
     ·exact .inr ⟨_,rfl,.inr ⟨rfl,d⟩⟩
theorem Sf{K:List Kd}{k v:List G}{clk:Nat}:∀{m:List (List G)},m.Pairwise (fun a b=>aF K (df a) (df b)=false)→(cu K m k v clk).Pairwise fun a b=>aF K (df a) (df b)=false
 | [],_=>by
  rw[tG];exact List.pairwise_singleton _ _
 | r::rs,h=>by
  obtain⟨h1,d⟩:=l5.1 h;rw[tH];cases g:aF K k (gi r 0).row with
  | true =>
   rw[cond_true];refine l5.2 ⟨fun b A=>?_,d⟩;cases hc:aF K (df [G.l [k],.l [v],.i (gi r 2).int]) (df b)with
   |false=>rfl
   | true =>
    have q:aF K (df r) (df b)=true:=nH (by rw[kH]; exact g) (show aF K k (df b)=true from hc);rw[h1 b A]at q;cases q
  | false =>
   rw[cond_false];refine l5.2 ⟨?_,Sf d⟩;refine uy.1 ?_;rw[pG,kH,show aF K k (df r)=false from g,jF];exact uy.2 h1
theorem dH.put{K:List Kd}{Q:List G→Prop}{m:List (List G)}{clk:Nat}(h:dH K Q m clk){k:List G}(hk:Q k)(v:List G):dH K Q (cu K m k v clk) (dF K m k clk):=by
 obtain⟨g,q⟩:=xQ (K:=K) (k:=k) (v:=v) (clk:=clk) (m:=m);have d:∀ n∈m.map cd,n<clk:=fun n hn=>by
  obtain⟨e,he,rfl⟩:=bR.1 hn;obtain⟨w,v,n,rfl,hn,_⟩:=h.form e he;exact hn
 refine⟨fun e he=>?_,?_,Sf h.keys⟩
 ·unfold dF
  rcases q e he with he|⟨z,rfl,⟨r,hr,rfl⟩|⟨rfl,A⟩⟩
  ·obtain ⟨w, u, n, B, hn, hw⟩ := h.form e he
   refine⟨w,u,n,B,?_,hw⟩;cases bg K m k
   ·exact lZ hn
   ·exact hn
  ·obtain ⟨w, u, n, rfl, hn, _⟩ := h.form r hr
   refine⟨k,v,n,rfl,?_,hk⟩;cases bg K m k
   ·exact lZ hn
   ·exact hn
  ·rw [A]
   exact⟨k,v,clk,rfl,Cv clk,hk⟩
 ·rw [g]
  cases bg K m k with
  |true=>exact h.born
  | false =>
   rw[cond_false,yv];refine⟨h.born,by simp,fun a F b I e=>?_⟩;rw[gA]at I;have:=d a F;omega
theorem xR{K:List Kd}{k:List G}:∀{m:List (List G)},(jg K m k).Sublist m
 | []=>by rw[Se]; exact ajx _
 | r::rs=>by
  rw[Sd];cases aF K k (gi r 0).row with
  |true=>exact List.sublist_cons_self _ _
  |false=>exact xR.cons_cons _
theorem dH.del{K:List Kd}{Q:List G→Prop}{m:List (List G)}{clk:Nat}(h:dH K Q m clk)(k:List G):dH K Q (jg K m k) clk :=
 ⟨fun e he=>h.form e (xR.subset he),h.born.sublist (xR.map _),h.keys.sublist xR⟩
theorem Sg{K:List Kd}{k x:List G}:∀{m:List (List G)},m.Pairwise (fun a b=>aF K (df a) (df b)=false)→bg K (jg K m k) x=(!aF K x k&&bg K m x)
 | [],_=>by rw[Se,lK,Bool.and_false]
 | r::rs,h=>by
  obtain⟨h1,q⟩:=l5.1 h;rw[Sd,mF];cases g:aF K k (gi r 0).row with
  | true =>
   rw[cond_true];cases d:aF K x k with
   | true =>
    have:aF K x (gi r 0).row=true:=nH d g;have A:bg K rs x=false:=uy.2 fun e he=>by
     cases hc:aF K x (df e)with
     |false=>rfl
     | true =>
      have:=nH (by rw[kH]; exact this) hc;rw[show aF K (gi r 0).row (df e)=false from h1 e he]at this;cases this
    rw[A];rfl
   | false =>
    have:aF K x (gi r 0).row=false:=by
     cases hc:aF K x (gi r 0).row with
     |false=>rfl
     | true =>
      have:=nH hc (show aF K (gi r 0).row k=true by rw[kH]; exact g);rw[d]at this;cases this
    rw[this];rfl
  | false =>
   rw[cond_false,mF,Sg q];cases d:aF K x k with
   | true =>
    have:aF K x (gi r 0).row=false:=by
     cases hc:aF K x (gi r 0).row with
     |false=>rfl
     | true =>
      have:=nH (show aF K k x=true by rw[kH]; exact d) hc;rw[g]at this;cases this
    rw[this];rfl
   |false=>rfl
def nU(k:List G):Prop:=∃ n:Int,k=[.i n]
theorem pS(a b:Int):aF [.int .i64] [.i a] [.i b]=decide (a=b):=by
 show ((a==b)&&true)=_
 rw[dZ];rfl
def c_(m:List (List G))(n:Int):Int:=(gi (ch [.int .i64] m [.i n] [.i 0]) 0).int
theorem Il(n:Int):c_ [] n=0:=rfl
def bump(s:List (List G) × Nat)(n:Int):List (List G) × Nat:=(cu [.int .i64] s.1 [.i n] [.i (c_ s.1 n+1)] s.2,dF [.int .i64] s.1 [.i n] s.2)
theorem agN(s:List (List G) × Nat)(n k:Int):c_ (bump s n).1 k=c_ s.1 k+(if k=n then 1 else 0):=by
 unfold bump;show (gi (ch [.int .i64] (cu [.int .i64] s.1 [.i n] [.i (c_ s.1 n+1)] s.2) [.i k] [.i 0]) 0).int=_
 rw[nI,pS];by_cases h:k=n
 ·rw [decide_eq_true h, if_pos h, h]
  rfl
 ·rw [decide_eq_false h, if_neg h, aiW]
  rfl
theorem Cf(k:Int):∀(l:List Int) (s:List (List G) × Nat),c_ (l.foldl bump s).1 k=c_ s.1 k+(l.count k:Nat)
 | [],s=>by simp
 | n::l,s=>by
  rw[iJ,Cf k l,agN,aiX];by_cases h:k=n
  ·subst h
   simp;omega
  ·rw [if_neg h, if_neg (by simpa using fun e => h e.symm)]
   omega
theorem Im:∀(l:List Int) (s:List (List G) × Nat),dH [.int .i64] nU s.1 s.2→dH [.int .i64] nU (l.foldl bump s).1 (l.foldl bump s).2
 | [],s,h=>h
 |n::l,s,h=>Im l (bump s n) (h.put ⟨n,rfl⟩ _)
theorem Cg(k:Int):∀(l:List Int) (s:List (List G) × Nat),bg [.int .i64] (l.foldl bump s).1 [.i k]=(bg [.int .i64] s.1 [.i k]||l.contains k)
 | [],s=>by simp
 | n::l,s=>by
  rw[iJ,Cg k l];have:bg [.int .i64] (bump s n).1 [.i k]=(decide (k=n)||bg [.int .i64] s.1 [.i k]):=by
   unfold bump;rw[pG,pS]
  rw[this,Tt];cases bg [.int .i64] s.1 [.i k]<;>cases h:decide (k=n)<;>simp_all
theorem Io:∀(l:List Int) (s:List (List G) × Nat),(l.foldl bump s).1.length≤s.1.length+l.length
 | [],s=>by simp
 | n::l,s=>by
  have h1:=Io l (bump s n);have d:(bump s n).1.length≤s.1.length+1:=by
   unfold bump;have:=(xQ (K:=[.int .i64]) (k:=[.i n]) (v:=[.i (c_ s.1 n+1)]) (clk:=s.2) (m:=s.1)).1;have:=congrArg uS this;rw[bF]at this;rw[this];cases bg [.int .i64] s.1 [.i n]<;>simp
  rw[iJ,di];omega
def gQ(f:Int→Bool):Nat→Int→Option Int
 |0,_=>none
 |k+1,n=>if f n then some n else gQ f k (n+1)
theorem Si{f g:Int→Bool}:∀(k:Nat) (n:Int),1≤n→n+k≤100000→(∀ n,1≤n→n≤99999→f n=g n)→gQ f k n=gQ g k n
 |0,_,_,_,_=>rfl
 | k+1,n,h1,d,h=>by
  unfold gQ;rw[h n h1 (by omega),Si k (n+1) (by omega) (by omega) h]
theorem Sj{f:Int→Bool}{x:Int}:∀(k:Nat) (n:Int),gQ f k n=some x→n≤x∧x<n+k∧f x=true∧∀ y,n≤y→y<x→f y=false
 |0,_,h=>by cases h
 | k+1,n,h=>by
  unfold gQ at h;by_cases d:f n=true
  ·rw [if_pos d] at h
   cases h;exact⟨Int.le_refl _,by omega,d,fun y h1 g=>by omega⟩
  ·rw [if_neg d] at h
   obtain⟨h1,g,q,A⟩:=Sj k (n+1) h;refine⟨by omega,by omega,q,fun y F B=>?_⟩;by_cases e:y=n
   ·rw [e]
    simpa using d
   ·exact A y (by omega) B
def Sk(d:Int→List G)(g:List G):Option Int→Nat × List G
 |some n=>(0,d n)
 |none=>(1,g)
theorem agO{st:List G→Option (Option Nat × List G)}(mk:Int→List G)(f:Int→Bool)(q:Int→List G)(A:List G)(h0:∀ n,1≤n→n≤99999→f n=true→st (mk n)=some (some 0,q n))
  (h1:∀ n,1≤n→n≤99999→f n=false→st (mk n)=some (none,mk (n+1))) (B:st (mk 100000)=some (some 1,A)):fy st (mk 1) fun c g=>(c,g)=Sk q A (gQ f 99999 1):=by
 have key:∀(k:Nat) (n:Int),1≤n→n+k=100000→eh st (mk n) (k+1) fun c g=>(c,g)=Sk q A (gQ f k n):=by
  intro k
  induction k with
  | zero =>
   intro n hn hk;have:n=100000:=by omega
   subst this;exact eh.stop B rfl
  | succ k F =>
   intro n hn hk;cases d:f n with
   |true=>exact eh.stop (h0 n hn (by omega) d) (by unfold gQ; rw[d]; rfl)
   | false =>
    refine eh.next (h1 n hn (by omega) d) ?_
    have:=F (n+1) (by omega) (by omega);refine this.mono fun c g h=>?_;rw[h]
    conv=>rhs; unfold gQ
    rw[d];rfl
 exact(key 99999 1 (by omega) (by omega)).to (by omega)
theorem Sl{β:Type}{sp:eB}{tl:List G→Option (List G)}{rows:List (List G)}{clock:Nat}{d:List G}{k:List G→Option β}{r:β}(aL:eC rows clock=true)(h:∀ b p,p.Perm rows→∃ e,mD sp tl d b p=some e∧k e=some r):tD sp tl rows clock d k=some r:=by
 unfold tD;rw[aL];refine wu fun b p g=>?_;obtain⟨e,h1,q⟩:=h b p g;rw[h1];exact q
def dS(cs:List (List G)):List Int:=(cs.map fun c=>(gi c 4).int).filter fun n=>decide (0<n)
theorem Ip(cs:List (List G)):(dS cs).length≤cs.length:=by
 unfold dS;have:=yw (fun n=>decide (0<n)) (cs.map fun c=>(gi c 4).int);rw[bF]at this;exact this
def bX(cs:List (List G)):List (List G) × Nat:=(dS cs).foldl bump ([],0)
theorem uz(cs:List (List G))(k:Int):c_ (bX cs).1 k=((dS cs).count k:Nat):=by
 unfold bX;rw[Cf,Il,Tu]
section
variable {dd cs ss ot held:List (List G)} {ck:Nat}
theorem Sm(hn:cs.length≤1000):nO [.l dd,.l cs,.l ss,.l ot,.l held,.i (ck:Int)]=some [.l dd,.l cs,.l ss,.l ot,.l held,.i (ck:Int),.l (bX cs).1,.i ((bX cs).2:Int)]:=by
 refine aa.toEq ?_;unfold nO
 (dsimp +instances only[Aa,Ab,Ac,Ad,Ae,Af,Ag])
 simp only[aR];refine aa.loop ((qZ (σ:=List (List G) × Nat) (fun s i=>[.l dd,.l cs,.l ss,.l ot,.l held,.i (ck:Int),.l s.1,.i (s.2:Int),.l cs,.i (cs.length:Int),.i (i:Int)]) cs
  (fun s=>(0,[.l dd,.l cs,.l ss,.l ot,.l held,.i (ck:Int),.l s.1,.i (s.2:Int)])) (fun s i=>s=bX (cs.take i)) ([],0) (by omega) rfl ?_ ?_)) rfl ?_
 ·rintro s i c d hi q hm A
  have hlen:(dS (cs.take i)).length≤1000:=by
   have:=Ip (cs.take i);rw[iX]at this;omega
  have hc:=uz (cs.take i) (gi c 4).int;have B:=Ja (a:=(gi c 4).int) (l:=dS (cs.take i));rw[←d]at hc;have k:bX (cs.take (i+1))=bif decide (0<(gi c 4).int) then bump s (gi c 4).int else s:=by
   rw[A,d];unfold bX dS;rw[j6,Tv,qe];simp only[dA,sa,Cx,Tw];cases decide (0<(gi c 4).int)<;>rfl
  unfold Bx
  (dsimp +instances only[Aa,Ab,Ac,Ad,Ae,Af,Ag])
  simp only[aR,q];refine aa.p (aa.p ?_);cases h0:decide (0<(gi c 4).int)with
  | true =>
   rw[h0]at k;refine aa.pos (by rw[dT]; exact h0) (aa.pos ?_ (aa.p (aa.some ⟨_,rfl,k.symm⟩)));show az (c_ s.1 (gi c 4).int+1)=true
   rw[hc]
   (first|rfl|assumption|(simp only[az,sl]<;>omega))
  | false =>
   rw[h0]at k;exact aa.neg (by rw[dT]; exact h0) (aa.p (aa.some ⟨_,rfl,k.symm⟩))
 ·rintro s _
  unfold Bx
  (dsimp +instances only[Aa,Ab,Ac,Ad,Ae,Af,Ag])
  simp only[aR];exact aa.n (aa.some rfl)
 ·rintro c g ⟨s, d, rfl, rfl⟩
  rw[oz]at d;subst d
  (dsimp +instances only[Aa,Ab,Ac,Ad,Ae,Af,Ag])
  simp only[aR];exact aa.some rfl
def cT(e:List G):Int:=(gi (gi e 0).row 1).int
def da(p:List (List G)):List (List G) × Nat:=(p.map cT).foldl bump ([],0)
theorem xS(p:List (List G))(k:Int):c_ (da p).1 k=((p.map cT).count k:Nat):=by
 unfold da;rw[Cf,Il,Tu]
theorem Sn(br:Nat):∀(q:List (List G)) (s:List (List G) × Nat) (l:List Int),s=l.foldl bump ([],0)→l.length+q.length≤1000 →
  cQ rz (fun d=>(gi d 8).int.toNat) q [.l dd,.l cs,.l ss,.l ot,.l held,.i (ck:Int),.l s.1,.i (s.2:Int),.i (br:Int)] =
   some [.l dd,.l cs,.l ss,.l ot,.l held,.i (ck:Int),.l ((q.map cT).foldl bump s).1,.i (((q.map cT).foldl bump s).2:Int),.i (br:Int)]
 | [],s,l,_,_=>by simp[cQ]
 | e::q,s,l,g,k=>by
  have hc:c_ s.1 (cT e)=(l.count (cT e):Nat):=by rw[g,Cf,Il,Tu]
  have B:=Ja (a:=cT e) (l:=l);simp only[di]at k;have h1:rz e [.l dd,.l cs,.l ss,.l ot,.l held,.i (ck:Int),.l s.1,.i (s.2:Int),.i (br:Int)]=some [.l dd,.l cs,.l ss,.l ot,.l held,.i (ck:Int),.l (bump s (cT e)).1,.i ((bump s (cT e)).2:Int),.i (br:Int)]:=by
   unfold rz
   (dsimp +instances only[Aa,Ab,Ac,Ad,Ae,Af,Ag])
   simp only[aR];have:az (c_ s.1 (cT e)+1)=true:=by
    rw[hc]
    (first|rfl|assumption|(simp only[az,sl]<;>omega))
   rw[show az ((gi (ch [.int .i64] s.1 [.i (gi (gi e 0).row 1).int] [.i 0]) 0).int+1)=true from this];rfl
  have A:=Sn br q (bump s (cT e)) (l++[cT e]) (by rw[qe,←g]; rfl) (by simp; omega);simp only[cQ,h1,Cz,Ab,Aa,G.int,aR];exact A
theorem Sp(b:Nat)(p:List (List G))(g:p.length≤1000):mD rA nP [.l dd,.l cs,.l ss,.l ot,.l held,.i (ck:Int),.l [],.i 0] b p =
  some [.l dd,.l cs,.l ss,.l ot,.l held,.i (ck:Int),.l (da p).1,.i ((da p).2:Int)]:=by
 have h:=Sn (dd:=dd) (cs:=cs) (ss:=ss) (ot:=ot) (held:=held) (ck:=ck) b p ([],0) [] rfl (by simp; omega);show (bif true then (cQ rz (fun d=>(gi d 8).int.toNat) p [.l dd,.l cs,.l ss,.l ot,.l held,.i (((ck:Int).toNat:Nat):Int),.l [],.i ((((0:Int).toNat:Nat)):Int),.i (b:Int)]).bind nP else none)=_
 simp only[aR,cond_true];rw[show ((0:Int).toNat:Nat)=0 from rfl];rw[show (((0:Nat):Int))=(((([],0):List (List G) × Nat).2:Nat):Int) from rfl];rw[h];show nP _=_
 unfold nP
 (dsimp +instances only[Aa,Ab,Ac,Ad,Ae,Af,Ag])
 simp only[aR];rfl
def rR(cs held:List (List G))(n:Int):Bool:=((dS cs).count n==0)&&((held.map cT).count n==0)
def Sq:Option Int→List G
 |some n=>[.i n,.i 0]
 |none=>[.i 0,.i 12]
theorem agP(hn:cs.length≤1000)(F:held.length≤1000)(aL:eC held ck=true):tZ [.l dd,.l cs,.l ss,.l ot,.l held,.i (ck:Int)]=some ([.l dd,.l cs,.l ss,.l ot,.l held,.i (ck:Int)]++Sq (gQ (rR cs held) 99999 1)):=by
 unfold tZ;have h1:nO (G' [.l dd,.l cs,.l ss,.l ot,.l held,.i (ck:Int)])=some [.l dd,.l cs,.l ss,.l ot,.l held,.i (ck:Int),.l (bX cs).1,.i ((bX cs).2:Int)]:=Sm hn;rw[zY h1];refine Sl aL fun b p B=>⟨_,Sp b p (by rw[B.length_eq]; exact F),?_⟩
 refine aa.toEq ?_;unfold BA
 (dsimp +instances only[Aa,Ab,Ac,Ad,Ae,Af,Ag])
 simp only[aR];have A:∀ n,((p.map cT).count n)=((held.map cT).count n):=fun n=>(B.map cT).count_eq n;refine aa.loop (agO (st:=tY) (fun n=>[.l dd,.l cs,.l ss,.l ot,.l held,.i (ck:Int),.l (bX cs).1,.i ((bX cs).2:Int),.l (da p).1,.i ((da p).2:Int),.i n]) (rR cs held)
  (fun n=>[.l dd,.l cs,.l ss,.l ot,.l held,.i (ck:Int),.i n,.i 0]) [.l dd,.l cs,.l ss,.l ot,.l held,.i (ck:Int)] (fun n I J d=>?_) (fun n I J d=>?_) ?_) rfl fun c g k=>?_
 ·unfold rR at d
  simp only[aw,beq_iff_eq]at d;refine aa.toEq ?_;unfold tY
  (dsimp +instances only[Aa,Ab,Ac,Ad,Ae,Af,Ag])
  simp only[aR];refine aa.p (aa.pos ?_ (aa.pos ?_ (aa.some rfl)))
  ·show (c_ (bX cs).1 n == 0) = true
   rw[uz,d.1];rfl
  ·show (c_ (da p).1 n == 0) = true
   rw[xS,A,d.2];rfl
 ·unfold rR at d
  refine aa.toEq ?_;unfold tY
  (dsimp +instances only[Aa,Ab,Ac,Ad,Ae,Af,Ag])
  simp only[aR];refine aa.p ?_;cases q:(dS cs).count n==0 with
  | true =>
   rw[q,iY]at d;refine aa.pos ?_ (aa.neg ?_ (aa.p (aa.some rfl)))
   ·show (c_ (bX cs).1 n == 0) = true
    rw[uz];simp only[beq_iff_eq]at q⊢;rw[q];rfl
   ·show (c_ (da p).1 n == 0) = false
    rw[xS,A];simp only[beq_eq_false_iff_ne,ne_eq]at d⊢;omega
  | false =>
   refine aa.neg ?_ (aa.p (aa.some rfl));show (c_ (bX cs).1 n==0)=false
   rw[uz];simp only[beq_eq_false_iff_ne,ne_eq]at q⊢;omega
 ·refine aa.toEq ?_
  unfold tY
  (dsimp +instances only[Aa,Ab,Ac,Ad,Ae,Af,Ag])
  simp only[aR];exact aa.n (aa.some rfl)
 ·cases d : gQ (rR cs held) 99999 1 with
  | some n =>
   rw[d]at k;cases k
   (dsimp +instances only[Aa,Ab,Ac,Ad,Ae,Af,Ag])
   simp only[aR];exact aa.pos rfl (aa.some rfl)
  | none =>
   rw[d]at k;cases k
   (dsimp +instances only[Aa,Ab,Ac,Ad,Ae,Af,Ag])
   simp only[aR];exact aa.neg rfl (aa.some rfl)
end
def dW(r:List G):Prop:=∃(s:ByteArray) (n:Int),r=[.s s,.i n]∧small n∧s∈fJ
theorem dW.eta{r:List G}(h:dW r):bh bO r=r:=by
 obtain⟨s,n,rfl,_⟩:=h;rfl
def fY(d:List G):List G:=[.s (gi d 0).str,.i (gi d 8).int]
theorem bq.own{d:List G}(h:bq d):dW (fY d):=by
 obtain⟨si,no,at_,kd,t,m,b,c,s,h,x,y,bd,aV,ot,rfl,d1,_,_,_,⟨_,_,_,_,g,_,_,_⟩,_⟩:=h;exact⟨si,s,rfl,g,d1⟩
theorem agQ(a b:ByteArray)(m n:Int):aF bO [.s a,.i m] [.s b,.i n]=(decide (a=b)&&decide (m=n)):=by
 have:aF bO [.s a,.i m] [.s b,.i n]=((a.toList==b.toList)&&((m==n)&&true)):=rfl;rw[this,dZ,HX];rfl
theorem nV{r s:List G}(hr:dW r)(g:dW s):aF bO r s=true↔r=s:=by
 obtain⟨a,m,rfl,_⟩:=hr;obtain⟨b,n,rfl,_⟩:=g;rw[agQ,aw,decide_eq_true_eq,decide_eq_true_eq];constructor
 ·rintro ⟨rfl, rfl⟩
  rfl
 ·intro h
  injection h with h1 d
  injection h1 with h1
  injection d with d
  injection d with d
  exact⟨h1,d⟩
def nW(k d:List G):Bool:=aF bO k (fY d)
def jA(k d:List G):Bool:=((gi d 3).int==4||(gi d 3).int==1)&&nW k d
def kR(k d:List G):Bool:=(gi d 3).int==3&&nW k d
def iG(k:List G):List (List G)→Bool
 | []=>false
 |d::q=>(kR k d && !(q.any (jA k)))||iG k q
def xT(k:List G)(b:Bool)(d:List G):Bool:=bif kR k d then true else bif jA k d then false else b
theorem Sr(k:List G):∀(q:List (List G)) (b:Bool),q.foldl (xT k) b=(iG k q||(b && !(q.any (jA k))))
 | [],b=>by simp[iG]
 | d::q,b=>by
  rw[iJ,Sr k q];unfold xT;simp only[iG,yu];have g:kR k d=true→jA k d=false:=fun h=>by
   unfold kR at h;unfold jA;simp only[aw,beq_iff_eq]at h;rw[h.1];rfl
  cases h1:kR k d with
  | true =>
   rw[g h1];cases iG k q<;>cases q.any (jA k)<;>cases b<;>rfl
  |false=>cases jA k d<;>cases iG k q<;>cases q.any (jA k)<;>cases b<;>rfl
theorem Ss:∀(l:List (List G)) (s:List (List G) × Nat),(∀ d∈l,bq d)→dH bO dW s.1 s.2→dH bO dW (l.foldl iW s).1 (l.foldl iW s).2∧(∀ k,bg bO (l.foldl iW s).1 k=l.foldl (xT k) (bg bO s.1 k))∧(l.foldl iW s).1.length≤s.1.length+l.length
 | [],s,_,h=>⟨h,fun _=>rfl,by simp⟩
 | d::l,s,q,h=>by
  have B:=q d cZ;have g:dH bO dW (iW s d).1 (iW s d).2∧(∀ k,bg bO (iW s d).1 k=xT k (bg bO s.1 k) d)∧(iW s d).1.length≤s.1.length+1:=by
   unfold iW xT kR jA;cases A:(gi d 3).int==3 with
   | true =>
    simp only[cond_true,iY];refine⟨h.put (show dW [.s (gi d 0).str,.i (gi d 8).int] from B.own) _,fun k=>?_,?_⟩
    ·rw [pG]
     have F:(gi d 3).int=3:=by simpa using A
     rw[F];show (nW k d||bg bO s.1 k)=_
     cases nW k d<;>rfl
    ·have := (xQ (K := bO) (k := [.s (gi d 0).str, .i (gi d 8).int]) (v := [.t true]) (clk := s.2) (m := s.1)).1
     have:=congrArg uS this;rw[bF]at this;rw[this];cases bg bO s.1 [.s (gi d 0).str,.i (gi d 8).int]<;>simp
   | false =>
    simp only[cond_false,I1];cases M:((gi d 3).int==4||(gi d 3).int==1)with
    | true =>
     simp only[cond_true,iY];refine⟨h.del _,fun k=>?_,?_⟩
     ·rw [Sg h.keys]
      show (!nW k d&&bg bO s.1 k)=_
      cases nW k d<;>rfl
     ·have := (xR (K := bO) (k := [.s (gi d 0).str, .i (gi d 8).int]) (m := s.1)).length_le
      omega
    | false =>
     simp only[cond_false,I1];exact⟨h,fun k=>by first|rfl|trivial|simp,by omega⟩
  obtain⟨h1,I,A⟩:=Ss l (iW s d) (fun x J=>q x (cU _ J)) g.1;refine⟨h1,fun k=>?_,?_⟩
  ·rw[iJ,iJ,I,g.2.1]
  ·rw [iJ, di]
   have:=g.2.2;omega
theorem xU(l:List (List G))(g:∀ d∈l,bq d):dH bO dW (be l).1 (be l).2∧(∀ k,bg bO (be l).1 k=iG k l)∧(be l).1.length≤l.length:=by
 obtain⟨h1,q,A⟩:=Ss l ([],0) g dH.nil;refine⟨h1,fun k=>?_,by simpa[be]using A⟩;have:=q k;rw[Sr,lK,I1,yk]at this;exact this
def iA:List (List G)→List (List G)→List (List G)
 | [],out=>out
 |d::q,out=>iA q (bif (gi d 3).int==3&&(!(q.any (jA (fY d))) && !(out.any (aF bO (fY d)))) then out++[fY d] else out)
theorem uB{k:List G}(hk:dW k):∀(q out:List (List G)),(∀ d∈q,bq d)→(∀ r∈out,dW r)→(k∈iA q out↔k∈out∨iG k q=true)
 | [],out,_,_=>by simp[iA,iG]
 | d::q,out,I,F=>by
  have g:=(I d cZ).own;have J:=fun x A=>I x (cU _ A);unfold iA;have M:out.any (aF bO (fY d))=true↔fY d∈out:=by
   rw[jE];constructor
   ·rintro ⟨x, A, e⟩
    rw[(nV g (F x A)).1 e];exact A
   ·intro h
    exact⟨_,h,(nV g g).2 rfl⟩
  have B:kR k d=true↔(gi d 3).int=3∧k=fY d:=by
   unfold kR nW;rw[aw,nV hk g,beq_iff_eq]
  rw[uB hk q _ J (by
   intro r hr;cases hc:(gi d 3).int==3&&(!(q.any (jA (fY d))) && !(out.any (aF bO (fY d))))with
   | true =>
    rw[hc,cond_true]at hr;rcases bV.1 hr with hr|hr
    ·exact F r hr
    ·rw [gA.1 hr]
     exact g
   |false=>rw[hc]at hr; exact F r hr)]
  simp only[iG,lW,aw,jD];cases hc:(gi d 3).int==3&&(!(q.any (jA (fY d))) && !(out.any (aF bO (fY d))))with
  | true =>
   simp only[aw,beq_iff_eq,jD]at hc;obtain⟨c1,c2,_⟩:=hc;rw[cond_true,bV,gA];constructor
   ·rintro ((h | h) | h)
    ·exact .inl h
    ·exact .inr (.inl ⟨B.2 ⟨c1,h⟩,by rw[h]; exact c2⟩)
    ·exact .inr (.inr h)
   ·rintro (h | ⟨h, _⟩ | h)
    ·exact .inl (.inl h)
    ·exact .inl (.inr (B.1 h).2)
    ·exact .inr h
  | false =>
   rw[cond_false];constructor
   ·rintro (h | h)
    ·exact .inl h
    ·exact .inr (.inr h)
   ·rintro (h | ⟨h1, N⟩ | h)
    ·exact .inl h
    ·obtain ⟨g1, g2⟩ := B.1 h1
     left;rw[g2];refine M.1 ?_;rw[←g2]at hc⊢;cases O:out.any (aF bO k)with
     |true=>rfl
     | false =>
      rw[N,O,g1]at hc;cases hc
    ·exact .inr h
theorem uC:∀(q out:List (List G)),(∀ d∈q,bq d)→(∀ r∈out,dW r)→out.Nodup→(iA q out).Nodup∧(∀ r∈iA q out,dW r)∧(iA q out).length≤out.length+q.length
 | [],out,_,g,hn=>⟨hn,g,by simp[iA]⟩
 | d::q,out,B,g,hn=>by
  have F:=(B d cZ).own;have A:=fun x N=>B x (cU _ N);unfold iA;cases hc:(gi d 3).int==3&&(!(q.any (jA (fY d))) && !(out.any (aF bO (fY d))))with
  | true =>
   simp only[aw,beq_iff_eq,jD]at hc;rw[cond_true];obtain⟨h1,k,I⟩:=uC q (out++[fY d]) A (fun r hr=>by
    rcases bV.1 hr with hr|hr
    ·exact g r hr
    ·rw [gA.1 hr]
     exact F) (by
    rw[yv];refine⟨hn,by simp,fun a J b M e=>?_⟩;rw[gA]at M;have:=I_.1 hc.2.2 a J;rw[nV F (g a J)]at this;exact this (by rw[e,M]))
   refine⟨h1,k,?_⟩;simp at I⊢;omega
  | false =>
   rw[cond_false];obtain⟨h1,k,I⟩:=uC q out A g hn;exact⟨h1,k,by rw[di]; omega⟩
def bu(l:List (List G)):List (List G):=iA l []
theorem rS{l:List (List G)}(g:∀ d∈l,bq d):∀ r∈bu l,dW r:=(uC l [] g (by simp) (by simp)).2.1
theorem rT{l:List (List G)}(g:∀ d∈l,bq d):(bu l).length≤l.length:=by simpa[bu]using(uC l [] g (by simp) (by simp)).2.2
theorem Ch(l:List (List G))(g:∀ d∈l,bq d):((be l).1.map df).Perm (bu l):=by
 obtain⟨h1,A,_⟩:=xU l g;have own:∀ e∈(be l).1,dW (df e):=fun e he=>by
  obtain⟨k,v,n,rfl,_,hk⟩:=h1.form e he;exact hk
 refine(Ts ?_ (uC l [] g (by simp) (by simp)).1).2 fun k=>?_
 ·rw [qd, p_]
  refine(h1.keys.imp_of_mem fun {a b} F B q e=>?_);rw[e,(nV (own b B) (own b B)).2 rfl]at q;cases q
 ·constructor
  ·intro h
   obtain⟨e,he,rfl⟩:=bR.1 h;refine(uB (own e he) l [] g (by simp)).2 (.inr ?_);rw[←A];exact Ik.2 ⟨e,he,(nV (own e he) (own e he)).2 rfl⟩
  ·intro h
   have hk:=rS g k h;rcases(uB hk l [] g (by simp)).1 h with h|h
   ·cases h
   ·rw [← A] at h
    obtain⟨e,he,hr⟩:=Ik.1 h;exact bR.2 ⟨e,he,((nV hk (own e he)).1 hr).symm⟩
theorem agR{a b:Int}(h:fA a b=0):a=0∧b=0:=by
 unfold fA at h;by_cases e:a=0
 ·rw [if_neg (by simpa using e)] at h
  exact⟨e,h⟩
 ·rw [if_pos e] at h
  exact absurd h e
def jY(a b:List G):Int:=fA (dM (gi a 0).str (gi b 0).str) (eS (gi a 1).int (gi b 1).int)
theorem Su(r s:List G):jY s r = - jY r s:=uj (gr.flip _ _) (jx.flip _ _)
theorem Iq:fi (bN jY) (fun _=>True):=RG (fun a b=>Su a b) fun a b d h1 g=>B6 gr _ _ _ _ _ _ h1 g fun g1 g2=>jx.le _ _ _ g1 g2
theorem agS{r s:List G}(hr:dW r)(d:dW s)(h:jY r s=0):r=s:=by
 obtain⟨a,m,rfl,_⟩:=hr;obtain⟨b,n,rfl,_⟩:=d;obtain⟨h1,g⟩:=agR h;have k:a=b:=ui.1 h1;have q:m=n:=jx.eq _ _ g;rw[k,q]
theorem Sv{l:List (List G)}(d:∀ r∈l,dW r):∀ a∈l,∀ b∈l,bN jY a b=false→bN jY b a=false→a=b:=fun a k b q h1 g=>by
 refine agS (d a k) (d b q) ?_;unfold bN at h1 g;rw[dT,decide_eq_false_iff_not]at h1 g;have:=Su a b;omega
def fC(l:List (List G)):List (List G):=eI (bN jY) l
theorem agT{p q:List (List G)}(d:∀ r∈q,dW r)(h:p.Perm q):fC p=fC q:=by
 have g:∀ r∈p,dW r:=fun r hr=>d r (h.mem_iff.1 hr);refine wQ (lt:=bN jY) (((mI p).trans h).trans (mI q).symm) (fun a k b A=>Sv g a ((mI p).mem_iff.1 k) b ((mI p).mem_iff.1 A)) ?_ ?_
 ·exact Fm (Iq.mono fun _ _=>trivial) (Q:=fun _=>True) (fun _ _=>trivial)
 ·exact Fm (Iq.mono fun _ _=>trivial) (Q:=fun _=>True) (fun _ _=>trivial)
theorem agU(a b:Int):jR [.l [[.i a],[.i b]]]=some [.i (fA a b)]:=by
 refine aa.toEq ?_;unfold jR
 (dsimp +instances only[Aa,Ab,Ac,Ad,Ae,Af,Ag])
 have h:=B3 [[.i a],[.i b]] [] (by simp);refine aa.loop (h.to (by simp)) (by(first|rfl|assumption|(simp only[az,sl]<;>omega))) ?_;rintro x g ⟨k,rfl⟩;have e:kN [[.i a],[.i b]]=fA a b:=by
  simp only[kN,fA]
  (dsimp +instances only[Aa,Ab,Ac,Ad,Ae,Af,Ag])
  by_cases h1:a=0<;>by_cases d:b=0<;>simp[h1,d]
 rw[e]
 (dsimp +instances only[Aa,Ab,Ac,Ad,Ae,Af,Ag])
 exact aa.test (fun _=>aa.some rfl) fun _=>aa.some rfl
theorem agV{r s:List G}(hr:dW r)(d:dW s):rC [.l [r],.l [s]]=some [.i (jY r s)]:=by
 obtain⟨a,m,rfl,_⟩:=hr;obtain⟨b,n,rfl,_⟩:=d;refine aa.toEq ?_;unfold rC
 (dsimp +instances only[Aa,Ab,Ac,Ad,Ae,Af,Ag])
 refine aa.cE (rfl:iD [.s a,.s b]=some [.i (dM a b)]) ?_;refine aa.cE (xH m n) ?_
 (dsimp +instances only[Aa,Ab,Ac,Ad,Ae,Af,Ag])
 refine aa.cE (agU _ _) ?_;exact aa.some rfl
theorem agW:mH bO rC dW jY:=⟨fun _ _ hr d=>agV hr d,fun _ h=>h.eta⟩
theorem Ir{n:Int}(h:small n):pH [.i n]=some [.s (dp n)]:=by
 obtain⟨h1,d⟩:=h;unfold pH
 (dsimp +instances only[Aa,Ab,Ac,Ad,Ae,Af,Ag])
 rw[show (bM (-9223372036854775808) n&&bM n 9223372036854775807)=true by rw[er,er,aw,decide_eq_true_eq,decide_eq_true_eq]; omega];rfl
def pT(r:List G):List G:=[.s (gi r 0).str,.s (dp (gi r 1).int)]
theorem agX{r:List G}(h:dW r):([.s (gi r 0).str,.i (gi r 1).int]:List G)=r:=by
 obtain⟨s,n,rfl,_⟩:=h;rfl
theorem agY(l:List (List G))(q:∀ d∈l,bq d)(hn:l.length≤1000):BC [.l (be l).1,.i ((be l).2:Int)]=some [.l (be l).1,.i ((be l).2:Int),.l (fC (bu l))]:=by
 obtain⟨h1,_,N⟩:=xU l q;have B:=rS q;have M:=rT q;unfold BC tz;have aL:jQ [.l (be l).1,.i ((be l).2:Int)]=true:=by
  show (eC (be l).1 ((be l).2:Int).toNat&&cR (be l).1.length 1048576)=true
  rw[aR,h1.eC,iY];exact CC (by omega)
 rw[aL,cond_true];refine wu fun b p A=>?_;have A:p.Perm (be l).1:=A;have J:p.map Hd=p.map df:=om fun e he=>by
  obtain⟨k,v,n,rfl,_,hk⟩:=h1.form e (A.mem_iff.1 he);exact agX hk
 have g:(p.map df).Perm (bu l):=(A.map df).trans (Ch l q);have F:∀ r∈p.map df,dW r:=fun r hr=>B r (g.mem_iff.1 hr);have I:xn [.l (p.map df)]=some [.l (fC (bu l))]:=by
  have:=MY (C:=rC) (Q:=dW) agW.MW (Iq.mono fun _ _=>trivial) (p.map df) F (by rw[g.length_eq]; omega) (Sv F);rw[show eI (bN jY) (p.map df)=fC (bu l) from agT B g]at this;exact this
 refine aa.toEq ?_;unfold Hh kL;rw[J]
 (dsimp +instances only[Aa,Ab,Ac,Ad,Ae,Af,Ag])
 simp only[aR];refine aa.nF (aa.eq I) (by simp) ?_;rintro _ rfl
 (dsimp +instances only[Aa,Ab,Ac,Ad,Ae,Af,Ag])
 refine aa.pos ?_ (aa.some ?_)
 ·have : (fC (bu l)).length = (p.map df).length := by rw [fC, rf, g.length_eq]
  rw[this];simp
 ·show [G.l (fU [.l (be l).1, .i ((be l).2 : Int)]), .i ((mC [.l (be l).1, .i ((be l).2 : Int)] : Nat) : Int), .l (fC (bu l))] = _
  simp[fU,mC,gi,G.rows,G.int]
section
variable {dd cs ss ot l:List (List G)}
theorem agZ(q:∀ d∈l,bq d)(hn:l.length≤1000):BE [.l dd,.l cs,.l ss,.l ot,.l (be l).1,.i ((be l).2:Int)]=some [.l dd,.l cs,.l ss,.l ot,.l (be l).1,.i ((be l).2:Int),.l ((fC (bu l)).map pT)]:=by
 have B:=rS q;have R:=rT q;have A:∀ r∈fC (bu l),dW r:=MN B;have F:(fC (bu l)).length=(bu l).length:=rf _ _;refine aa.toEq ?_;unfold BE
 (dsimp +instances only[Aa,Ab,Ac,Ad,Ae,Af,Ag])
 simp only[aR];refine aa.cE (agY l q hn) ?_
 (dsimp +instances only[Aa,Ab,Ac,Ad,Ae,Af,Ag])
 simp only[aR];generalize fC (bu l)=keys at A F;generalize (be l).1=held;generalize (be l).2=ck;refine aa.loop ((qZ (σ:=List (List G)) (fun s i=>[.l dd,.l cs,.l ss,.l ot,.l held,.i (ck:Int),.l s,.l keys,.i (keys.length:Int),.i (i:Int)]) keys (fun s=>(0,[.l dd,.l cs,.l ss,.l ot,.l held,.i (ck:Int),.l s])) (fun s i=>s=(keys.take i).map pT) [] (by omega) rfl ?_ ?_)) (by simp) ?_
 ·rintro s i r k hi J hm M
  have hr:=A r hm;have O:s.length≤1000:=by rw[k,bF,iX]; omega
  have N:(keys.take (i+1)).map pT=s++[pT r]:=by rw[M,j6,k]; rfl
  obtain⟨a,n,rfl,I,_⟩:=hr;unfold BD
  (dsimp +instances only[Aa,Ab,Ac,Ad,Ae,Af,Ag])
  simp only[aR,dO,J]
  (dsimp +instances only[Aa,Ab,Ac,Ad,Ae,Af,Ag])
  refine aa.p (aa.p (aa.p (aa.call (aa.eq (Ir I)) ?_)));rintro _ rfl
  (dsimp +instances only[Aa,Ab,Ac,Ad,Ae,Af,Ag])
  exact aa.pos (by simp only[sl]; simp; omega) (aa.p (aa.pos (by simp) (aa.some ⟨_,rfl,N.symm⟩)))
 ·rintro s _
  unfold BD
  (dsimp +instances only[Aa,Ab,Ac,Ad,Ae,Af,Ag])
  simp only[aR];exact aa.n (aa.pos (by simp) (aa.some rfl))
 ·rintro c g ⟨s, k, rfl, rfl⟩
  rw[oz]at k;subst k
  (dsimp +instances only[Aa,Ab,Ac,Ad,Ae,Af,Ag])
  simp only[aR];exact aa.pos (by simp) (aa.some rfl)
end
def lU(m:List (List G))(n:Int):Bool:=(gi (ch [.int .i64] m [.i n] [.t false]) 0).bool
def uD(s:List (List G) × Nat)(n:Int):List (List G) × Nat:=(cu [.int .i64] s.1 [.i n] [.t true] s.2,dF [.int .i64] s.1 [.i n] s.2)
theorem Sw(k:Int):∀(l:List Int) (s:List (List G) × Nat),lU (l.foldl uD s).1 k=(lU s.1 k||l.contains k)
 | [],s=>by simp
 | n::l,s=>by
  rw[iJ,Sw k l];have:lU (uD s n).1 k=(decide (k=n)||lU s.1 k):=by
   unfold uD;show (gi (ch [.int .i64] (cu [.int .i64] s.1 [.i n] [.t true] s.2) [.i k] [.t false]) 0).bool=_
   rw[nI,pS];cases decide (k=n)<;>rfl
  rw[this,Tt];cases lU s.1 k<;>cases h:decide (k=n)<;>simp_all
section
variable (rows:List (List G)) (t:Int) (hr:∀ z∈rows,bq z) (hn:rows.length≤20)
include hr hn
def iH(rows:List (List G))(t:Int):List Int:=((eD rows t).map aA).map (fun c=>(gi c 4).int)++(fC (bu (cK rows t))).map fun r=>(gi r 1).int
theorem ag0:∀ n,1≤n→n≤99999→rR ((eD rows t).map aA) (be (cK rows t)).1 n = !((iH rows t).contains n):=fun n h1 _=>by
 have d:∀ z∈cK rows t,bq z:=fun z g=>hr z (mP g);have hk:=Ch (cK rows t) d;have k:((dS ((eD rows t).map aA)).count n==0) = !((((eD rows t).map aA).map (fun c=>(gi c 4).int)).contains n):=by
  unfold dS;generalize ((eD rows t).map aA).map (fun c=>(gi c 4).int)=L;rw[j7,beq_iff_eq,CD,jD,←Tx,kZ,ga];constructor
  ·intro h hm
   exact h ⟨hm,by rw[decide_eq_true_eq]; omega⟩
  ·intro h hm
   exact h hm.1
 have q:(((be (cK rows t)).1.map cT).count n==0) = !(((fC (bu (cK rows t))).map fun r=>(gi r 1).int).contains n):=by
  have F:((be (cK rows t)).1.map cT).Perm ((fC (bu (cK rows t))).map fun r=>(gi r 1).int):=by
   have:(be (cK rows t)).1.map cT=((be (cK rows t)).1.map df).map fun r=>(gi r 1).int:=by rw[iK]; rfl
   rw[this];exact(hk.trans (mI (lt:=bN jY) _).symm).map _
  rw[j7,beq_iff_eq,CD,jD,←Tx,kZ,F.mem_iff]
 unfold rR iH;rw[k,q];generalize ((eD rows t).map aA).map (fun c=>(gi c 4).int)=A;generalize (fC (bu (cK rows t))).map (fun r=>(gi r 1).int)=B;rw[j7];simp only[aw,jD,←Tx,kZ,bV,not_or]
theorem ag1:xl [.l rows,.i t]=some (bif gO rows t != 0 then [.i 0,.i (gO rows t)] else Sq (gQ (fun n => !((iH rows t).contains n)) 99999 1)):=by
 have d:∀ z∈cK rows t,bq z:=fun z g=>hr z (mP g);obtain⟨h1,_,A⟩:=xU (cK rows t) d;have k:=uw rows t;have q:=xO rows t;refine aa.toEq ?_;unfold xl
 (dsimp +instances only[Aa,Ab,Ac,Ad,Ae,Af,Ag])
 refine aa.cE (Cb rows t hr hn) ?_
 (dsimp +instances only[Aa,Ab,Ac,Ad,Ae,Af,Ag])
 cases h:gO rows t != 0 with
 |true=>exact aa.pos rfl (aa.pos rfl (aa.some rfl))
 | false =>
  refine aa.neg rfl (aa.call (aa.eq (Ce rows t hr hn)) ?_);rintro _ rfl
  (dsimp +instances only[Aa,Ab,Ac,Ad,Ae,Af,Ag])
  simp only[aR];refine aa.neg rfl (aa.call (aa.eq (agP (by rw[bF]; omega) (by omega) h1.eC)) ?_);rintro _ rfl;rw[Si 99999 1 (by omega) (by omega) (ag0 rows t hr hn)];cases gQ (fun n => !((iH rows t).contains n)) 99999 1 with
  |some n=>exact aa.some rfl
  |none=>exact aa.some rfl
theorem ag2:xp [.l rows,.i t]=some (bif gO rows t != 0 then [.l [],.i (gO rows t)] else [.l ((fC (bu (cK rows t))).map pT),.i 0]):=by
 have d:∀ z∈cK rows t,bq z:=fun z g=>hr z (mP g);have k:=uw rows t;refine aa.toEq ?_;unfold xp
 (dsimp +instances only[Aa,Ab,Ac,Ad,Ae,Af,Ag])
 refine aa.cE (Cb rows t hr hn) ?_
 (dsimp +instances only[Aa,Ab,Ac,Ad,Ae,Af,Ag])
 cases h:gO rows t != 0 with
 |true=>exact aa.pos rfl (aa.pos rfl (aa.some rfl))
 | false =>
  refine aa.neg rfl (aa.call (aa.eq (Ce rows t hr hn)) ?_);rintro _ rfl
  (dsimp +instances only[Aa,Ab,Ac,Ad,Ae,Af,Ag])
  simp only[aR];refine aa.neg rfl (aa.call (aa.eq (agZ d (by omega))) ?_);rintro _ rfl;exact aa.some rfl
end
def Sx(r:List G):ByteArray:=(gi r 0).str
def fZ(r:List G):Int:=(gi r 1).int
def h_(d:List G):Int:=(gi d 8).int
def pU(H g:List (List G))(n:Int):List ByteArray:=(H.filter fun r=>fZ r==n).map Sx++(g.filter fun d=>h_ d==n).map lT
theorem ag3{l l':List ByteArray}(h:∀ s,s∈l↔s∈l'):fo l=fo l':=agJ (Sb l) (Sb l') fun r=>by
 rw[Ij,Ij];constructor
 ·rintro ⟨s, d, e⟩
  exact⟨s,(h s).1 d,e⟩
 ·rintro ⟨s, d, e⟩
  exact⟨s,(h s).2 d,e⟩
theorem Sy(sep:List UInt8):∀(xs:List (List UInt8)),(∀ x∈xs,x.length≤10)→(sep.intercalate xs).length≤xs.length*(10+sep.length)
 | [],_=>by simp[Ty]
 | [x],h=>by
  have:=h x (by simp);simp[Ty];omega
 | x::y::l,h=>by
  have h1:=Sy sep (y::l) fun z d=>h z (cU _ d);have g:=h x (by simp);have e:(sep.intercalate (x::y::l)).length=x.length+(sep.length+(sep.intercalate (y::l)).length):=by
   simp[Ty,List.intersperse]
  rw[e];simp only[di]at h1⊢;rw[Nat.add_mul,Nat.one_mul];omega
theorem ag4{l:List ByteArray}(d:∀ s∈l,s∈fJ)(hn:l.length≤1000):mO [.l (fo l),.s (⟨#[32]⟩:ByteArray)]=some [.s (iC (fo l) (⟨#[32]⟩:ByteArray))]:=by
 have h1:=agL l;have A:(iC (fo l) (⟨#[32]⟩:ByteArray)).size≤100000:=by
  have:=Sy [32] ((mE (fo l)).map (·.data.toList)) fun x g=>by
   obtain⟨b,k,rfl⟩:=bR.1 g;obtain⟨r,hr,rfl⟩:=bR.1 k;obtain⟨s,q,rfl⟩:=(Ij l r).1 hr;have:=d s q;simp only[fJ,bI,iL,or_false]at this;rcases this with rfl|rfl|rfl|rfl|rfl<;>decide
  have e:(iC (fo l) (⟨#[32]⟩:ByteArray)).size=([32].intercalate ((mE (fo l)).map (·.data.toList))).length:=by
   show (List.toArray _).size=_
   rw[List.size_toArray];rfl
  rw[e];simp only[bF,mE]at this⊢;refine mS this ?_;simp;omega
 unfold mO wL;show (bif cR (fo l).length 1048576&&cR (iC (fo l) (⟨#[32]⟩:ByteArray)).size 140737488355328 then some [G.s (iC (fo l) (⟨#[32]⟩:ByteArray))] else none)=_
 rw[show cR (fo l).length 1048576=true from CC (by omega),show cR (iC (fo l) (⟨#[32]⟩:ByteArray)).size 140737488355328=true from CC (by omega)];rfl
def lV(e:List G):ByteArray:=(gi (gi e 0).row 0).str
section
variable {dd ot held:List (List G)} {ck:Nat} {n:Int}
theorem Sz{cs ss:List (List G)}(br:Nat):∀(q:List (List G)) (s:List (List G) × Nat),
  cQ rF (fun d=>(gi d 9).int.toNat) q [.l dd,.l cs,.l ss,.l ot,.l held,.i (ck:Int),.l s.1,.i (s.2:Int),.i n,.i (br:Int)] =
   some [.l dd,.l cs,.l ss,.l ot,.l held,.i (ck:Int),.l (((q.filter fun e=>cT e==n).map lV).foldl fB s).1,.i ((((q.filter fun e=>cT e==n).map lV).foldl fB s).2:Int),.i n,.i (br:Int)]
 | [],s=>by simp[cQ]
 | e::q,s=>by
  have h1:rF e [.l dd,.l cs,.l ss,.l ot,.l held,.i (ck:Int),.l s.1,.i (s.2:Int),.i n,.i (br:Int)] =
    some [.l dd,.l cs,.l ss,.l ot,.l held,.i (ck:Int),.l (bif cT e==n then fB s (lV e) else s).1,.i ((bif cT e==n then fB s (lV e) else s).2:Int),.i n,.i (br:Int)]:=by
   unfold rF
   (dsimp +instances only[Aa,Ab,Ac,Ad,Ae,Af,Ag])
   simp only[aR];show (bif cT e==n then _ else _)=_
   cases cT e==n<;>rfl
  have g:=Sz (cs:=cs) (ss:=ss) br q (bif cT e==n then fB s (lV e) else s);simp only[cQ,h1,Cz,Ab,Aa,G.int,aR,Cx];rw[cond_true];refine Eq.trans g ?_;cases cT e==n<;>rfl
theorem ag5(lg:List (List G))(hn:lg.length≤1000)(s0:List (List G) × Nat) :
  fy xz [.l dd,.l (lg.map aA),.l (lg.map dw),.l ot,.l held,.i (ck:Int),.l s0.1,.i (s0.2:Int),.i n,.l (lg.map aA),.i (lg.length:Int),.i 0] fun c g=>c=0 ∧
   g=[.l dd,.l (lg.map aA),.l (lg.map dw),.l ot,.l held,.i (ck:Int),.l (((lg.filter fun d=>h_ d==n).map lT).foldl fB s0).1,.i ((((lg.filter fun d=>h_ d==n).map lT).foldl fB s0).2:Int)]:=by
 have F:(lg.map aA).length=lg.length:=bF _;have I:(lg.map dw).length=lg.length:=bF _;refine(qZ (σ:=List (List G) × Nat) (fun s i=>[.l dd,.l (lg.map aA),.l (lg.map dw),.l ot,.l held,.i (ck:Int),.l s.1,.i (s.2:Int),.i n,.l (lg.map aA),.i (lg.length:Int),.i (i:Int)]) lg
  (fun s=>(0,[.l dd,.l (lg.map aA),.l (lg.map dw),.l ot,.l held,.i (ck:Int),.l s.1,.i (s.2:Int)])) (fun s i=>s=(((lg.take i).filter fun d=>h_ d==n).map lT).foldl fB s0) s0 (by omega) rfl ?_ ?_).mono ?_
 ·rintro s i d q hi k hm J
  have A:(((lg.take (i+1)).filter fun d=>h_ d==n).map lT).foldl fB s0=bif h_ d==n then fB s (lT d) else s:=by
   rw[J,Tv,j6,qe,←q];simp only[Cx,Tw];cases h_ d==n<;>rfl
  have hc:(lg.map aA).getD i []=aA d:=by
   rw[cH,cq,bE hi];rw[cH,bE hi]at k;simp only[kW]at k;simp[k]
  have M:(lg.map dw).getD i []=dw d:=by
   rw[cH,cq,bE hi];rw[cH,bE hi]at k;simp only[kW]at k;simp[k]
  unfold xz
  (dsimp +instances only[Aa,Ab,Ac,Ad,Ae,Af,Ag])
  simp only[aR,hc,M];refine aa.p (aa.pos (by rw[F]; (first|rfl|assumption|(simp only[az,sl]<;>omega))) ?_);show aa (bif h_ d==n then _ else _) _
  cases B:h_ d==n with
  | true =>
   rw[B]at A;exact aa.pos rfl (aa.pos (by rw[I]; (first|rfl|assumption|(simp only[az,sl]<;>omega))) (aa.p (aa.some ⟨fB s (lT d),rfl,A.symm⟩)))
  | false =>
   rw[B]at A;exact aa.neg rfl (aa.p (aa.some ⟨s,rfl,A.symm⟩))
 ·rintro s _
  unfold xz
  (dsimp +instances only[Aa,Ab,Ac,Ad,Ae,Af,Ag])
  simp only[aR];exact aa.n (aa.some rfl)
 ·rintro c g ⟨s, q, rfl, rfl⟩
  rw[oz]at q;subst q;exact⟨rfl,rfl⟩
theorem ag6{l lg:List (List G)}(A:∀ d∈l,bq d)(hn:l.length≤400)(I:∀ d∈lg,bq d)(hm:lg.length≤400):BR [.l dd,.l (lg.map aA),.l (lg.map dw),.l ot,.l (be l).1,.i ((be l).2:Int),.i n] =
  some [.l dd,.l (lg.map aA),.l (lg.map dw),.l ot,.l (be l).1,.i ((be l).2:Int),.l (fo (pU (bu l) lg n))]:=by
 obtain⟨h1,_,h3⟩:=xU l A;have hk:=Ch l A;have hown:=rS A;have O:HG [.l dd,.l (lg.map aA),.l (lg.map dw),.l ot,.l (be l).1,.i ((be l).2:Int),.l [],.i 0,.i n]=some (some 0,[.l dd,.l (lg.map aA),.l (lg.map dw),.l ot,.l (be l).1,.i ((be l).2:Int),.l (fo (pU (bu l) lg n))]):=by
  show kF rG BQ (be l).1 (((be l).2:Int).toNat) _=_
  rw[aR];refine MV h1.eC fun b p q=>⟨rfl,?_⟩
  have R:=Sz (dd:=dd) (cs:=lg.map aA) (ss:=lg.map dw) (ot:=ot) (held:=(be l).1) (ck:=(be l).2) (n:=n) b p ([],0);have J:cQ rG.st rG.br p (rG.init [.l dd,.l (lg.map aA),.l (lg.map dw),.l ot,.l (be l).1,.i ((be l).2:Int),.l [],.i 0,.i n] b) =
    some [.l dd,.l (lg.map aA),.l (lg.map dw),.l ot,.l (be l).1,.i ((be l).2:Int),.l (((p.filter fun e=>cT e==n).map lV).foldl fB ([],0)).1,.i ((((p.filter fun e=>cT e==n).map lV).foldl fB ([],0)).2:Int),.i n,.i (b:Int)]:=by
   show cQ rF (fun d=>(gi d 9).int.toNat) p [.l dd,.l (lg.map aA),.l (lg.map dw),.l ot,.l (be l).1,.i (((((be l).2:Int).toNat):Nat):Int),.l [],.i ((((0:Int).toNat:Nat)):Int),.i n,.i (b:Int)]=_
   rw[aR];exact R
  refine⟨_,J,?_⟩
  ·have F:∀ s,s∈((p.filter fun e=>cT e==n).map lV++(lg.filter fun d=>h_ d==n).map lT)↔s∈pU (bu l) lg n:=fun s=>by
    unfold pU;rw[bV,bV];have:s∈(p.filter fun e=>cT e==n).map lV↔s∈((bu l).filter fun r=>fZ r==n).map Sx:=by
     constructor
     ·intro h
      obtain⟨e,he,rfl⟩:=bR.1 h;obtain⟨he,B⟩:=ga.1 he;exact bR.2 ⟨df e,ga.2 ⟨hk.mem_iff.1 (CA (q.mem_iff.1 he)),B⟩,rfl⟩
     ·intro h
      obtain⟨r,hr,rfl⟩:=bR.1 h;obtain⟨hr,B⟩:=ga.1 hr;obtain⟨e,he,rfl⟩:=bR.1 (hk.mem_iff.2 hr);exact bR.2 ⟨e,ga.2 ⟨q.mem_iff.2 he,B⟩,rfl⟩
    rw[this]
   have M:∀ s∈((p.filter fun e=>cT e==n).map lV++(lg.filter fun d=>h_ d==n).map lT),s∈fJ:=fun s U=>by
    rcases bV.1 U with h|h
    ·obtain ⟨e, he, rfl⟩ := bR.1 h
     obtain⟨k,v,m,rfl,_,hk⟩:=h1.form e (q.mem_iff.1 (ga.1 he).1);obtain⟨a,j,rfl,_,W⟩:=hk;exact W
    ·obtain ⟨d, Y, rfl⟩ := bR.1 h
     exact Sc (I d (ga.1 Y).1)
   have N:((p.filter fun e=>cT e==n).map lV++(lg.filter fun d=>h_ d==n).map lT).length≤1000:=by
    have a1:=yw (fun e=>cT e==n) p;have a2:=yw (fun d=>h_ d==n) lg;have a3:=q.length_eq;rw[fD,bF,bF];omega
   refine aa.toEq ?_;unfold BQ
   (dsimp +instances only[Aa,Ab,Ac,Ad,Ae,Af,Ag])
   simp only[aR];rw[show (lg.map aA).length=lg.length from bF _];refine aa.loop (ag5 (dd:=dd) (ot:=ot) (held:=(be l).1) (ck:=(be l).2) (n:=n) lg (by omega) _) rfl ?_;rintro c g ⟨rfl,rfl⟩
   (dsimp +instances only[Aa,Ab,Ac,Ad,Ae,Af,Ag])
   simp only[aR];rw[←qe];refine aa.cE (agM M N) ?_
   (dsimp +instances only[Aa,Ab,Ac,Ad,Ae,Af,Ag])
   rw[ag3 F];exact aa.some rfl
 refine aa.toEq ?_;unfold BR
 (dsimp +instances only[Aa,Ab,Ac,Ad,Ae,Af,Ag])
 simp only[aR];rw[O];refine jX ⟨_,rfl,0,rfl,rfl⟩ rfl fun _=>?_
 (dsimp +instances only[Aa,Ab,Ac,Ad,Ae,Af,Ag])
 simp only[aR];exact aa.some rfl
end
def iI(vs:List Int):List Int:=vs.mergeSort fun x y=>decide (x≤y)
theorem nX(vs:List Int):(iI vs).Perm vs:=List.mergeSort_perm _ _
theorem ag7(vs:List Int):(iI vs).Pairwise (·≤·):=by
 have:=List.pairwise_mergeSort (le:=fun x y:Int=>decide (x≤y)) (fun a b c h1 d=>by simp only[decide_eq_true_eq]at *; omega) (fun a b=>by simp only[lW,decide_eq_true_eq]; omega) vs;exact this.imp fun h=>by simpa using h
theorem SA{p q:List Int}(d:p.Pairwise (·<·))(g:q.Pairwise (·<·))(h:∀ n,n∈p↔n∈q):p=q:=by
 have k:∀{q:List Int},q.Pairwise (·<·)→q.Nodup:=fun h=>by
  rw[qd];exact h.imp fun h=>by omega
 refine wQ (lt:=fun a b:Int=>decide (a<b)) ((Ts (k d) (k g)).2 h) (fun a _ b _ h1 A=>?_) (d.imp fun h=>?_) (g.imp fun h=>?_)
 ·rw [decide_eq_false_iff_not] at h1 A
  omega
 ·rw [decide_eq_false_iff_not]
  omega
 ·rw [decide_eq_false_iff_not]
  omega
theorem xV{vs:List Int}(h:vs.Nodup):(iI vs).Pairwise (·<·):=by
 have h1:=(nX vs).nodup_iff.2 h;rw[qd]at h1;exact((ag7 vs).and h1).imp fun⟨d,g⟩=>by omega
theorem ag8{p q:List Int}(h:p.Perm q)(hn:q.Nodup):iI p=iI q:=SA (xV (h.nodup_iff.2 hn)) (xV hn) fun n=>by
 rw[(nX p).mem_iff,(nX q).mem_iff,h.mem_iff]
theorem ag9(vs:List Int)(hn:vs.length<1000000):uc [.l (vs.map fun v=>[G.i v])]=some [.l ((iI vs).map fun v=>[G.i v])]:=by
 unfold uc AH;show (bif Nat.blt (vs.map fun v=>[G.i v]).length 1000000 then some [G.l (pC (vs.map fun v=>[G.i v]))] else none)=_
 rw[show Nat.blt (vs.map fun v=>[G.i v]).length 1000000=true by rw[gB,bF]; exact hn];have e:(vs.map fun v=>[G.i v]).map (fun r=>(gi r 0).int)=vs:=by
  rw[iK];have:((fun r=>(gi r 0).int) ∘ fun v=>[G.i v])=id:=by funext v; rfl
  rw[this,List.map_id]
 unfold pC;rw[e];rfl
def db(e:List G):Int:=(gi (gi e 0).row 0).int
theorem Is{m:List (List G)}{clk:Nat}(h:dH [.int .i64] nU m clk):(m.map db).Nodup:=by
 rw[qd,p_];refine h.keys.imp_of_mem fun {a b} g q d e=>?_;obtain⟨k,v,n,rfl,_,i,rfl⟩:=h.form a g;obtain⟨k',A,B,rfl,_,F,rfl⟩:=h.form b q;have e:i=F:=e;subst e;have:aF [.int .i64] [.i i] [.i i]=true:=by rw[pS]; simp
 rw[show aF [.int .i64] (df [G.l [[.i i]],.l [v],.i (n:Int)]) (df [G.l [[.i i]],.l [A],.i (B:Int)])=aF [.int .i64] [.i i] [.i i] from rfl,this]at d;cases d
theorem It{m:List (List G)}{clk:Nat}(h:dH [.int .i64] nU m clk)(n:Int):n∈m.map db↔bg [.int .i64] m [.i n]=true:=by
 rw[Ik,bR];constructor
 ·rintro ⟨e, he, rfl⟩
  obtain⟨k,v,j,rfl,_,i,rfl⟩:=h.form e he;refine⟨_,he,?_⟩;show aF [.int .i64] [.i i] [.i i]=true
  rw[pS];simp
 ·rintro ⟨e, he, d⟩
  obtain⟨k,v,j,rfl,_,i,rfl⟩:=h.form e he;have d:aF [.int .i64] [.i n] [.i i]=true:=d;rw[pS,decide_eq_true_eq]at d;exact⟨_,he,d.symm⟩
theorem ag_{m:List (List G)}{clk:Nat}(h:dH [.int .i64] nU m clk)(hn:m.length≤1000):BH [.l m,.i (clk:Int)]=some [.l m,.i (clk:Int),.l ((iI (m.map db)).map fun v=>[G.i v])]:=by
 unfold BH tz;have aL:jQ [.l m,.i (clk:Int)]=true:=by
  show (eC m (clk:Int).toNat&&cR m.length 1048576)=true
  rw[aR,h.eC,iY];exact CC (by omega)
 rw[aL,cond_true];refine wu fun b p d=>?_;have d:p.Perm m:=d;have k:p.map Ht=(p.map db).map fun v=>[G.i v]:=by rw[iK]; rfl
 have q:(p.map db).Perm (m.map db):=d.map db;have g:=ag9 (p.map db) (by rw[bF,d.length_eq]; omega);rw[ag8 q (Is h)]at g;refine aa.toEq ?_;unfold Hw kM;rw[k]
 (dsimp +instances only[Aa,Ab,Ac,Ad,Ae,Af,Ag])
 simp only[aR];refine aa.nF (aa.eq g) (by simp) ?_;rintro _ rfl
 (dsimp +instances only[Aa,Ab,Ac,Ad,Ae,Af,Ag])
 refine aa.pos ?_ (aa.some ?_)
 ·have h1 := (nX (m.map db)).length_eq
  have A:=d.length_eq;rw[bF]at h1;rw[bF,bF,bF,h1,A];simp
 ·show [G.l (fU [.l m, .i (clk : Int)]), .i ((mC [.l m, .i (clk : Int)] : Nat) : Int), .l ((iI (m.map db)).map fun v => [G.i v])] = _
  simp[fU,mC,gi,G.rows,G.int]
def e9(hm:List (List G))(s:List (List G) × Nat)(n:Int):List (List G) × Nat:=(cu [.int .i64] s.1 [.i n] [.i (c_ s.1 n+c_ hm n)] s.2,dF [.int .i64] s.1 [.i n] s.2)
theorem SB(hm:List (List G))(s:List (List G) × Nat)(n k:Int):c_ (e9 hm s n).1 k=if k=n then c_ s.1 n+c_ hm n else c_ s.1 k:=by
 unfold e9;show (gi (ch [.int .i64] (cu [.int .i64] s.1 [.i n] [.i (c_ s.1 n+c_ hm n)] s.2) [.i k] [.i 0]) 0).int=_
 rw[nI,pS];by_cases h:k=n
 ·rw [decide_eq_true h, if_pos h]
  rfl
 ·rw [decide_eq_false h, if_neg h]
  rfl
theorem SC(hm:List (List G))(k:Int):∀(l:List Int) (s:List (List G) × Nat),l.Nodup→c_ (l.foldl (e9 hm) s).1 k=c_ s.1 k+(if k∈l then c_ hm k else 0)
 | [],s,_=>by simp
 | n::l,s,hn=>by
  obtain⟨h1,g⟩:=jG.1 hn;rw[iJ,SC hm k l _ g,SB];by_cases h:k=n
  ·subst h
   rw[if_pos rfl,if_neg h1,if_pos cZ,aiW]
  ·rw [if_neg h]
   by_cases d:k∈l
   ·rw[if_pos d,if_pos (cU _ d)]
   ·rw[if_neg d,if_neg (by rw[bI]; exact fun e=>e.elim h d)]
theorem SD(hm:List (List G)):∀(l:List Int) (s:List (List G) × Nat),dH [.int .i64] nU s.1 s.2→dH [.int .i64] nU (l.foldl (e9 hm) s).1 (l.foldl (e9 hm) s).2
 | [],s,h=>h
 |n::l,s,h=>SD hm l (e9 hm s n) (h.put ⟨n,rfl⟩ _)
theorem SE(hm:List (List G))(k:Int):∀(l:List Int) (s:List (List G) × Nat),bg [.int .i64] (l.foldl (e9 hm) s).1 [.i k]=(bg [.int .i64] s.1 [.i k]||l.contains k)
 | [],s=>by simp
 | n::l,s=>by
  rw[iJ,SE hm k l];have:bg [.int .i64] (e9 hm s n).1 [.i k]=(decide (k=n)||bg [.int .i64] s.1 [.i k]):=by
   unfold e9;rw[pG,pS]
  rw[this,Tt];cases bg [.int .i64] s.1 [.i k]<;>cases h:decide (k=n)<;>simp_all
theorem SF(hm:List (List G)):∀(l:List Int) (s:List (List G) × Nat),(l.foldl (e9 hm) s).1.length≤s.1.length+l.length
 | [],s=>by simp
 | n::l,s=>by
  have h1:=SF hm l (e9 hm s n);have d:(e9 hm s n).1.length≤s.1.length+1:=by
   unfold e9;have:=(xQ (K:=[.int .i64]) (k:=[.i n]) (v:=[.i (c_ s.1 n+c_ hm n)]) (clk:=s.2) (m:=s.1)).1;have:=congrArg uS this;rw[bF]at this;rw[this];cases bg [.int .i64] s.1 [.i n]<;>simp
  rw[iJ,di];omega
def eK(H lg:List (List G))(n:Int):Nat:=(dS (lg.map aA)).count n+(H.map fZ).count n
def pV(H lg:List (List G))(K:List Int):Prop:=K.Pairwise (·<·)∧∀ n,n∈K↔1<eK H lg n
def uE(H lg:List (List G)):List Int:=Classical.epsilon (pV H lg)
theorem pV.eq{H lg:List (List G)}{K:List Int}(h:pV H lg K):uE H lg=K:=by
 have d:pV H lg (uE H lg):=Classical.epsilon_spec ⟨K,h⟩;exact SA d.1 h.1 fun n=>by rw[d.2,h.2]
def xW(H lg:List (List G))(n:Int):List G:=[.s (dp n),.s (iC (fo (pU H lg n)) (⟨#[32]⟩:ByteArray))]
def rU(H lg:List (List G)):List (List G):=(uE H lg).map (xW H lg)
theorem ag'{H lg:List (List G)}{n:Int}(hH:∀ r∈H,dW r)(k:∀ d∈lg,bq d)(h:1<eK H lg n):small n:=by
 unfold eK at h;by_cases h1:0<(dS (lg.map aA)).count n
 ·have hm := oA.1 h1
  unfold dS at hm;obtain⟨c,hc,e⟩:=bR.1 (ga.1 hm).1;obtain⟨d,q,rfl⟩:=bR.1 hc;obtain⟨_,m,A,g,_⟩:=(k d q).own;have:(gi (fY d) 1).int=m:=by rw[A]; rfl
  have B:(gi (aA d) 4).int=m:=this;rw[←e,B];exact g
 ·have hm : n ∈ H.map fZ := oA.1 (by omega)
  obtain⟨r,hr,rfl⟩:=bR.1 hm;obtain⟨_,m,rfl,g,_⟩:=hH r hr;exact g
theorem aha{H lg:List (List G)}{n:Int}(hH:∀ r∈H,dW r)(g:∀ d∈lg,bq d):∀ s∈pU H lg n,s∈fJ:=fun s k=>by
 rcases bV.1 k with h|h
 ·obtain ⟨e, he, rfl⟩ := bR.1 h
  obtain⟨a,j,rfl,_,q⟩:=hH e (ga.1 he).1;exact q
 ·obtain ⟨d, A, rfl⟩ := bR.1 h
  exact Sc (g d (ga.1 A).1)
theorem ahb(H lg:List (List G))(n:Int):(pU H lg n).length≤H.length+lg.length:=by
 unfold pU;have g:=yw (fun r=>fZ r==n) H;have a2:=yw (fun d=>h_ d==n) lg;rw[fD,bF,bF];omega
section
variable {dd ot:List (List G)}
theorem SG{cs ss held M hm:List (List G)}{ck c1 hc:Nat}(g:∀ k,0≤c_ hm k∧c_ hm k≤1000)(br:Nat):∀(q:List (List G)) (s:List (List G) × Nat),(q.map db).Nodup→(∀ k∈q.map db,0≤c_ s.1 k∧c_ s.1 k≤1000) →
  cQ rH (fun d=>(gi d 12).int.toNat) q [.l dd,.l cs,.l ss,.l ot,.l held,.i (ck:Int),.l M,.i (c1:Int),.l hm,.i (hc:Int),.l s.1,.i (s.2:Int),.i (br:Int)] =
   some [.l dd,.l cs,.l ss,.l ot,.l held,.i (ck:Int),.l M,.i (c1:Int),.l hm,.i (hc:Int),.l ((q.map db).foldl (e9 hm) s).1,.i (((q.map db).foldl (e9 hm) s).2:Int),.i (br:Int)]
 | [],s,_,_=>by simp[cQ]
 | e::q,s,hn,A=>by
  obtain⟨B,F⟩:=jG.1 hn;have h0:=A (db e) cZ;have N:=g (db e);have h1:rH e [.l dd,.l cs,.l ss,.l ot,.l held,.i (ck:Int),.l M,.i (c1:Int),.l hm,.i (hc:Int),.l s.1,.i (s.2:Int),.i (br:Int)] =
    some [.l dd,.l cs,.l ss,.l ot,.l held,.i (ck:Int),.l M,.i (c1:Int),.l hm,.i (hc:Int),.l (e9 hm s (db e)).1,.i ((e9 hm s (db e)).2:Int),.i (br:Int)]:=by
   unfold rH
   (dsimp +instances only[Aa,Ab,Ac,Ad,Ae,Af,Ag])
   simp only[aR];have:az (c_ s.1 (db e)+c_ hm (db e))=true:=by(first|rfl|assumption|(simp only[az,sl]<;>omega))
   rw[show az ((gi (ch [.int .i64] s.1 [.i (gi (gi e 0).row 0).int] [.i 0]) 0).int+(gi (ch [.int .i64] hm [.i (gi (gi e 0).row 0).int] [.i 0]) 0).int)=true from this];rfl
  have I:=SG (cs:=cs) (ss:=ss) (held:=held) (M:=M) (ck:=ck) (c1:=c1) (hc:=hc) g br q (e9 hm s (db e)) F fun k hk=>by
   rw[SB,if_neg (fun J:k=db e=>B (J▸hk))];exact A k (cU _ hk)
  simp only[cQ,h1,Cz,Ab,Aa,G.int,aR];rw[cond_true];exact I
theorem ahc{l lg held M hm all:List (List G)}{ck c1 hc ac:Nat}(R:held=(be l).1)(W:ck=(be l).2)(I:∀ d∈l,bq d)(hn:l.length≤400)(F:∀ d∈lg,bq d)(Y:lg.length≤400) (U:∀ n,c_ all n=(eK (bu l) lg n:Nat)) (K:List Int) (hK:K.length≤1000) :
  fy xB [.l dd,.l (lg.map aA),.l (lg.map dw),.l ot,.l held,.i (ck:Int),.l M,.i (c1:Int),.l hm,.i (hc:Int),.l all,.i (ac:Int),.l [],.l (K.map fun v=>[G.i v]),.i (K.length:Int),.i 0] fun c g=>c=0 ∧
   g=[.l dd,.l (lg.map aA),.l (lg.map dw),.l ot,.l held,.i (ck:Int),.l M,.i (c1:Int),.l hm,.i (hc:Int),.l ((K.filter fun n=>decide (1<eK (bu l) lg n)).map (xW (bu l) lg))]:=by
 have N:=rS I;have hbl:=rT I;have k:(K.map fun v=>[G.i v]).length=K.length:=bF _;refine(qZ (σ:=List (List G)) (fun s i=>[.l dd,.l (lg.map aA),.l (lg.map dw),.l ot,.l held,.i (ck:Int),.l M,.i (c1:Int),.l hm,.i (hc:Int),.l all,.i (ac:Int),.l s,.l (K.map fun v=>[G.i v]),.i (K.length:Int),.i (i:Int)]) (K.map fun v=>[G.i v])
  (fun s=>(0,[.l dd,.l (lg.map aA),.l (lg.map dw),.l ot,.l held,.i (ck:Int),.l M,.i (c1:Int),.l hm,.i (hc:Int),.l s])) (fun s i=>s=((K.take i).filter fun n=>decide (1<eK (bu l) lg n)).map (xW (bu l) lg)) [] (by omega) rfl ?_ ?_).mono ?_
 ·rintro s i x q hi J hmx ht
  obtain⟨v,hv,rfl⟩:=bR.1 hmx;have ht2:K.take (i+1)=K.take i++[v]:=by
   have O:i<K.length:=by omega
   rw[List.take_succ_eq_append_getElem O];congr 2;rw[cH,cq,bE O]at J;simpa using J
  have A:((K.take (i+1)).filter fun n=>decide (1<eK (bu l) lg n)).map (xW (bu l) lg)=bif decide (1<eK (bu l) lg v) then s++[xW (bu l) lg v] else s:=by
   rw[ht2,Tv,j6,←q];simp only[Cx,Tw];cases decide (1<eK (bu l) lg v)<;>simp
  have hsl:s.length≤1000:=by
   have:=yw (fun n=>decide (1<eK (bu l) lg n)) (K.take i);rw[q,bF];rw[iX]at this;omega
  unfold xB
  (dsimp +instances only[Aa,Ab,Ac,Ad,Ae,Af,Ag])
  simp only[aR,dO,J]
  (dsimp +instances only[Aa,Ab,Ac,Ad,Ae,Af,Ag])
  refine aa.pos (by rw[k]at hi; (first|rfl|assumption|(simp only[az,sl]<;>omega))) (aa.pos (by rw[k]; rw[k]at hi; (first|rfl|assumption|(simp only[az,sl]<;>omega))) (aa.pos (by rw[k]; rw[k]at hi; (first|rfl|assumption|(simp only[az,sl]<;>omega))) ?_));have hq:aB 1 (gi (ch [.int .i64] all [.i v] [.i 0]) 0).int=decide (1<eK (bu l) lg v):=by
   rw[show (gi (ch [.int .i64] all [.i v] [.i 0]) 0).int=c_ all v from rfl,U,dT,j7,decide_eq_true_eq,decide_eq_true_eq];omega
  rw[hq];cases B:decide (1<eK (bu l) lg v)with
  | true =>
   rw[B]at A;rw[decide_eq_true_eq]at B;refine aa.pos rfl (aa.call (aa.eq (Ir (ag' N F B))) ?_);rintro _ rfl;subst R;subst W;refine aa.cE (ag6 (n:=v) I hn F Y) ?_
   (dsimp +instances only[Aa,Ab,Ac,Ad,Ae,Af,Ag])
   simp only[aR];refine aa.cE (ag4 (aha N F) (by have:=ahb (bu l) lg v; omega)) ?_
   (dsimp +instances only[Aa,Ab,Ac,Ad,Ae,Af,Ag])
   exact aa.pos (by simp only[sl]; simp; omega) (aa.pos (by rw[k]at hi; (first|rfl|assumption|(simp only[az,sl]<;>omega))) (aa.pos (by simp) (aa.some ⟨_,rfl,A.symm⟩)))
  | false =>
   rw[B]at A;exact aa.neg rfl (aa.pos (by rw[k]at hi; (first|rfl|assumption|(simp only[az,sl]<;>omega))) (aa.pos (by simp) (aa.some ⟨_,rfl,A.symm⟩)))
 ·rintro s _
  unfold xB
  (dsimp +instances only[Aa,Ab,Ac,Ad,Ae,Af,Ag])
  simp only[aR];refine aa.neg ?_ (aa.pos (by simp) (aa.some rfl));rw[k]
  (first|rfl|assumption|(simp only[az,sl]<;>omega))
 ·rintro c g ⟨s, q, rfl, rfl⟩
  rw[k,oz]at q;subst q;exact⟨rfl,rfl⟩
theorem ahd{l lg:List (List G)}(B:∀ d∈l,bq d)(hn:l.length≤400)(hlg:∀ d∈lg,bq d)(hm':lg.length≤400):ue [.l dd,.l (lg.map aA),.l (lg.map dw),.l ot,.l (be l).1,.i ((be l).2:Int)] =
  some [.l dd,.l (lg.map aA),.l (lg.map dw),.l ot,.l (be l).1,.i ((be l).2:Int),.l (rU (bu l) lg)]:=by
 obtain⟨h1,_,h3⟩:=xU l B;have hk:=Ch l B;have hown:=rS B;have hcsl:(lg.map aA).length=lg.length:=bF _;have hss:=Ip (lg.map aA);unfold ue;have hsent:nO (HM [.l dd,.l (lg.map aA),.l (lg.map dw),.l ot,.l (be l).1,.i ((be l).2:Int)])=some [.l dd,.l (lg.map aA),.l (lg.map dw),.l ot,.l (be l).1,.i ((be l).2:Int),.l (bX (lg.map aA)).1,.i ((bX (lg.map aA)).2:Int)]:=Sm (cs:=lg.map aA) (by omega);rw[zY hsent];refine Sl h1.eC fun b p F=>?_;have F:p.Perm (be l).1:=F;refine⟨_,Sp (dd:=dd) (cs:=lg.map aA) (ss:=lg.map dw) (ot:=ot) (held:=(be l).1) (ck:=(be l).2) b p (by rw[F.length_eq]; omega),?_⟩;have hpl:=F.length_eq;have I:dH [.int .i64] nU (da p).1 (da p).2:=Im _ _ dH.nil;have hsI:dH [.int .i64] nU (bX (lg.map aA)).1 (bX (lg.map aA)).2:=Im _ _ dH.nil;have J:∀ n,c_ (da p).1 n=(((bu l).map fZ).count n:Nat):=fun n=>by
  rw[xS];have:(p.map cT).Perm ((bu l).map fZ):=by
   have e:p.map cT=(p.map df).map fZ:=by rw[iK]; rfl
   rw[e];exact((F.map df).trans hk).map fZ
  rw[this.count_eq]
 have hhl:(da p).1.length≤400:=by
  have:=Io (p.map cT) ([],0);rw[bF]at this;have e:(da p).1=((p.map cT).foldl bump ([],0)).1:=rfl;rw[e];simp only[kY]at this;omega
 have hbl:=rT B;have R:HK [.l dd,.l (lg.map aA),.l (lg.map dw),.l ot,.l (be l).1,.i ((be l).2:Int),.l (bX (lg.map aA)).1,.i ((bX (lg.map aA)).2:Int),.l (da p).1,.i ((da p).2:Int),.l (bX (lg.map aA)).1,.i ((bX (lg.map aA)).2:Int)] =
   some (some 0,[.l dd,.l (lg.map aA),.l (lg.map dw),.l ot,.l (be l).1,.i ((be l).2:Int),.l (bX (lg.map aA)).1,.i ((bX (lg.map aA)).2:Int),.l (da p).1,.i ((da p).2:Int),.l (rU (bu l) lg)]):=by
  show kF rI BT (da p).1 (((da p).2:Int).toNat) _=_
  rw[aR];refine MV I.eC fun U q N=>⟨rfl,?_⟩
  have hpI:=I.perm N;have hnd:=Is hpI;have hf:=SG (dd:=dd) (ot:=ot) (cs:=lg.map aA) (ss:=lg.map dw) (held:=(be l).1) (ck:=(be l).2) (M:=(bX (lg.map aA)).1) (c1:=(bX (lg.map aA)).2) (hm:=(da p).1) (hc:=(da p).2) (fun k=>by
   rw[J];have:=Ja (a:=k) (l:=(bu l).map fZ);rw[bF]at this;omega) U q (bX (lg.map aA)) hnd fun k _=>by
    rw[uz];have:=Ja (a:=k) (l:=dS (lg.map aA));omega
  have hf2:cQ rI.st rI.br q (rI.init [.l dd,.l (lg.map aA),.l (lg.map dw),.l ot,.l (be l).1,.i ((be l).2:Int),.l (bX (lg.map aA)).1,.i ((bX (lg.map aA)).2:Int),.l (da p).1,.i ((da p).2:Int),.l (bX (lg.map aA)).1,.i ((bX (lg.map aA)).2:Int)] U) =
    some [.l dd,.l (lg.map aA),.l (lg.map dw),.l ot,.l (be l).1,.i ((be l).2:Int),.l (bX (lg.map aA)).1,.i ((bX (lg.map aA)).2:Int),.l (da p).1,.i ((da p).2:Int),.l ((q.map db).foldl (e9 (da p).1) (bX (lg.map aA))).1,.i (((q.map db).foldl (e9 (da p).1) (bX (lg.map aA))).2:Int),.i (U:Int)]:=by
   show cQ rH (fun d=>(gi d 12).int.toNat) q [.l dd,.l (lg.map aA),.l (lg.map dw),.l ot,.l (be l).1,.i (((((be l).2:Int).toNat):Nat):Int),.l (bX (lg.map aA)).1,.i (((((bX (lg.map aA)).2:Int).toNat):Nat):Int),.l (da p).1,.i (((((da p).2:Int).toNat):Nat):Int),.l (bX (lg.map aA)).1,.i (((((bX (lg.map aA)).2:Int).toNat):Nat):Int),.i (U:Int)]=_
   rw[aR,aR,aR];exact hf
  refine⟨_,hf2,?_⟩;have O:=SD (da p).1 (q.map db) _ hsI;have hAl:((q.map db).foldl (e9 (da p).1) (bX (lg.map aA))).1.length≤1000:=by
   have W:=SF (da p).1 (q.map db) (bX (lg.map aA));have q2:=Io (dS (lg.map aA)) ([],0);have q3:=N.length_eq;have e:(bX (lg.map aA)).1=((dS (lg.map aA)).foldl bump ([],0)).1:=rfl;rw[bF]at W;rw[e]at W;simp only[kY]at q2;omega
  have hAc:∀ n,c_ ((q.map db).foldl (e9 (da p).1) (bX (lg.map aA))).1 n=(eK (bu l) lg n:Nat):=fun n=>by
   rw[SC _ _ _ _ hnd,uz];unfold eK;by_cases Y:n∈q.map db
   ·rw [if_pos Y, J]
    omega
   ·rw [if_neg Y]
    have h0:bg [.int .i64] (da p).1 [.i n]=false:=by
     cases hh:bg [.int .i64] (da p).1 [.i n]with
     |false=>rfl
     |true=>exact(Y ((N.map db).mem_iff.2 ((It I n).2 hh))).elim
    have h5:(p.map cT).contains n=false:=by
     have:=Cg n (p.map cT) ([],0);rw[lK,jF]at this;rw[←this];exact h0
    have h6:((bu l).map fZ).count n=0:=by
     have h7:=xS p n;rw[J]at h7;have:(p.map cT).count n=0:=CD.2 fun hm=>by
      rw[←kZ,h5]at hm;cases hm
     omega
    omega
  have hAm:∀ n,1<eK (bu l) lg n→n∈((q.map db).foldl (e9 (da p).1) (bX (lg.map aA))).1.map db:=fun n hc=>by
   rw[It O,SE];by_cases W:0<(dS (lg.map aA)).count n
   ·have := Cg n (dS (lg.map aA)) ([], 0)
    rw[lK,jF]at this;rw[show bg [.int .i64] (bX (lg.map aA)).1 [.i n]=(dS (lg.map aA)).contains n from this,kZ.2 (oA.1 W)];rfl
   ·have q2:0<((bu l).map fZ).count n:=by
     unfold eK at hc;omega
    have q3:n∈q.map db:=by
     refine(N.map db).mem_iff.2 ((It I n).2 ?_);have:=Cg n (p.map cT) ([],0);rw[lK,jF]at this;rw[show bg [.int .i64] (da p).1 [.i n]=(p.map cT).contains n from this,kZ];refine oA.1 ?_;have h7:=xS p n;rw[J]at h7;omega
    rw[kZ.2 q3,Bool.or_true]
  generalize ((q.map db).foldl (e9 (da p).1) (bX (lg.map aA)))=A at O hAl hAc hAm;have hnums:uE (bu l) lg=(iI (A.1.map db)).filter fun n=>decide (1<eK (bu l) lg n):=pV.eq ⟨(xV (Is O)).filter _,fun n=>by
   rw[ga,decide_eq_true_eq,(nX _).mem_iff];exact⟨fun h=>h.2,fun h=>⟨hAm n h,h⟩⟩⟩
  refine aa.toEq ?_;unfold BT
  (dsimp +instances only[Aa,Ab,Ac,Ad,Ae,Af,Ag])
  simp only[aR];refine aa.cE (ag_ O hAl) ?_
  (dsimp +instances only[Aa,Ab,Ac,Ad,Ae,Af,Ag])
  simp only[aR];have hzl:(iI (A.1.map db)).length=A.1.length:=by rw[(nX _).length_eq,bF]
  rw[show ((iI (A.1.map db)).map fun v=>[G.i v]).length=(iI (A.1.map db)).length from bF _];refine aa.loop (ahc (dd:=dd) (ot:=ot) (M:=(bX (lg.map aA)).1) (c1:=(bX (lg.map aA)).2) (hm:=(da p).1) (hc:=(da p).2) rfl rfl B hn hlg hm' hAc (iI (A.1.map db)) (by omega)) (by simp) ?_;rintro c g ⟨rfl,rfl⟩
  (dsimp +instances only[Aa,Ab,Ac,Ad,Ae,Af,Ag])
  simp only[aR];rw[←hnums];exact aa.pos (by simp) (aa.some rfl)
 refine aa.toEq ?_;unfold BV
 (dsimp +instances only[Aa,Ab,Ac,Ad,Ae,Af,Ag])
 simp only[aR];refine aa.cE (show Hs [.l (bX (lg.map aA)).1,.i ((bX (lg.map aA)).2:Int)]=some [.l (bX (lg.map aA)).1,.i ((((bX (lg.map aA)).2:Int).toNat:Nat):Int),.l (bX (lg.map aA)).1,.i ((((bX (lg.map aA)).2:Int).toNat:Nat):Int)] from rfl) ?_
 (dsimp +instances only[Aa,Ab,Ac,Ad,Ae,Af,Ag])
 simp only[aR];rw[R];refine jX ⟨_,rfl,0,rfl,rfl⟩ rfl fun _=>?_
 (dsimp +instances only[Aa,Ab,Ac,Ad,Ae,Af,Ag])
 simp only[aR];exact aa.pos (by simp) (aa.some rfl)
end
theorem ahe(rows:List (List G))(t:Int)(hr:∀ z∈rows,bq z)(hn:rows.length≤20):xC [.l rows,.i t]=some (bif gO rows t != 0 then [.l [],.i (gO rows t)] else [.l (rU (bu (cK rows t)) (eD rows t)),.i 0]):=by
 have g:∀ z∈cK rows t,bq z:=fun z k=>hr z (mP k);have A:=uw rows t;have B:=xO rows t;refine aa.toEq ?_;unfold xC
 (dsimp +instances only[Aa,Ab,Ac,Ad,Ae,Af,Ag])
 refine aa.cE (Cb rows t hr hn) ?_
 (dsimp +instances only[Aa,Ab,Ac,Ad,Ae,Af,Ag])
 cases h:gO rows t != 0 with
 |true=>exact aa.pos rfl (aa.pos rfl (aa.some rfl))
 | false =>
  refine aa.neg rfl (aa.call (aa.eq (Ce rows t hr hn)) ?_);rintro _ rfl
  (dsimp +instances only[Aa,Ab,Ac,Ad,Ae,Af,Ag])
  simp only[aR];refine aa.neg rfl (aa.call (aa.eq (ahd g (by omega) (fun d q=>hr d (agF q).1) (by omega))) ?_);rintro _ rfl;exact aa.some rfl
theorem ahf{rows:List (List G)}(h:gN rows):∀ z∈rows,iU z=0:=fun z d=>by
 obtain⟨i,hi,rfl⟩:=List.mem_iff_getElem.1 d;have:=h.1.1 i hi
 rwa [cH,bE hi]at this
theorem SH{n a b:Int}:cz n a b=true↔a≤n∧n≤b:=by
 unfold cz;rw[er,er,aw,decide_eq_true_eq,decide_eq_true_eq]
theorem ahg{d:List G}(h:iU d=0)(hk:(gi d 3).int=3):1≤h_ d:=by
 unfold iU at h;cases h1:jU (gi d 0).str with
 |false=>rw[h1]at h; cases h
 |true =>
 cases g:cz (gi d 1).int 1 1000000 with
 |false=>rw[h1,g]at h; cases h
 |true =>
 cases k:cz (gi d 2).int 0 345686399999 with
 |false=>rw[h1,g,k]at h; cases h
 |true =>
 rw[h1,g,k,hk]at h;cases q:cz (gi d 8).int 1 99999 with
 |false=>rw[q]at h; cases h
 |true=>exact(SH.1 q).1
theorem SI{k:List G}(hk:dW k):∀{q:List (List G)},(∀ d∈q,bq d)→iG k q=true→∃ d∈q,(gi d 3).int=3∧k=fY d
 | d::q,g,h=>by
  simp only[iG,lW,aw]at h;rcases h with⟨h,_⟩|h
  ·unfold kR nW at h
   rw[aw,beq_iff_eq,nV hk (g d cZ).own]at h;exact⟨d,cZ,h.1,h.2⟩
  ·obtain ⟨e, he, h⟩ := SI hk (fun x A => g x (cU _ A)) h
   exact⟨e,cU _ he,h⟩
section
variable (rows:List (List G)) (t:Int) (hr:∀ z∈rows,bq z) (hn:rows.length≤20) (aL:gN rows)
include hr hn aL
end
def uF(r:List G):Prop:=∃ a b:ByteArray,r=[.s a,.s b]
def nY:List Int→List Int
 | []=>[]
 |x::l=>if x∈l then nY l else x::nY l
theorem xX(n:Int):∀ l:List Int,n∈nY l↔n∈l
 | []=>Iff.rfl
 | x::l=>by
  unfold nY;by_cases h:x∈l
  ·rw [if_pos h, xX n l, bI]
   exact⟨.inr,fun e=>e.elim (fun e=>e▸h) id⟩
  ·rw[if_neg h,bI,bI,xX n l]
theorem xY:∀ l:List Int,(nY l).Nodup
 | []=>List.nodup_nil
 | x::l=>by
  unfold nY;by_cases h:x∈l
  ·rw [if_pos h]
   exact xY l
  ·rw [if_neg h]
   exact jG.2 ⟨fun hm=>h ((xX x l).1 hm),xY l⟩
theorem ahh(H lg:List (List G)):(uE H lg).length≤H.length+lg.length:=by
 have d:∀ n,1<eK H lg n→n∈dS (lg.map aA)++H.map fZ:=fun n this=>by
  unfold eK at this;rw[bV];by_cases h1:0<(dS (lg.map aA)).count n
  ·exact .inl (oA.1 h1)
  ·exact .inr (oA.1 (by omega))
 have g:pV H lg (iI ((nY (dS (lg.map aA)++H.map fZ)).filter fun n=>decide (1<eK H lg n))):=⟨xV ((xY _).filter _),fun n=>by
  rw[(nX _).mem_iff,ga,decide_eq_true_eq,xX];exact⟨fun h=>h.2,fun h=>⟨d n h,h⟩⟩⟩
 rw[g.eq];have k:(iI ((nY (dS (lg.map aA)++H.map fZ)).filter fun n=>decide (1<eK H lg n))).Nodup:=(nX _).nodup_iff.2 ((xY _).filter _);have:=k.length_le_of_subset (l₂:=dS (lg.map aA)++H.map fZ) fun n hn=>d n ((g.2 n).1 hn);have q:=Ip (lg.map aA);rw[fD,bF]at this;rw[bF]at q;omega
theorem rV(u:Nat):oy u=if u<10 then [Jb (48+u)] else oy (u / 10)++[Jb (48+u%10)]:=by
 by_cases h:u<10
 ·rw[if_pos h,oy,dif_pos h]
 ·rw[if_neg h,oy,dif_neg h]
theorem Iu(u:Nat):oy u≠[]:=by
 rw[rV];split<;>simp
theorem Iv{a b:Nat}(d:a<10)(g:b<10)(h:Jb (48+a)=Jb (48+b)):a=b:=by
 have:=congrArg UInt8.toNat h;rw[aiY,aiY]at this;omega
theorem SJ:∀(k u v:Nat),u≤k→oy u=oy v→u=v
 | 0,u,v,hu,h=>by
  have:u=0:=by omega
  subst this;rw[rV 0,rV v]at h;by_cases g:v<10
  ·rw [if_pos (by omega), if_pos g] at h
   exact Iv (by omega) g (Tz h).1
  ·rw [if_pos (by omega), if_neg g] at h
   have d:oy (v / 10)=[]:=(Jc (s₁:=[]) h rfl).1.symm;exact absurd d (Iu _)
 | k+1,u,v,hu,h=>by
  rw[rV u,rV v]at h;by_cases h1:u<10<;>by_cases d:v<10
  ·rw [if_pos h1, if_pos d] at h
   exact Iv h1 d (Tz h).1
  ·rw [if_pos h1, if_neg d] at h
   exact absurd (Jc (s₁:=[]) h rfl).1.symm (Iu _)
  ·rw [if_neg h1, if_pos d] at h
   exact absurd (Jc (s₂:=[]) h rfl).1 (Iu _)
  ·rw [if_neg h1, if_neg d] at h
   obtain⟨q,A⟩:=Jc h rfl;have:=SJ k (u / 10) (v / 10) (by omega) q;have:=Iv (by omega) (by omega) (Tz A).1;omega
theorem Iw{n:Int}(h:0≤n):(dp n).data.toList=oy n.toNat:=by
 show Lib.itoa n=_
 unfold Lib.itoa;rw[if_neg (by omega)]
theorem ahi{m n:Int}(hm:0≤m)(hn:0≤n)(h:(dp m).toList=(dp n).toList):m=n:=by
 have e:dp m=dp n:=by
  have:=pN (dp m) (dp n);rw[h,beq_self_eq_true]at this;exact ui.1 (of_decide_eq_true this.symm)
 have d:=Iw hm;rw[e,Iw hn]at d;have:=SJ _ _ _ (aI _) d;omega
theorem ahj{n:Int}(h0:0≤n)(h1:n<100):(dp n).size≤2:=by
 have e:(dp n).size=(dp n).data.toList.length:=by rw[Array.length_toList]; rfl
 rw[e,Iw h0,rV];split
 ·simp
 ·rw [rV, if_pos (by omega)]
  simp
theorem ahk{n:Int}(h0:0≤n)(h1:n<100):BJ [.l [[.i n]]]=some [.s (dp n)]:=by
 refine aa.toEq ?_;unfold BJ
 (dsimp +instances only[Aa,Ab,Ac,Ad,Ae,Af,Ag])
 refine aa.loop (P:=fun c g=>c=0∧g=[.l [[.s (dp n)]]]) ?_ rfl ?_
 ·refine ((wM (σ:=Unit) (fun _ i=>[.l (([n].take i).map fun n=>[.s (dp n)]),.l [[.i n]],.i 1,.i (i:Int)]) 1 (fun _=>(0,[.l [[.s (dp n)]]])) (fun _ i=>True)
   (fun c g=>False) ?_ ?_ 1 () 0 (by omega) trivial).to (by omega)).mono ?_
  ·rintro _ i _ hi
   have:i=0:=by omega
   subst this;unfold BI
   (dsimp +instances only[Aa,Ab,Ac,Ad,Ae,Af,Ag])
   refine aa.pos rfl (aa.pos rfl ?_);refine aa.cE (Ir (n:=n) (by unfold small; omega)) ?_;exact aa.pos rfl (aa.pos rfl (aa.pos rfl (aa.some (.inl ⟨(),rfl,trivial⟩))))
  ·rintro _ _
   unfold BI
   (dsimp +instances only[Aa,Ab,Ac,Ad,Ae,Af,Ag])
   exact aa.neg rfl (aa.pos rfl (aa.some rfl))
  ·rintro c g (⟨_, _, rfl, rfl⟩ | h)
   ·exact⟨rfl,rfl⟩
   ·exact h.elim
 ·rintro c g ⟨rfl, rfl⟩
  have d:iC [[.s (dp n)]] (⟨#[32]⟩:ByteArray)=dp n:=by
   show (⟨(Lib.join [(dp n).data.toList] [32]).toArray⟩:ByteArray)=dp n
   rw[Lib.join_one]
  have k:mO [.l [[.s (dp n)]],.s (⟨#[32]⟩:ByteArray)]=some [.s (dp n)]:=by
   have:=ahj h0 h1;unfold mO wL;show (bif cR 1 1048576&&cR (iC [[.s (dp n)]] (⟨#[32]⟩:ByteArray)).size 140737488355328 then some [G.s (iC [[.s (dp n)]] (⟨#[32]⟩:ByteArray))] else none)=_
   rw[d,show cR (dp n).size 140737488355328=true from CC (by omega)];rfl
  show aa (gI ((true&&true)&&(mO [.l [[.s (dp n)]],.s (⟨#[32]⟩:ByteArray)]).isSome) (mO [.l [[.s (dp n)]],.s (⟨#[32]⟩:ByteArray)]) fun g3=>some [G.s (gi g3 0).str]) _
  rw[k];exact aa.some rfl
theorem SL{n:Int}(h0:0≤n)(h1:n<100):xv [.i n]=some [.s (dp n)]:=by
 refine aa.toEq ?_;unfold xv
 (dsimp +instances only[Aa,Ab,Ac,Ad,Ae,Af,Ag])
 refine aa.cE (ahk h0 h1) ?_;exact aa.some rfl
def mQ(l:List (List G))(n:Int):Bool:=l.any fun p=>(gi p 1).str.toList==(dp n).toList
def mR(l:List (List G))(n:Int):Bool:=l.any fun p=>(gi p 0).str.toList==(dp n).toList
theorem uF.eta{p:List G}(h:uF p):bh [.str,.str] p=p:=by
 obtain⟨a,b,rfl⟩:=h;rfl
theorem ahl{l:List (List G)}{n:Int}(k:∀ p∈l,uF p)(hn:l.length≤1000)(h0:0≤n)(q:n<100):BN [.l l,.l [[.i n]]]=some [.t (mQ l n)]:=by
 have key:aa (BM [.l l,.l [[.i n]]]) fun g=>∃ v:Int,g=[.i v]∧(v<0→mQ l n=false)∧(0≤v→mQ l n=true):=by
  unfold BM
  (dsimp +instances only[Aa,Ab,Ac,Ad,Ae,Af,Ag])
  refine aa.loop (P:=fun c g=>(c=1∧g=[]∧mQ l n=false)∨(c=0∧∃ v:Int,0≤v∧g=[.i v]∧mQ l n=true)) ((pF (σ:=Unit) (fun _ i=>[.l l,.l [[.i n]],.i (l.length:Int),.i (i:Int)]) l (fun _=>(1,[])) (fun _ i=>mQ (l.take i) n=false) (fun c g=>c=0∧∃ v:Int,0≤v∧g=[.i v]∧mQ l n=true) () (by omega) (by simp[mQ]) ?_ ?_).mono ?_) rfl ?_
  ·intro _ i z d hi A hm B
   unfold BL
   (dsimp +instances only[Aa,Ab,Ac,Ad,Ae,Af,Ag])
   refine aa.p (aa.p ?_);simp only[aR,A,(k z hm).eta];have F:BK [.l [z],.l [[.i n]]]=some [.t ((gi z 1).str.toList==(dp n).toList)]:=by
    refine aa.toEq ?_;unfold BK
    (dsimp +instances only[Aa,Ab,Ac,Ad,Ae,Af,Ag])
    refine aa.cE (SL h0 q) ?_;exact aa.some rfl
   refine aa.cE F ?_
   (dsimp +instances only[Aa,Ab,Ac,Ad,Ae,Af,Ag])
   refine aa.test (fun h1=>aa.some (.inr ⟨0,_,rfl,rfl,_,by omega,rfl,jE.2 ⟨z,hm,h1⟩⟩)) fun h1=>?_;refine aa.p (aa.some (.inl ⟨(),rfl,?_⟩));unfold mQ at d⊢;rw[B,I',d];simp only[yu,I8,h1];rfl
  ·intro _ _
   unfold BL
   (dsimp +instances only[Aa,Ab,Ac,Ad,Ae,Af,Ag])
   exact aa.n (aa.some rfl)
  ·rintro c g (⟨_, h, rfl, rfl⟩ | h)
   ·exact .inl ⟨rfl,rfl,by rwa [oz]at h⟩
   ·exact .inr h
  ·rintro c g (⟨rfl, rfl, h⟩ | ⟨rfl, v, I, rfl, h⟩)
   ·exact aa.neg rfl (aa.some ⟨-1,rfl,fun _=>h,fun h=>by omega⟩)
   ·exact aa.pos rfl (aa.some ⟨v,rfl,fun h=>by omega,fun _=>h⟩)
 refine aa.toEq ?_;unfold BN
 (dsimp +instances only[Aa,Ab,Ac,Ad,Ae,Af,Ag])
 refine aa.call key ?_;rintro _ ⟨v,rfl,h,h'⟩;refine aa.some ?_;show [G.t (bM 0 v)]=_
 by_cases e:0≤v
 ·rw[h' e,er,decide_eq_true e]
 ·rw[h (by omega),er,decide_eq_false e]
theorem ahm{l:List (List G)}{n:Int}(k:∀ p∈l,uF p)(hn:l.length≤1000)(h0:0≤n)(q:n<100):BZ [.l l,.l [[.i n]]]=some [.t (mR l n)]:=by
 have key:aa (BY [.l l,.l [[.i n]]]) fun g=>∃ v:Int,g=[.i v]∧(v<0→mR l n=false)∧(0≤v→mR l n=true):=by
  unfold BY
  (dsimp +instances only[Aa,Ab,Ac,Ad,Ae,Af,Ag])
  refine aa.loop (P:=fun c g=>(c=1∧g=[]∧mR l n=false)∨(c=0∧∃ v:Int,0≤v∧g=[.i v]∧mR l n=true)) ((pF (σ:=Unit) (fun _ i=>[.l l,.l [[.i n]],.i (l.length:Int),.i (i:Int)]) l (fun _=>(1,[])) (fun _ i=>mR (l.take i) n=false) (fun c g=>c=0∧∃ v:Int,0≤v∧g=[.i v]∧mR l n=true) () (by omega) (by simp[mR]) ?_ ?_).mono ?_) rfl ?_
  ·intro _ i z d hi A hm B
   unfold BX
   (dsimp +instances only[Aa,Ab,Ac,Ad,Ae,Af,Ag])
   refine aa.p (aa.p ?_);simp only[aR,A,(k z hm).eta];have F:BW [.l [z],.l [[.i n]]]=some [.t ((gi z 0).str.toList==(dp n).toList)]:=by
    refine aa.toEq ?_;unfold BW
    (dsimp +instances only[Aa,Ab,Ac,Ad,Ae,Af,Ag])
    refine aa.cE (SL h0 q) ?_;exact aa.some rfl
   refine aa.cE F ?_
   (dsimp +instances only[Aa,Ab,Ac,Ad,Ae,Af,Ag])
   refine aa.test (fun h1=>aa.some (.inr ⟨0,_,rfl,rfl,_,by omega,rfl,jE.2 ⟨z,hm,h1⟩⟩)) fun h1=>?_;refine aa.p (aa.some (.inl ⟨(),rfl,?_⟩));unfold mR at d⊢;rw[B,I',d];simp only[yu,I8,h1];rfl
  ·intro _ _
   unfold BX
   (dsimp +instances only[Aa,Ab,Ac,Ad,Ae,Af,Ag])
   exact aa.n (aa.some rfl)
  ·rintro c g (⟨_, h, rfl, rfl⟩ | h)
   ·exact .inl ⟨rfl,rfl,by rwa [oz]at h⟩
   ·exact .inr h
  ·rintro c g (⟨rfl, rfl, h⟩ | ⟨rfl, v, I, rfl, h⟩)
   ·exact aa.neg rfl (aa.some ⟨-1,rfl,fun _=>h,fun h=>by omega⟩)
   ·exact aa.pos rfl (aa.some ⟨v,rfl,fun h=>by omega,fun _=>h⟩)
 refine aa.toEq ?_;unfold BZ
 (dsimp +instances only[Aa,Ab,Ac,Ad,Ae,Af,Ag])
 refine aa.call key ?_;rintro _ ⟨v,rfl,h,h'⟩;refine aa.some ?_;show [G.t (bM 0 v)]=_
 by_cases e:0≤v
 ·rw[h' e,er,decide_eq_true e]
 ·rw[h (by omega),er,decide_eq_false e]
section
variable {nx:Int} {rows held lg:List (List G)}
def xZ(c:List G):Int:=(gi c 4).int
theorem ahn(hn:lg.length≤1000):fy xD [.i nx,.l [],.i 0,.l rows,.l held,.l lg,.i (lg.length:Int),.i 0] fun c g=>c=0∧∃(m:List (List G)) (ck:Nat),g=[.i nx,.l m,.i (ck:Int),.l rows,.l held]∧∀ k,lU m k=(lg.map xZ).contains k:=by
 refine(qZ (σ:=List (List G) × Nat) (fun s i=>[.i nx,.l s.1,.i (s.2:Int),.l rows,.l held,.l lg,.i (lg.length:Int),.i (i:Int)]) lg (fun s=>(0,[.i nx,.l s.1,.i (s.2:Int),.l rows,.l held])) (fun s i=>s=((lg.take i).map xZ).foldl uD ([],0)) ([],0) (by omega) rfl ?_ ?_).mono ?_
 ·rintro ⟨m, ck⟩ i z d hi q hm A
  unfold xD
  (dsimp +instances only[Aa,Ab,Ac,Ad,Ae,Af,Ag])
  simp only[aR,q];refine aa.p (aa.p (aa.p (aa.some ⟨uD (m,ck) (xZ z),rfl,?_⟩)));rw[A,j6,qe,←d];rfl
 ·rintro s _
  unfold xD
  (dsimp +instances only[Aa,Ab,Ac,Ad,Ae,Af,Ag])
  simp only[aR];exact aa.n (aa.some rfl)
 ·rintro c g ⟨⟨m, ck⟩, d, rfl, rfl⟩
  rw[oz]at d;refine⟨rfl,m,ck,rfl,fun k=>?_⟩;have:m=((lg.map xZ).foldl uD ([],0)).1:=congrArg Prod.fst d;rw[this,Sw];show (false||_)=_
  rw[jF]
theorem aho{m:List (List G)}{ck:Nat}(h1:1≤nx)(F:nx≤100)(q:∀ p∈held,uF p)(hn:held.length≤1000)(d:∀ n,1≤n→n<nx→lU m n=true∨mQ held n=true) :
  fy xE [.i nx,.l m,.i (ck:Int),.i 1,.l rows,.l held] fun c g=>c=1∧g=[.i nx,.l m,.i (ck:Int),.l rows]:=by
 obtain⟨k,rfl⟩:∃ k:Nat,nx=(k:Int)+1:=⟨(nx-1).toNat,by omega⟩
 refine((wM (σ:=Unit) (fun _ i=>[.i ((k:Int)+1),.l m,.i (ck:Int),.i ((i:Int)+1),.l rows,.l held]) k (fun _=>(1,[.i ((k:Int)+1),.l m,.i (ck:Int),.l rows])) (fun _ i=>True) (fun c g=>False) ?_ ?_ k () 0 (by omega) trivial).to (by omega)).mono ?_
 ·rintro _ i _ hi
  unfold xE
  (dsimp +instances only[Aa,Ab,Ac,Ad,Ae,Af,Ag])
  simp only[aR];refine aa.p ?_;show aa (bif !lU m ((i:Int)+1) then _ else _) _
  cases A:lU m ((i:Int)+1)with
  |true=>exact aa.neg rfl (aa.p (aa.some (.inl ⟨(),rfl,trivial⟩)))
  | false =>
   have B:=(d ((i:Int)+1) (by omega) (by omega)).elim (fun e=>by rw[A]at e; cases e) id;refine aa.pos rfl (aa.call (aa.eq (ahl q hn (by omega) (by omega))) ?_);rintro _ rfl
   (dsimp +instances only[Aa,Ab,Ac,Ad,Ae,Af,Ag])
   rw[B];exact aa.neg rfl (aa.p (aa.some (.inl ⟨(),rfl,trivial⟩)))
 ·rintro _ _
  unfold xE
  (dsimp +instances only[Aa,Ab,Ac,Ad,Ae,Af,Ag])
  simp only[aR];exact aa.n (aa.some rfl)
 ·rintro c g (⟨_, _, rfl, rfl⟩ | h)
  ·exact⟨rfl,rfl⟩
  ·exact h.elim
end
theorem ahp:Hp [.l [[.i 0],[.i 0],[.i 0]]]=some [.i 0]:=by kernel_rfl
def uG:ByteArray:=⟨#[122,122]⟩
def b_(n:Int):List G:=jy uG 1 600 3 0 0 (⟨#[]⟩:ByteArray) (⟨#[]⟩:ByteArray) n 0 (⟨#[]⟩:ByteArray) (⟨#[]⟩:ByteArray) (⟨#[]⟩:ByteArray) (⟨#[]⟩:ByteArray) 0
theorem Ix{n:Int}(h:small n):bq (b_ n):=by
 have d:small 0:=by unfold small; omega
 have g:small 1:=by unfold small; omega
 have k:small 600:=by unfold small; omega
 have q:small 3:=by unfold small; omega
 refine⟨_,_,_,_,_,_,_,_,_,_,_,_,_,_,_,rfl,?_,g,k,q,⟨d,d,?_,?_,h,d,?_,?_⟩,?_,?_,d⟩<;>simp[gM,calls,names,fJ,uG]
theorem ahq{n:Int}(h0:1≤n)(h1:n≤99999):iU (b_ n)=0:=by
 have d:jU uG=true:=by kernel_rfl
 have g:cz n 1 99999=true:=SH.2 ⟨h0,h1⟩;have k:aF aq (b_ n) (b_ n)=true:=agx _;unfold iU;show (bif !jU uG then (5:Int) else bif !cz n 1 99999 then 1 else bif !aF aq (b_ n) (b_ n) then 3 else 0)=0
 rw[d,g,k];rfl
def jB(z:List G):Prop:=iT z∧0≤(gi z 2).int∧(gi z 2).int≤100
theorem jB.site{z:List G}(h:jB z)(n:Int):dG z (b_ n)=false:=by
 obtain⟨⟨si,_,_,_,_,_,_,_,_,_,_,_,_,_,_,rfl,h,_⟩,_⟩:=h;have:(si.toList==uG.toList)=false:=by
  rw[pN];simp only[lQ,bI,iL,or_false]at h;rcases h with rfl|rfl|rfl|rfl<;>kernel_rfl
 show ((si.toList==uG.toList)&&_)=false
 rw[this];rfl
theorem jB.before{z:List G}(h:jB z)(n:Int):fm z (b_ n)<0:=by
 unfold fm;have e:(gi (b_ n) 2).int=600:=rfl;have:=h.2.2;rw[e,if_pos (by omega)];exact B5.2 (by omega)
theorem pW{α:Type}{l r:List α}{d:α}{i:Nat}(h:i<l.length):(l++r).getD i d=l.getD i d:=by
 rw[cH,cH,List.getElem?_append_left h]
theorem x2{α:Type}{l:List α}{x d:α}:(l++[x]).getD l.length d=x:=by
 rw[cH,List.getElem?_append_right (aI _)];simp
section
variable {rows:List (List G)} {n:Int} (hr:∀ z∈rows,jB z) (aL:gN rows) (h0:1≤n) (h1:n≤99999)
include hr aL h0 h1
theorem SM:gN (rows++[b_ n]):=by
 have g:(rows++[b_ n]).length=rows.length+1:=by simp
 obtain⟨⟨k,a2⟩,a3⟩:=aL;have hm:∀ j,j<rows.length→jB (rows.getD j []):=fun j d=>hr _ (nG d);refine⟨⟨fun j d=>?_,fun j d=>?_⟩,fun i hi j d=>?_⟩
 ·rw [g] at d
  by_cases e:j<rows.length
  ·rw [pW e]
   exact k j e
  ·have : j = rows.length := by omega
   subst this;rw[x2];exact ahq h0 h1
 ·rw [g] at d
  by_cases e:j+1<rows.length
  ·rw [pW e, pW (by omega)]
   exact a2 j e
  ·have : j + 1 = rows.length := by omega
   rw[this,x2,pW (by omega)];exact(hm j (by omega)).before n
 ·rw [g] at hi
  by_cases e:i<rows.length
  ·rw [pW e, pW (by omega)]
   exact a3 i e j d
  ·have : i = rows.length := by omega
   subst this;rw[x2,pW (by omega)];exact(hm j (by omega)).site n
end
theorem early{z:List G}(h:jB z):aB 500 (gi z 2).int=false∧aB 600 (gi z 2).int=false:=by
 have:=h.2.2;rw[dT,dT,decide_eq_false_iff_not,decide_eq_false_iff_not];omega
theorem Iy(n:Int):∀(rows:List (List G)) (i:Nat),(∀ z∈rows,jB z)→uA 600 (rows++[b_ n])=uA 500 rows∧cA 600 i (rows++[b_ n])=cA 500 i rows++[[.i ((i+rows.length:Nat):Int)]]
 | [],i,_=>⟨rfl,rfl⟩
 | x::l,i,h=>by
  obtain⟨b1,g⟩:=Iy n l (i+1) fun z k=>h z (cU _ k);obtain⟨q,A⟩:=early (h x cZ);have d:iV 600 x (l++[b_ n])=iV 500 x l:=by
   unfold iV;rw[b1,q,A]
  refine⟨?_,?_⟩
  ·rw[ob,H9,H9,d,b1]
  ·rw [ob]
   simp only[cA];rw[d,g];have B:i+1+l.length=i+(x::l).length:=by rw[di]; omega
   rw[B];cases iV 500 x l<;>rfl
section
variable {rows:List (List G)} {n:Int}
theorem SN{z:List G}(h:∃ j:Nat,z=[.i (j:Int)]∧j<rows.length):gu (rows++[b_ n]) z=gu rows z:=by
 obtain⟨j,rfl,d⟩:=h;show (rows++[b_ n]).getD j []=rows.getD j []
 exact pW d
theorem ahr(hr:∀ z∈rows,jB z):cK (rows++[b_ n]) 600=cK rows 500++[b_ n]:=by
 unfold cK;rw[(Iy n rows 0 hr).2,j6];congr 1
 ·exact om fun z d=>SN (ur 500 rows z d)
 ·show [(rows ++ [b_ n]).getD (0 + rows.length) []] = _
  rw[dO,x2]
theorem SO:∀(q:List (List G)) (s:List (List G) × List (List G)),uq rows q→q.foldl (lS (rows++[b_ n])) s=q.foldl (lS rows) s
 | [],_,_=>rfl
 | z::q,s,h=>by
  have e:lS (rows++[b_ n]) s z=lS rows s z:=by
   unfold lS;rw[SN (h z cZ)]
  rw[iJ,iJ,e];exact SO q _ fun x d=>h x (cU _ d)
theorem ahs(hr:∀ z∈rows,jB z):eD (rows++[b_ n]) 600=eD rows 500:=by
 unfold eD gP;rw[(Iy n rows 0 hr).2,qe,SO _ _ (ur 500 rows)];have e:gu (rows++[b_ n]) [.i ((0+rows.length:Nat):Int)]=b_ n:=by
  show (rows++[b_ n]).getD (0+rows.length) []=_
  rw[dO,x2]
 rw[iJ,List.foldl_nil];unfold lS;rw[e];rfl
end
theorem SP{k:List G}{n:Int}:∀ q:List (List G),iG k (q++[b_ n])=(iG k q||kR k (b_ n))
 | []=>by
  show ((kR k (b_ n)&&true)||false)=_
  simp[iG]
 | d::q=>by
  have e:jA k (b_ n)=false:=rfl;rw[ob];simp only[iG];rw[SP q,I',yu,I8,e,yk,yk,Bool.or_assoc]
theorem SQ{α:Type}{f:α→Int}{n:Int}{a:α}:∀{l:List α},l.Nodup→(∀ k∈l,f k=n→k=a)→(l.map f).count n≤1
 | [],_,_=>by simp
 | x::l,hn,h=>by
  obtain⟨h1,d⟩:=jG.1 hn;have g:=SQ d fun k hk=>h k (cU _ hk);by_cases e:f x=n
  ·have q := h x cZ e
   have h0:(l.map f).count n=0:=CD.2 fun hm=>by
    obtain⟨k,hk,A⟩:=bR.1 hm;have:=h k (cU _ hk) A;exact h1 (by rw[q,←this]; exact hk)
   rw[dA,aiX,h0];split<;>omega
  ·rw [dA, List.count_cons_of_ne (by simpa using e)]
   exact g
theorem SR{f:Int→Bool}:∀(k:Nat) (n:Int),gQ f k n=none→∀ y,n≤y→y<n+k→f y=false
 |0,n,_,y,a,b=>by omega
 | k+1,n,h,y,a,b=>by
  unfold gQ at h;cases e:f n with
  | true =>
   rw[e]at h;cases h
  | false =>
   rw[e]at h;by_cases q:y=n
   ·rw [q]
    exact e
   ·exact SR k (n+1) (by simpa using h) y (by omega) (by omega)
theorem aht{L:List Int}(h:L.length≤40):∃ y,1≤y∧y≤41∧L.contains y=false:=by
 refine uR fun hc=>?_;have d:((List.range 41).map fun i:Nat=>(i:Int)+1).Nodup:=p_.2 (List.nodup_range.imp fun {a b} g e=>g (by omega));have:=d.length_le_of_subset (l₂:=L) fun y k=>by
  obtain⟨i,hi,rfl⟩:=bR.1 k;have hi:=List.mem_range.1 hi;refine uR fun hm=>hc ⟨(i:Int)+1,by omega,by omega,?_⟩;cases e:L.contains ((i:Int)+1)with
  |false=>rfl
  |true=>exact absurd (kZ.1 e) hm
 rw[bF,List.length_range]at this;omega
theorem ahu(H lg:List (List G)):pV H lg (uE H lg):=by
 have g:∀ n,1<eK H lg n→n∈dS (lg.map aA)++H.map fZ:=fun n this=>by
  unfold eK at this;rw[bV];by_cases h1:0<(dS (lg.map aA)).count n
  ·exact .inl (oA.1 h1)
  ·exact .inr (oA.1 (by omega))
 have d:pV H lg (iI ((nY (dS (lg.map aA)++H.map fZ)).filter fun n=>decide (1<eK H lg n))):=⟨xV ((xY _).filter _),fun n=>by
  rw[(nX _).mem_iff,ga,decide_eq_true_eq,xX];exact⟨fun h=>h.2,fun h=>⟨g n h,h⟩⟩⟩
 rw[d.eq];exact d
section
variable {rows:List (List G)} (hr:∀ z∈rows,jB z) (hn:rows.length≤18)
include hr hn
theorem Iz:∀ z∈rows,bq z:=fun z d=>(hr z d).1.to
theorem ahv:∃ n,gQ (fun n => !((iH rows 500).contains n)) 99999 1=some n∧1≤n∧n≤41∧(iH rows 500).contains n=false∧∀ y,1≤y→y<n→(iH rows 500).contains y=true:=by
 have B:=Iz hr hn;have q:∀ z∈cK rows 500,bq z:=fun z F=>B z (mP F);have M:=rT q;have N:=uw rows 500;have O:=xO rows 500;have A:(fC (bu (cK rows 500))).length=(bu (cK rows 500)).length:=rf _ _;have hlen:(iH rows 500).length≤40:=by
  unfold iH;rw[fD,bF,bF,bF,A];omega
 obtain⟨y,g,R,k⟩:=aht hlen;cases e:gQ (fun n => !((iH rows 500).contains n)) 99999 1 with
 | none =>
  have:=SR _ _ e y g (by omega);simp only[k]at this;cases this
 | some n =>
  obtain⟨a,b,c,d⟩:=Sj _ _ e;refine⟨n,rfl,a,?_,by simpa using c,fun y I J=>by simpa using d y I J⟩;refine uR fun hc=>?_;have:=d y g (by omega);simp only[k]at this;cases this
theorem ahw{n:Int}(aL:gN rows)(h1:1≤n)(h2:n≤41)(N:(iH rows 500).contains n=false) :
  mR (rU (bu (cK (rows++[b_ n]) 600)) (eD (rows++[b_ n]) 600)) n=false:=by
 have O:=Iz hr hn;have hy:∀ z∈rows++[b_ n],bq z:=fun z g=>by
  rcases bV.1 g with g|g
  ·exact O z g
  ·rw [gA] at g
   rw[g];exact Ix (by unfold small; omega)
 have R:=SM hr aL h1 (by omega:n≤99999);have F:∀ z∈cK (rows++[b_ n]) 600,bq z:=fun z g=>hy z (mP g);have W:∀ z∈cK rows 500,bq z:=fun z g=>O z (mP g);have M:n∉iH rows 500:=fun hm=>by
  rw[kZ.2 hm]at N;cases N
 have J:=rS F;have hcn:eK (bu (cK (rows++[b_ n]) 600)) (eD (rows++[b_ n]) 600) n≤1:=by
  unfold eK;have c1:(dS ((eD (rows++[b_ n]) 600).map aA)).count n=0:=by
   rw[ahs hr];refine CD.2 fun hm=>M ?_;unfold iH;unfold dS at hm;exact uP _ (ga.1 hm).1
  have c2:((bu (cK (rows++[b_ n]) 600)).map fZ).count n≤1:=by
   refine SQ (a:=fY (b_ n)) (uC _ [] F (by simp) (by simp)).1 fun k hk e=>?_;have B:=J k hk;have A:=((uB B _ [] F (by simp)).1 hk).elim (fun h=>by cases h) id;rw[ahr hr,SP,lW]at A;rcases A with A|A
   ·refine absurd ?_ M
    have Y:k∈bu (cK rows 500):=(uB B _ [] W (by simp)).2 (.inr A);have U:k∈fC (bu (cK rows 500)):=(mI (lt:=bN jY) _).mem_iff.2 Y;unfold iH;exact List.mem_append_right _ (bR.2 ⟨k,U,e⟩)
   ·unfold kR nW at A
    rw[aw,nV B (Ix (by unfold small; omega)).own]at A;exact A.2
  omega
 refine I_.2 fun p hp=>?_;obtain⟨m,hm,rfl⟩:=bR.1 hp;have I:=((ahu _ _).2 m).1 hm;have hm0:0≤m:=by
  unfold eK at I;by_cases q:0<(dS ((eD (rows++[b_ n]) 600).map aA)).count m
  ·have := oA.1 q
   unfold dS at this;have:=(ga.1 this).2;rw[decide_eq_true_eq]at this;omega
  ·have := oA.1 (show 0 < ((bu (cK (rows ++ [b_ n]) 600)).map fZ).count m by omega)
   obtain⟨k,hk,rfl⟩:=bR.1 this;have B:=J k hk;have A:=((uB B _ [] F (by simp)).1 hk).elim (fun h=>by cases h) id;obtain⟨d,hd',hd3,rfl⟩:=SI B F A;have:1≤h_ d:=ahg (ahf R d (mP hd')) hd3;show 0≤h_ d
   omega
 show ¬((dp m).toList==(dp n).toList)=true
 intro e;have:=ahi hm0 (by omega) (beq_iff_eq.1 e);rw[this]at I;exact absurd I (by omega)
end
theorem ahx(l:List (List G))(a0 n:Int)(J:0≤a0)(M:a0≤500000)(h0:0≤n)(h1:n≤18) :
  aa (Bo [.l l,.i a0,.i n]) fun g=>∃ b rows,g=[.l l,.i b,.l rows]∧(∀ z∈rows,jB z)∧rows.length≤18∧gN rows:=by
 unfold Bo
 (dsimp +instances only[Aa,Ab,Ac,Ad,Ae,Af,Ag])
 refine aa.loop (P:=fun c g=>(c=1∧∃ b:Int,g=[.l l,.i b])∨(c=0∧∃(b:Int) (rows:List (List G)),g=[.l l,.i b,.l rows]∧(∀ z∈rows,jB z)∧rows.length≤18∧gN rows))
  (((wM (σ:=Int) (fun a i=>[.l l,.i a,.i n,.i (i:Int)]) 5 (fun a=>(1,[.l l,.i a])) (fun a i=>0≤a∧a≤a0+2000*(i:Int)) (fun c g=>c=0∧∃(b:Int) (rows:List (List G)),g=[.l l,.i b,.l rows]∧(∀ z∈rows,jB z)∧rows.length≤18∧gN rows) ?_ ?_ 5 a0 0 (by omega) (by omega)).to (by omega)).mono ?_) rfl ?_
 ·rintro a i ⟨k, A⟩ hi
  unfold Bn
  (dsimp +instances only[Aa,Ab,Ac,Ad,Ae,Af,Ag])
  refine aa.p ?_;refine aa.call (af3 l a n k (by omega) h0 (by omega)) ?_;rintro _ ⟨b,rows,rfl,N,O,d,q⟩
  (dsimp +instances only[Aa,Ab,Ac,Ad,Ae,Af,Ag])
  refine aa.call (agm rows (fun z B=>(d z B).1.to) (by omega)) ?_;rintro _ ⟨v,rfl,F⟩
  (dsimp +instances only[Aa,Ab,Ac,Ad,Ae,Af,Ag])
  refine aa.test (fun e=>aa.some (.inr ⟨0,_,rfl,rfl,b,rows,rfl,d,by omega,F (by simpa using e)⟩)) fun _=>?_;exact aa.p (aa.some (.inl ⟨b,rfl,by omega,by omega⟩))
 ·intro a _
  unfold Bn
  (dsimp +instances only[Aa,Ab,Ac,Ad,Ae,Af,Ag])
  exact aa.n (aa.some rfl)
 ·rintro c g (⟨a, ⟨k, A⟩, rfl, rfl⟩ | h)
  ·exact .inl ⟨rfl,a,rfl⟩
  ·exact .inr h
 ·rintro c g (⟨rfl, b, rfl⟩ | ⟨rfl, b, rows, rfl, d, q, I⟩)
  ·exact aa.neg rfl (aa.some ⟨b,[],rfl,by simp,by simp,gN.nil⟩)
  ·exact aa.pos rfl (aa.some ⟨b,rows,rfl,d,q,I⟩)
theorem ahy(a:List (List G))(h:a.length≤1048576):ua [.l a]=some [.l a]:=by
 refine aa.toEq ?_;unfold ua
 (dsimp +instances only[Aa,Ab,Ac,Ad,Ae,Af,Ag])
 cases a with
 |nil=>exact aa.neg rfl (aa.some rfl)
 | cons x a =>
  refine aa.pos rfl ?_;unfold Hr
  (dsimp +instances only[Aa,Ab,Ac,Ad,Ae,Af,Ag])
  exact aa.pos rfl (aa.pos (by rw[decide_eq_true_eq]; exact h) (aa.pos (by simp) (aa.some rfl)))
theorem ahz(l:List (List G)):HT [.l l]=some [.t true]:=by
 refine aa.toEq ?_;unfold HT
 (dsimp +instances only[Aa,Ab,Ac,Ad,Ae,Af,Ag])
 refine aa.call (xF l 0 0 18 (by omega) (by omega) (by omega) (by omega) (by omega)) ?_;rintro _ ⟨n0,rfl,R,U⟩
 (dsimp +instances only[Aa,Ab,Ac,Ad,Ae,Af,Ag])
 refine aa.call (ahx l (0+1) n0 (by omega) (by omega) R U) ?_;rintro _ ⟨p1,rows,rfl,hr,hn,aL⟩
 (dsimp +instances only[Aa,Ab,Ac,Ad,Ae,Af,Ag])
 have q:=Iz hr hn;have B:rows.length≤20:=by omega
 have W:∀ z∈cK rows 500,bq z:=fun z d=>q z (mP d);have hfn:=uw rows 500;have hll:=xO rows 500;have hbl:=rT W;have hsl:(fC (bu (cK rows 500))).length=(bu (cK rows 500)).length:=rf _ _;have A:gO rows 500=0:=by
  unfold gO;rw[aL.kP];rfl
 obtain⟨n,Y,h1,h2,F,N⟩:=ahv hr hn;have hN:xl [.l rows,.i 500]=some [.i n,.i 0]:=by
  rw[ag1 rows 500 q B,A,Y];rfl
 have hL:xm [.l rows,.i 500]=some [.l ((eD rows 500).map aA),.l (Ii rows 500),.i 0]:=by
  rw[agH rows 500 q B,A];rfl
 have hH:xp [.l rows,.i 500]=some [.l ((fC (bu (cK rows 500))).map pT),.i 0]:=by
  rw[ag2 rows 500 q B,A];rfl
 refine aa.cE hN ?_;refine aa.cE hL ?_;refine aa.cE hH ?_
 (dsimp +instances only[Aa,Ab,Ac,Ad,Ae,Af,Ag])
 refine aa.cE ahp ?_;refine aa.neg rfl ?_;refine aa.loop (ahn (by rw[bF]; omega)) rfl ?_;rintro c g ⟨rfl,m,ck,rfl,hm⟩
 (dsimp +instances only[Aa,Ab,Ac,Ad,Ae,Af,Ag])
 simp only[aR];have hPr:∀ p∈(fC (bu (cK rows 500))).map pT,uF p:=fun p I=>by
  obtain⟨r,_,rfl⟩:=bR.1 I;exact⟨_,_,rfl⟩
 refine aa.loop (aho h1 (by omega) hPr (by rw[bF]; omega) fun k k1 k2=>?_) rfl ?_
 ·have := kZ.1 (N k k1 k2)
  unfold iH at this;rcases bV.1 this with h|h
  ·exact .inl (by rw[hm]; exact kZ.2 h)
  ·obtain ⟨r, hr', rfl⟩ := bR.1 h
   exact .inr (jE.2 ⟨pT r,CA hr',beq_self_eq_true _⟩)
 rintro c g ⟨rfl,rfl⟩
 (dsimp +instances only[Aa,Ab,Ac,Ad,Ae,Af,Ag])
 refine aa.neg rfl (aa.call (aa.eq (ahy rows (by omega))) ?_);rintro _ rfl
 (dsimp +instances only[Aa,Ab,Ac,Ad,Ae,Af,Ag])
 refine aa.pos (by simp; omega) (aa.pos (by simp) ?_);have J:∀ z∈rows++[b_ n],bq z:=fun z d=>by
  rcases bV.1 d with d|d
  ·exact q z d
  ·rw [gA] at d
   rw[d];exact Ix (by unfold small; omega)
 have hyl:(rows++[b_ n]).length≤20:=by simp; omega
 have M:gO (rows++[b_ n]) 600=0:=by
  unfold gO;rw[(SM hr aL h1 (by omega)).kP];rfl
 have hC:xC [.l (rows++[b_ n]),.i 600]=some [.l (rU (bu (cK (rows++[b_ n]) 600)) (eD (rows++[b_ n]) 600)),.i 0]:=by
  rw[ahe _ 600 J hyl,M];rfl
 refine aa.cE hC ?_
 (dsimp +instances only[Aa,Ab,Ac,Ad,Ae,Af,Ag])
 refine aa.pos rfl ?_;have O:lU m n=false:=by
  rw[hm];cases e:((((eD rows 500).map aA).map xZ).contains n)with
  |false=>rfl
  | true =>
   have:n∈iH rows 500:=uP _ (kZ.1 e);rw[kZ.2 this]at F;cases F
 show aa (bif !lU m n then _ else _) _
 rw[O];refine aa.pos rfl ?_;have hkl:(rU (bu (cK (rows++[b_ n]) 600)) (eD (rows++[b_ n]) 600)).length≤1000:=by
  unfold rU;rw[bF];have a1:=ahh (bu (cK (rows++[b_ n]) 600)) (eD (rows++[b_ n]) 600);have a2:=rT (l:=cK (rows++[b_ n]) 600) fun z d=>J z (mP d);have a3:=uw (rows++[b_ n]) 600;have a4:=xO (rows++[b_ n]) 600;omega
 refine aa.call (aa.eq (ahm (fun p I=>by
  obtain⟨m,_,rfl⟩:=bR.1 I;exact⟨_,_,rfl⟩) hkl (by omega) (by omega))) ?_
 rintro _ rfl
 (dsimp +instances only[Aa,Ab,Ac,Ad,Ae,Af,Ag])
 rw[ahw hr hn aL h1 h2 F];refine aa.pos rfl (aa.call (aa.eq (rfl:Bb []=some [.t true])) ?_);rintro _ rfl;exact aa.some rfl
end
end Go.Proofs.gq
