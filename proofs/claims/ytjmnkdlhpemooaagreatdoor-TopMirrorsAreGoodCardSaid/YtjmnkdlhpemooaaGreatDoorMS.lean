/-
 What is proved here: the finder joins logs,looks for what can be meant,and tells what is found of one contact: always something,and what it is. No condition but what the texts say.
-/
import Derived.Test.YtjmnkdlhpemooaaGreatDoorMF
set_option linter.all false
open Bool renaming and_eq_true→ax,true_and→jW,or_eq_true→tu,false_or→qw,eq_iff_iff→lx,false_and→HB,or_false→tC
open Go.ByteArray renaming toList_eq→qC
open Go.Lib renaming compareBytes→eu
open Go.Op renaming bytesLess→lr
open Int renaming toNat_natCast→bD,natCast_succ→A5
open List renaming length_cons→cr,append_nil→db,getElem?_append_left→cK,length_map→cN,mem_map→cV,getElem?_map→bT,getElem_of_mem→ma,getElem?_eq_getElem→bt,getElem?_append_right→hZ,all_eq_true→dq,getD_eq_getElem?_getD→bG,mem_cons→bR,map_cons→dg,length_take→jA,length_append→dY,map_map→lu,nil_append→jV,all_cons→kI,mem_cons_self→cO,mem_cons_of_mem→c9,map_append→jX,nodup_cons→kK,range'→nq,range'_succ→wP,range→dP,any_eq_true→ia,mem_range→fF,mem_singleton→tv,length_nil→mr,getElem_mem→ly,mem_filter→mu,pairwise_map→oZ,pairwise_iff_getElem→A1,pairwise_cons→qB,Nodup→A6,length_singleton→qD,any_eq_false→Sq,filter_map→ahg,mergeSort_perm→Sr,le_trans→ahh,le_total→ahi,pairwise_mergeSort→Ss,getElem?_take_of_lt→Su
open List.Perm renaming refl→nu
open List.cons renaming injEq→AM
open Nat renaming le_refl→aD,lt_or_ge→jy,zero_add→cW,blt→er,beq_refl→mq,lt_trichotomy→HH,le_of_not_lt→ahf
open Option renaming map_some→dO,getD_some→ga
open UInt8 renaming le_antisymm→A3,not_lt→nw
namespace Go.Proofs.gY
open Go Go.AL Go.Proofs
noncomputable section
structure lq (L:List (List G)) (C:Nat→ByteArray) (A:Nat→List (List G)):Prop where
 get:∀ i,i<L.length→L.getD i []=[.s (C i),.l (A i)]
 n:L.length≤40
 qm:∀ i,i<L.length→∀ z∈A i,fO z∧(gi z 3).str.size≤100
 na:∀ i,i<L.length→(A i).length≤40
 cs:∀ i,i<L.length→(C i).size≤100
 l_:∀ i j,i<j→j<L.length→cX (C i) (C j)<0
theorem ae_:((dP 80).all fun n=>dW .u64 (IntKind.u64.wrap ((n:Nat):Int)) 1==((n / 2:Nat):Int))=true:=by kernel_rfl
theorem ae'(i j:Nat)(h:i+j<80):dW .u64 (IntKind.u64.wrap ((i:Int)+(j:Int))) 1=(((i+j) / 2:Nat):Int):=by
 have:=dq.1 ae_ (i+j) (fF.2 h);rw[beq_iff_eq]at this;rw[←this];congr 2
section
variable {L:List (List G)} {C:Nat→ByteArray} {A:Nat→List (List G)} (S:lq L C A)
include S
theorem lq.two{i k:Nat}(hi:i<L.length)(hk:k<L.length):gN (A i) (A k) :=
 ⟨fun z d=>(S.qm i hi z d).1,fun z d=>(S.qm k hk z d).1,by have:=S.na i hi; omega,by have:=S.na k hk; omega⟩
theorem lq.mem{i j:Nat}(hi:i<L.length)(d:j<(A i).length):fO ((A i).getD j [])∧(gi ((A i).getD j []) 3).str.size≤100 :=
 S.qm i hi _ (by rw[bG,bt d]; exact ly d)
theorem lq.key{i:Nat}(hi:i<L.length):(gi (L.getD i []) 0).str=C i:=by rw[S.get i hi]; rfl
theorem G1(s:ByteArray):∀(m i j:Nat),j≤i+m→i≤j→j≤L.length→(∀ t,t<i→cX (C t) s<0)→(∀ t,j≤t→t<L.length→¬ cX (C t) s<0) →
  aZ sE [.l L,.s s,.i (L.length:Int),.i (i:Int),.i (j:Int)] (m+1) fun x g=>x=0∧∃ p:Nat,g=[.l L,.s s,.i (L.length:Int),.i (p:Int)]∧p≤L.length∧(∀ t,t<p→cX (C t) s<0)∧(∀ t,p≤t→t<L.length→¬ cX (C t) s<0)
 | m,i,j,hm,M,u,h1,v=>by
  have N:=S.n;by_cases he:i=j
  ·subst he
   refine aZ.stop (x:=0) (aa.toEq ?_) ⟨rfl,i,rfl,u,h1,v⟩;unfold sE
   (dsimp +instances only[Aa,Ab,Ac,Ad,Ae,Af,Ag])
   exact aa.n (aa.some rfl)
  ·obtain ⟨m', rfl⟩ : ∃ m', m = m' + 1 := ⟨m - 1, by omega⟩
   have I:=ae' i j (by omega);have q:(i+j) / 2<L.length:=by omega
   have y:=S.get _ q;have step:∀ o,(bif ao (cX (C ((i+j) / 2)) s) 0 then some ((none:Option Nat),[G.l L,.s s,.i (L.length:Int),.i (((i+j) / 2+1:Nat):Int),.i (j:Int)]) else some (none,[.l L,.s s,.i (L.length:Int),.i (i:Int),.i (((i+j) / 2:Nat):Int)]))=some o →
     sE [.l L,.s s,.i (L.length:Int),.i (i:Int),.i (j:Int)]=some o:=fun o ho=>by
    refine aa.toEq ?_;unfold sE
    (dsimp +instances only[Aa,Ab,Ac,Ad,Ae,Af,Ag])
    simp only[I,bD,y];refine aa.p (aa.p (aa.p (aa.p ?_)));refine aa.call (P:=fun g=>g=[.i (cX (C ((i+j) / 2)) s)]) (aa.eq rfl) ?_;rintro _ rfl
    (dsimp +instances only[Aa,Ab,Ac,Ad,Ae,Af,Ag])
    refine aa.test (fun h=>?_) fun h=>?_
    ·rw [h, cond_true] at ho
     refine aa.p (aa.some ?_);cases ho;rfl
    ·rw [h, cond_false] at ho
     refine aa.some ?_;cases ho;rfl
   by_cases d:cX (C ((i+j) / 2)) s<0
   ·refine aZ.next (step _ (by rw [eW, decide_eq_true d]; rfl)) (G1 s m' _ j (by omega) (by omega) u (fun t J => ?_) v)
    rcases jy t ((i+j) / 2)with h|h
    ·exact qj.tr _ _ _ (S.l_ t _ h q) d
    ·rw [show t = (i + j) / 2 by omega]
     exact d
   ·refine aZ.next (step _ (by rw [eW, decide_eq_false d]; rfl)) (G1 s m' i _ (by omega) (by omega) (by omega) h1 (fun t J B k => ?_))
    rcases jy ((i+j) / 2) t with h|h
    ·exact d (qj.tr _ _ _ (S.l_ _ t h B) k)
    ·rw [show t = (i + j) / 2 by omega] at k
     exact d k
theorem Q4(s:ByteArray):aa (vJ [.l L,.s s]) fun g=>∃(p:Nat) (b:Bool),g=[.i (p:Int),.t b]∧(b=true→p<L.length∧C p=s)∧(b=false→∀ k,k<L.length→C k≠s):=by
 have I:=S.n;unfold vJ
 (dsimp +instances only[Aa,Ab,Ac,Ad,Ae,Af,Ag])
 refine aa.call (P:=fun g=>∃(p:Nat) (b:Bool),g=[.i (p:Int),.t b]∧(b=true→p<L.length∧C p=s)∧(b=false→∀ k,k<L.length→C k≠s)) ?_ ?_
 ·unfold Fy
  (dsimp +instances only[Aa,Ab,Ac,Ad,Ae,Af,Ag])
  refine aa.loop ((G1 S s L.length 0 L.length (by omega) (by omega) (aD _) (fun t v=>by omega) (fun t h1 d=>by omega)).to (by omega)) rfl ?_;rintro _ _ ⟨rfl,p,rfl,J,y,B⟩
  (dsimp +instances only[Aa,Ab,Ac,Ad,Ae,Af,Ag])
  have q:∀ t,t<L.length→C t=s→t=p:=fun t v e=>by
   have h0:cX (C t) s=0:=kA.2 e;have h1:p≤t:=ahf fun h=>by have:=y t h; omega
   refine Nat.le_antisymm (ahf fun h=>?_) h1;have d:=S.l_ p t h v;rw[e]at d;exact B p (aD _) (by omega) d
  refine aa.test (fun h=>?_) fun h=>?_
  ·simp only [eW, decide_eq_true_eq] at h
   have u:p<L.length:=by omega
   simp only[bD,S.get p u];refine aa.p ?_;refine aa.call (P:=fun g=>g=[.i (cX (C p) s)]) (aa.eq rfl) ?_;rintro _ rfl;refine aa.some ⟨p,_,rfl,fun hb=>⟨u,?_⟩,fun hb k hk e=>?_⟩
   ·have hb : (cX (C p) s == 0) = true := hb
    rw[beq_iff_eq]at hb;exact kA.1 hb
   ·have := q k hk e
    subst this;have hb:(cX (C k) s==0)=false:=hb;rw[kA.2 e]at hb;cases hb
  ·simp only [eW, decide_eq_false_iff_not] at h
   exact aa.some ⟨p,false,rfl,fun hb=>(by cases hb),fun _ k hk e=>by have:=q k hk e; omega⟩
 ·rintro _ ⟨p, b, rfl, h⟩
  exact aa.some ⟨p,b,rfl,h⟩
end
def br(A:Nat→List (List G))(C:Nat→ByteArray)(own:Nat)(off:Int)(k:Nat):List (List G):=iZ (A own) (A k) (C own) (C k) off
def jv(k:Nat)(ks:List Nat):List Nat:=match fR k ks with
 |some _=>ks
 |none=>ks++[k]
theorem Q5(k:Nat)(ks:List Nat):∃ n,fR k (jv k ks)=some n:=by
 unfold jv;cases h:fR k ks with
 |some n=>exact⟨n,h⟩
 |none=>exact⟨_,GV (GU.1 h)⟩
theorem Q6{L R1 R2 M T:List (List G)}{own off k:Int}{c1 c2:Nat}(h1:fJ [.int .i64] R1 [.i k]=some M.length)(d:fJ [.int .i64] R2 [.i k]=some T.length):∀(q p:List (List G)),p.length+q.length≤100000 →
  aZ vS [.l L,.i own,.i off,.l R1,.l (M++[l9 (gn s9 p ([],0))]),.i (c1:Int),.l R2,.l (T++[l9 (gn QW p ([],0))]),.i (c2:Int),.i k,.l (p++q),.i ((p.length+q.length:Nat):Int),.i (p.length:Int)] (q.length+1) fun x g =>
   x=0∧g=[.l L,.i own,.i off,.l R1,.l (M++[dI (p++q)]),.i (c1:Int),.l R2,.l (T++[dJ (p++q)]),.i (c2:Int)]
 | [],p,h=>by
  refine aZ.stop (x:=0) (aa.toEq ?_) ⟨rfl,rfl⟩;unfold vS
  (dsimp +instances only[Aa,Ab,Ac,Ad,Ae,Af,Ag])
  refine aa.n (aa.some ?_);rw[db];rfl
 | r::q,p,h=>by
  simp only[cr]at h;have u:=Q6 (L:=L) (own:=own) (off:=off) (c1:=c1) (c2:=c2) h1 d q (p++[r]) (by simp; omega);have g1:(p++r::q).getD (p.length:Int).toNat []=r:=lg _ _ _ _ _ (by simp);rw[bD]at g1;have hlen:(p++r::q).length=p.length+q.length+1:=by simp; omega
  have v:(p++[r])++q=p++r::q:=by simp
  have y:(((p++[r]).length+q.length:Nat):Int)=((p.length+(r::q).length:Nat):Int):=by simp; omega
  have B:(((p++[r]).length:Nat):Int)=(p.length:Int)+1:=by simp
  rw[v,y,B]at u;refine aZ.next (aa.toEq ?_) u
  unfold vS
  (dsimp +instances only[Aa,Ab,Ac,Ad,Ae,Af,Ag])
  simp only[g1,hlen,cr,bD,h1,d];refine aa.p (aa.p (aa.pos rfl (aa.pos (QZ _ _) (aa.pos rfl (aa.pos (QZ _ _) (aa.p (aa.some ?_)))))));rw[QY,QY,QX,QX];rfl
section
variable {L:List (List G)} {C:Nat→ByteArray} {A:Nat→List (List G)} (S:lq L C A) {own:Nat} (ho:own<L.length) (off:Int)
include S ho
theorem Q7{k:Nat}(hk:k<L.length)(ks:List Nat):vT [G.l L,.i (own:Int),.i off,.l (bh 0 ks),.l (ks.map fun k=>dI (br A C own off k)),.i ((ks.length:Nat):Int),.l (bh 0 ks),.l (ks.map fun k=>dJ (br A C own off k)),.i ((ks.length:Nat):Int),.i (k:Int)]=some [G.l L,.i (own:Int),.i off,.l (bh 0 (jv k ks)),.l ((jv k ks).map fun k=>dI (br A C own off k)),.i (((jv k ks).length:Nat):Int),.l (bh 0 (jv k ks)),.l ((jv k ks).map fun k=>dJ (br A C own off k)),.i (((jv k ks).length:Nat):Int)]:=by
 refine aa.toEq ?_;unfold vT
 (dsimp +instances only[Aa,Ab,Ac,Ad,Ae,Af,Ag])
 simp only[AB,ae3,bD];unfold jv;cases h:fR k ks with
 |some n=>exact aa.pos rfl (aa.some rfl)
 | none =>
  have d:=ae4 k ks;have q:=ae5 k ks;unfold s8 at d q;refine aa.pos rfl (aa.neg rfl (aa.pos rfl (aa.pos d (aa.pos rfl (aa.pos d (aa.p (aa.p ?_)))))));simp only[S.get own ho,S.get k hk];refine aa.cE (aeZ (S.two ho hk) (C own) (C k) off) ?_
  (dsimp +instances only[Aa,Ab,Ac,Ad,Ae,Af,Ag])
  simp only[cN];rw[q];have hb:=ae1 (S.two ho hk) (C own) (C k) off;have u:=S.na own ho;have hg:fJ [.int .i64] (bh 0 (ks++[k])) [.i (k:Int)]=some ks.length:=by rw[AB]; exact GV (GU.1 h)
  have hr:=Q6 (L:=L) (own:=(own:Int)) (off:=off) (k:=(k:Int)) (R1:=bh 0 (ks++[k])) (R2:=bh 0 (ks++[k])) (M:=ks.map fun k=>dI (br A C own off k)) (T:=ks.map fun k=>dJ (br A C own off k)) (c1:=ks.length+1) (c2:=ks.length+1)
   (by rw[cN]; exact hg) (by rw[cN]; exact hg) (br A C own off k) [] (by unfold br; simp; omega)
  simp only[jV,mr,cW]at hr;refine aa.loop (hr.to (by unfold br; omega)) rfl ?_;rintro _ _ ⟨rfl,rfl⟩
  (dsimp +instances only[Aa,Ab,Ac,Ad,Ae,Af,Ag])
  refine aa.some ?_;simp only[bD,jX,dg,List.map_nil,dY,qD]
def wh(x y:List G):Bool:=(gi x 4).int==(gi y 5).int&&(gi x 6).str.toList==(gi y 7).str.toList
omit S ho in
theorem Q8(x y:List G):vU [.l [x],.l [y]]=some [.t (wh x y)]:=by
 refine aa.toEq ?_;unfold vU wh
 (dsimp +instances only[Aa,Ab,Ac,Ad,Ae,Af,Ag])
 refine aa.test (fun h=>aa.some ?_) fun h=>aa.some ?_<;>rw[h]<;>rfl
theorem Q9{k:Nat}(hk:k<L.length){t m s h:Int}{b c x y:ByteArray}(u:fO [.i t,.i m,.s b,.s c,.i s,.i h,.s x,.s y]){ks:List Nat}{n:Nat}(q:fR k ks=some n):∀(d i:Nat),i+d=(A k).length →
  aZ sP [G.l L,.i (own:Int),.i off,.l (bh 0 ks),.l (ks.map fun k=>dI (br A C own off k)),.i ((ks.length:Nat):Int),.l (bh 0 ks),.l (ks.map fun k=>dJ (br A C own off k)),.i ((ks.length:Nat):Int),.i t,.i m,.s b,.s c,.i s,.i h,.s x,.s y,.i (k:Int),.l (A k),.i ((A k).length:Int),.i (i:Int)] (d+1) fun e g =>
   (e=0∧∃ v:Nat,v<(A k).length∧g=[G.l L,.i (own:Int),.i off,.l (bh 0 ks),.l (ks.map fun k=>dI (br A C own off k)),.i ((ks.length:Nat):Int),.l (bh 0 ks),.l (ks.map fun k=>dJ (br A C own off k)),.i ((ks.length:Nat):Int),.i (v:Int)])∨e=1∧g=[G.l L,.i (own:Int),.i off,.l (bh 0 ks),.l (ks.map fun k=>dI (br A C own off k)),.i ((ks.length:Nat):Int),.l (bh 0 ks),.l (ks.map fun k=>dJ (br A C own off k)),.i ((ks.length:Nat):Int)]
 | 0,i,hi=>by
  refine aZ.stop (x:=1) (aa.toEq ?_) (.inr ⟨rfl,rfl⟩);unfold sP
  (dsimp +instances only[Aa,Ab,Ac,Ad,Ae,Af,Ag])
  refine aa.n (aa.some ?_);simp only[bD]
 | d+1,i,hi=>by
  have N:=S.na k hk;have M:=Q9 hk u q d (i+1) (by omega);obtain⟨B,O⟩:=S.mem (i:=k) (j:=i) hk (by omega);have step:aa (sP [G.l L,.i (own:Int),.i off,.l (bh 0 ks),.l (ks.map fun k=>dI (br A C own off k)),.i ((ks.length:Nat):Int),.l (bh 0 ks),.l (ks.map fun k=>dJ (br A C own off k)),.i ((ks.length:Nat):Int),.i t,.i m,.s b,.s c,.i s,.i h,.s x,.s y,.i (k:Int),.l (A k),.i ((A k).length:Int),.i (i:Int)]) fun o =>
    o=(some 0,[G.l L,.i (own:Int),.i off,.l (bh 0 ks),.l (ks.map fun k=>dI (br A C own off k)),.i ((ks.length:Nat):Int),.l (bh 0 ks),.l (ks.map fun k=>dJ (br A C own off k)),.i ((ks.length:Nat):Int),.i (i:Int)])∨o=(none,[G.l L,.i (own:Int),.i off,.l (bh 0 ks),.l (ks.map fun k=>dI (br A C own off k)),.i ((ks.length:Nat):Int),.l (bh 0 ks),.l (ks.map fun k=>dJ (br A C own off k)),.i ((ks.length:Nat):Int),.i t,.i m,.s b,.s c,.i s,.i h,.s x,.s y,.i (k:Int),.l (A k),.i ((A k).length:Int),.i ((i:Int)+1)]):=by
   unfold sP
   (dsimp +instances only[Aa,Ab,Ac,Ad,Ae,Af,Ag])
   have I:=(AA q).1;have J:kZ (ks.map fun k=>dJ (br A C own off k)) (some n)=true:=by
    show er n (ks.map fun k=>dJ (br A C own off k)).length=true
    rw[cN];simpa using I
   simp only[bD,AB,q,B.1];refine aa.p (aa.p (aa.p ?_));have out:aa (bif au ((i:Int)+1) then some ((none:Option Nat),[G.l L,.i (own:Int),.i off,.l (bh 0 ks),.l (ks.map fun k=>dI (br A C own off k)),.i ((ks.length:Nat):Int),.l (bh 0 ks),.l (ks.map fun k=>dJ (br A C own off k)),.i ((ks.length:Nat):Int),.i t,.i m,.s b,.s c,.i s,.i h,.s x,.s y,.i (k:Int),.l (A k),.i ((A k).length:Int),.i ((i:Int)+1)]) else none) fun o =>
    o=(some 0,[G.l L,.i (own:Int),.i off,.l (bh 0 ks),.l (ks.map fun k=>dI (br A C own off k)),.i ((ks.length:Nat):Int),.l (bh 0 ks),.l (ks.map fun k=>dJ (br A C own off k)),.i ((ks.length:Nat):Int),.i (i:Int)])∨o=(none,[G.l L,.i (own:Int),.i off,.l (bh 0 ks),.l (ks.map fun k=>dI (br A C own off k)),.i ((ks.length:Nat):Int),.l (bh 0 ks),.l (ks.map fun k=>dJ (br A C own off k)),.i ((ks.length:Nat):Int),.i t,.i m,.s b,.s c,.i s,.i h,.s x,.s y,.i (k:Int),.l (A k),.i ((A k).length:Int),.i ((i:Int)+1)]):=aa.p (aa.some (.inr rfl))
   refine aa.test (fun _=>?_) fun _=>out;refine aa.cE (GB off u B) ?_;refine aa.test (fun _=>?_) fun _=>out;refine aa.pos rfl (aa.pos J (aa.test (fun _=>?_) fun _=>out));refine aa.cE (Q8 _ _) ?_;exact aa.test (fun _=>aa.some (.inl rfl)) fun _=>out
  obtain⟨o,h,rfl|rfl⟩:=step
  ·exact aZ.stop h (.inl ⟨rfl,i,by omega,rfl⟩)
  ·exact aZ.next h M
theorem afa{k:Nat}(hk:k<L.length){t m s h:Int}{b c x y:ByteArray}(u:fO [.i t,.i m,.s b,.s c,.i s,.i h,.s x,.s y])(q:c.size≤100)(ks:List Nat) :
  aa (zY [G.l L,.i (own:Int),.i off,.l (bh 0 ks),.l (ks.map fun k=>dI (br A C own off k)),.i ((ks.length:Nat):Int),.l (bh 0 ks),.l (ks.map fun k=>dJ (br A C own off k)),.i ((ks.length:Nat):Int),.l [[.i t,.i m,.s b,.s c,.i s,.i h,.s x,.s y]],.i (k:Int)]) fun g=>∃(d:List Nat) (v:Int),g=[G.l L,.i (own:Int),.i off,.l (bh 0 d),.l (d.map fun k=>dI (br A C own off k)),.i ((d.length:Nat):Int),.l (bh 0 d),.l (d.map fun k=>dJ (br A C own off k)),.i ((d.length:Nat):Int),.i v]∧(0≤v→v<((A k).length:Int)):=by
 have I:=S.na k hk;unfold zY
 (dsimp +instances only[Aa,Ab,Ac,Ad,Ae,Af,Ag])
 simp only[bD,S.get k hk];refine aa.p ?_;refine aa.call (ae9 (S.cs k hk) q) ?_;rintro _ ⟨v,rfl⟩
 (dsimp +instances only[Aa,Ab,Ac,Ad,Ae,Af,Ag])
 refine aa.test (fun _=>aa.some ⟨ks,-1,rfl,fun h=>by omega⟩) fun _=>?_;refine aa.cE (Q7 S ho off hk ks) ?_
 (dsimp +instances only[Aa,Ab,Ac,Ad,Ae,Af,Ag])
 simp only[bD,S.get k hk];refine aa.p ?_;obtain⟨n,B⟩:=Q5 k ks;refine aa.loop ((Q9 S ho off hk u B (A k).length 0 (by omega)).to (by omega)) rfl ?_;rintro _ _ (⟨rfl,v,J,rfl⟩|⟨rfl,rfl⟩)
 ·(dsimp +instances only [Aa,Ab,Ac,Ad,Ae,Af,Ag])
  simp only[bD];exact aa.pos rfl (aa.some ⟨jv k ks,(v:Int),rfl,fun _=>by omega⟩)
 ·(dsimp +instances only [Aa,Ab,Ac,Ad,Ae,Af,Ag])
  simp only[bD];exact aa.neg rfl (aa.some ⟨jv k ks,-1,rfl,fun h=>by omega⟩)
def AD(L:List (List G))(A:Nat→List (List G))(s v:Int):Prop:=0≤s→∃ k:Nat,s=(k:Int)∧k<L.length∧0≤v∧v<((A k).length:Int)
theorem Q_{t m s h:Int}{b c x y:ByteArray}(M:fO [.i t,.i m,.s b,.s c,.i s,.i h,.s x,.s y])(J:c.size≤100):∀(d i:Nat) (ks:List Nat) (u v:Int),i+d=L.length→AD L A u v →
  aZ sQ [G.l L,.i (own:Int),.i off,.l (bh 0 ks),.l (ks.map fun k=>dI (br A C own off k)),.i ((ks.length:Nat):Int),.l (bh 0 ks),.l (ks.map fun k=>dJ (br A C own off k)),.i ((ks.length:Nat):Int),.i t,.i m,.s b,.s c,.i s,.i h,.s x,.s y,.i u,.i v,.l L,.i (L.length:Int),.i (i:Int)] (d+1) fun e g =>
   (e=0∨e=1)∧∃(q:List Nat) (u v:Int),g=[G.l L,.i (own:Int),.i off,.l (bh 0 q),.l (q.map fun k=>dI (br A C own off k)),.i ((q.length:Nat):Int),.l (bh 0 q),.l (q.map fun k=>dJ (br A C own off k)),.i ((q.length:Nat):Int),.i u,.i v]∧AD L A u v
 | 0,i,ks,u,v,hi,B=>by
  refine aZ.stop (x:=1) (aa.toEq ?_) ⟨.inr rfl,ks,u,v,rfl,B⟩;unfold sQ
  (dsimp +instances only[Aa,Ab,Ac,Ad,Ae,Af,Ag])
  refine aa.n (aa.some ?_);simp only[bD]
 | d+1,i,ks,u,v,hi,B=>by
  have V:=S.n;have I:i<L.length:=by omega
  have step:aa (sQ [G.l L,.i (own:Int),.i off,.l (bh 0 ks),.l (ks.map fun k=>dI (br A C own off k)),.i ((ks.length:Nat):Int),.l (bh 0 ks),.l (ks.map fun k=>dJ (br A C own off k)),.i ((ks.length:Nat):Int),.i t,.i m,.s b,.s c,.i s,.i h,.s x,.s y,.i u,.i v,.l L,.i (L.length:Int),.i (i:Int)]) fun o =>
    (∃ q:List Nat,o=(some 0,[G.l L,.i (own:Int),.i off,.l (bh 0 q),.l (q.map fun k=>dI (br A C own off k)),.i ((q.length:Nat):Int),.l (bh 0 q),.l (q.map fun k=>dJ (br A C own off k)),.i ((q.length:Nat):Int),.i (-1),.i (-1)]))∨∃(q:List Nat) (u v:Int),o=(none,[G.l L,.i (own:Int),.i off,.l (bh 0 q),.l (q.map fun k=>dI (br A C own off k)),.i ((q.length:Nat):Int),.l (bh 0 q),.l (q.map fun k=>dJ (br A C own off k)),.i ((q.length:Nat):Int),.i t,.i m,.s b,.s c,.i s,.i h,.s x,.s y,.i u,.i v,.l L,.i (L.length:Int),.i ((i:Int)+1)])∧AD L A u v:=by
   unfold sQ
   (dsimp +instances only[Aa,Ab,Ac,Ad,Ae,Af,Ag])
   simp only[bD,S.get i I];refine aa.p (aa.p ?_);refine aa.test (fun _=>aa.p (aa.some (.inr ⟨ks,u,v,rfl,B⟩))) fun _=>?_;refine aa.test (fun _=>aa.p (aa.some (.inr ⟨ks,u,v,rfl,B⟩))) fun _=>?_;refine aa.call (afa S ho off I M J ks) ?_;rintro _ ⟨q,w,rfl,hw⟩
   (dsimp +instances only[Aa,Ab,Ac,Ad,Ae,Af,Ag])
   simp only[bD];refine aa.test (fun h0=>?_) fun _=>aa.p (aa.some (.inr ⟨q,u,v,rfl,B⟩));rw[fv,decide_eq_true_eq]at h0;refine aa.test (fun _=>aa.some (.inl ⟨q,rfl⟩)) fun _=>?_;exact aa.p (aa.some (.inr ⟨q,(i:Int),w,rfl,fun _=>⟨i,rfl,I,h0,hw h0⟩⟩))
  obtain⟨o,h,⟨q,rfl⟩|⟨q,O,U,rfl,N⟩⟩:=step
  ·exact aZ.stop h ⟨.inl rfl,q,-1,-1,rfl,fun h=>by omega⟩
  ·exact aZ.next h (Q_ M J d (i+1) q O U (by omega) N)
theorem afb{t m s h:Int}{b c x y:ByteArray}(I:fO [.i t,.i m,.s b,.s c,.i s,.i h,.s x,.s y])(B:c.size≤100)(ks:List Nat) :
  aa (sR [G.l L,.i (own:Int),.i off,.l (bh 0 ks),.l (ks.map fun k=>dI (br A C own off k)),.i ((ks.length:Nat):Int),.l (bh 0 ks),.l (ks.map fun k=>dJ (br A C own off k)),.i ((ks.length:Nat):Int),.l [[.i t,.i m,.s b,.s c,.i s,.i h,.s x,.s y]]]) fun g=>∃(d:List Nat) (u v:Int),g=[G.l L,.i (own:Int),.i off,.l (bh 0 d),.l (d.map fun k=>dI (br A C own off k)),.i ((d.length:Nat):Int),.l (bh 0 d),.l (d.map fun k=>dJ (br A C own off k)),.i ((d.length:Nat):Int),.i u,.i v]∧AD L A u v:=by
 have J:=S.n;unfold sR
 (dsimp +instances only[Aa,Ab,Ac,Ad,Ae,Af,Ag])
 simp only[bD];refine aa.loop ((Q_ S ho off I B L.length 0 ks (-1) 0 (by omega) (fun h=>by omega)).to (by omega)) rfl ?_;rintro _ _ ⟨rfl|rfl,d,u,v,rfl,q⟩
 ·(dsimp +instances only [Aa,Ab,Ac,Ad,Ae,Af,Ag])
  simp only[bD];exact aa.pos rfl (aa.some ⟨d,u,v,rfl,q⟩)
 ·(dsimp +instances only [Aa,Ab,Ac,Ad,Ae,Af,Ag])
  simp only[bD];exact aa.neg rfl (aa.some ⟨d,u,v,rfl,q⟩)
end
theorem afc(f:Nat→List G){ks:List Nat}{n k:Nat}(h:fR k ks=some n):gG (ks.map f) (some n)=f k:=by
 obtain⟨h1,d⟩:=AA h;show (ks.map f).getD n []=_
 rw[bG,bT];rw[bG]at d;rw[bt h1]at d⊢;simp only[ga]at d;simp only[dO,ga,d]
theorem afd(f:Nat→List G){ks:List Nat}{n k:Nat}(h:fR k ks=some n):kZ (ks.map f) (some n)=true:=by
 obtain⟨h1,d⟩:=AA h;show er n (ks.map f).length=true
 rw[cN];simpa using h1
section
variable {L:List (List G)} {C:Nat→ByteArray} {A:Nat→List (List G)} (S:lq L C A)
include S
theorem lq.inj{i j:Nat}(hi:i<L.length)(k:j<L.length)(h:C i=C j):i=j:=by
 rcases HH i j with d|d|d
 ·have := S.l_ i j d k
  rw[kA.2 h]at this;omega
 ·exact d
 ·have := S.l_ j i d hi
  rw[kA.2 h.symm]at this;omega
end
def Ra(L:List (List G))(C:Nat→ByteArray)(A:Nat→List (List G))(own:Nat)(off:Int)(i:Nat):Prop :=
 ∃ k j:Nat,k<L.length∧C k=(gi ((A own).getD i []) 3).str∧[G.i (i:Int),.i (j:Int)]∈br A C own off k
def s_(L:List (List G))(C:Nat→ByteArray)(A:Nat→List (List G))(own:Nat)(off:Int)(i:Nat)(row:List G):Prop :=
 ∃ (d:Int) (w:ByteArray) (v:Int),row=[.i (i:Int),.i d,.s w,.i v] ∧
  ((∃ k j : Nat, k < L.length ∧ j < (A k).length ∧ C k = (gi ((A own).getD i []) 3).str ∧ w = C k ∧ v = (j : Int) ∧ [G.i (i : Int), .i (j : Int)] ∈ br A C own off k ∧
    ((d=1∧wh ((A k).getD j []) ((A own).getD i [])=true)∨(d=3∧wh ((A k).getD j []) ((A own).getD i [])=false))) ∨
   (¬ Ra L C A own off i∧((d=2∧∃ k:Nat,k<L.length∧w=C k∧0≤v∧v<((A k).length:Int))∨((d=4∨d=5)∧w=⟨#[]⟩∧v = -1))))
section
variable {L:List (List G)} {C:Nat→ByteArray} {A:Nat→List (List G)} (S:lq L C A) {own:Nat} (ho:own<L.length) (off:Int)
include S ho
theorem afe{k:Nat}(hk:k<L.length)(i:Nat):(dC [.int .i64] (gn s9 (br A C own off k) ([],0)).1 [.i (i:Int)]=true→∃ j:Nat,j<(A k).length∧[G.i (i:Int),.i (j:Int)]∈br A C own off k∧cC [.int .i64] (gn s9 (br A C own off k) ([],0)).1 [.i (i:Int)] [.i 0]=[.i (j:Int)]) ∧
  (dC [.int .i64] (gn s9 (br A C own off k) ([],0)).1 [.i (i:Int)]=false→∀ j:Nat,[G.i (i:Int),.i (j:Int)]∉br A C own off k):=by
 have u:∀ r∈br A C own off k,∃ a b:Nat,r=[.i (a:Int),.i (b:Int)]∧b<(A k).length:=fun r hr=>by
  obtain⟨a,b,h1,_,d,_⟩:=Az (S.two ho hk) hr;exact⟨a,b,h1,d⟩
 rw[Q0,LG,tC];constructor
 ·intro h
  rcases Q1 s9 [.i (i:Int)] [.i 0] (br A C own off k) ([],0)with⟨r,h1,d,q⟩|⟨h1,_⟩
  ·obtain ⟨a, b, rfl, hb⟩ := u r h1
   have d:aK [.int .i64] [.i (i:Int)] [.i (a:Int)]=true:=d;rw[GW,decide_eq_true_eq]at d;have:i=a:=by omega
   subst this;exact⟨b,hb,h1,q⟩
  ·obtain ⟨r, d, q⟩ := ia.1 h
   rw[h1 r d]at q;cases q
 ·intro h j v
  have:=Sq.1 h _ v;apply this;show aK [.int .i64] [.i (i:Int)] [.i (i:Int)]=true
  rw[GW];simp
theorem aff{i:Nat}(hi:i<(A own).length)(ks:List Nat):aa (zZ [G.l L,.i (own:Int),.i off,.l (bh 0 ks),.l (ks.map fun k=>dI (br A C own off k)),.i ((ks.length:Nat):Int),.l (bh 0 ks),.l (ks.map fun k=>dJ (br A C own off k)),.i ((ks.length:Nat):Int),.i (i:Int)]) fun g=>∃(d:List Nat) (row:List G),g=[G.l L,.i (own:Int),.i off,.l (bh 0 d),.l (d.map fun k=>dI (br A C own off k)),.i ((d.length:Nat):Int),.l (bh 0 d),.l (d.map fun k=>dJ (br A C own off k)),.i ((d.length:Nat):Int),.l [row]]∧s_ L C A own off i row:=by
 obtain⟨J,U⟩:=S.mem ho hi;have hna:=S.na own ho;have B:=S.n;have V:fO (aM [.int .i64,.int .i64,.str,.str,.int .i64,.int .i64,.str,.str] ((A own).getD i [])):=by rw[J.1]; exact J
 unfold zZ
 (dsimp +instances only[Aa,Ab,Ac,Ad,Ae,Af,Ag])
 simp only[bD,S.get own ho]
 (dsimp +instances only[Aa,Ab,Ac,Ad,Ae,Af,Ag])
 refine aa.p (aa.p ?_);refine aa.call (Q4 S _) ?_;rintro _ ⟨p,b,rfl,hT,hF⟩
 (dsimp +instances only[Aa,Ab,Ac,Ad,Ae,Af,Ag])
 have last:∀(ks:List Nat) (b:Bool),¬ Ra L C A own off i→aa (ay (sR [G.l L,.i (own:Int),.i off,.l (bh 0 ks),.l (ks.map fun k=>dI (br A C own off k)),.i ((ks.length:Nat):Int),.l (bh 0 ks),.l (ks.map fun k=>dJ (br A C own off k)),.i ((ks.length:Nat):Int),.l [aM [.int .i64,.int .i64,.str,.str,.int .i64,.int .i64,.str,.str] ((A own).getD i [])]]) fun g=>(bif ba 0 (gi g 9).int then (bif (aB (gi g 9).int)&&(ao (gi g 9).int (((gi g 0).rows.length:Nat):Int)) then some [.l (gi g 0).rows,.i (gi g 1).int,.i (gi g 2).int,.l (gi g 3).rows,.l (gi g 4).rows,.i (((gi g 5).int.toNat:Nat):Int),.l (gi g 6).rows,.l (gi g 7).rows,.i (((gi g 8).int.toNat:Nat):Int),.l [[.i (i:Int),.i 2,.s (gi ((gi g 0).rows.getD ((gi g 9).int.toNat) []) 0).str,.i (gi g 10).int]]] else none) else (bif b then some [.l (gi g 0).rows,.i (gi g 1).int,.i (gi g 2).int,.l (gi g 3).rows,.l (gi g 4).rows,.i (((gi g 5).int.toNat:Nat):Int),.l (gi g 6).rows,.l (gi g 7).rows,.i (((gi g 8).int.toNat:Nat):Int),.l [[.i (i:Int),.i 4,.s ⟨#[]⟩,.i (-1)]]] else some [.l (gi g 0).rows,.i (gi g 1).int,.i (gi g 2).int,.l (gi g 3).rows,.l (gi g 4).rows,.i (((gi g 5).int.toNat:Nat):Int),.l (gi g 6).rows,.l (gi g 7).rows,.i (((gi g 8).int.toNat:Nat):Int),.l [[.i (i:Int),.i 5,.s ⟨#[]⟩,.i (-1)]]])))
   fun g=>∃(d:List Nat) (row:List G),g=[G.l L,.i (own:Int),.i off,.l (bh 0 d),.l (d.map fun k=>dI (br A C own off k)),.i ((d.length:Nat):Int),.l (bh 0 d),.l (d.map fun k=>dJ (br A C own off k)),.i ((d.length:Nat):Int),.l [row]]∧s_ L C A own off i row:=fun ks b q=>by
  refine aa.call (afb S ho off V U ks) ?_;rintro _ ⟨d,u,v,rfl,hm⟩
  (dsimp +instances only[Aa,Ab,Ac,Ad,Ae,Af,Ag])
  simp only[bD];refine aa.test (fun h0=>?_) fun _=>?_
  ·rw [fv, decide_eq_true_eq] at h0
   obtain⟨k,rfl,hk,W,hv1⟩:=hm h0;simp only[bD,S.get k hk];refine aa.p (aa.some ⟨d,_,rfl,2,C k,v,rfl,.inr ⟨q,.inl ⟨rfl,k,hk,rfl,W,hv1⟩⟩⟩)
  ·refine aa.test (fun _=>aa.some ⟨d,_,rfl,4,⟨#[]⟩,-1,rfl,.inr ⟨q,.inr ⟨.inl rfl,rfl,rfl⟩⟩⟩) fun _=>aa.some ⟨d,_,rfl,5,⟨#[]⟩,-1,rfl,.inr ⟨q,.inr ⟨.inr rfl,rfl,rfl⟩⟩⟩
 refine aa.test (fun hb=>?_) fun hb=>?_
 ·obtain ⟨h, y⟩ := hT hb
  refine aa.cE (Q7 S ho off h ks) ?_
  (dsimp +instances only[Aa,Ab,Ac,Ad,Ae,Af,Ag])
  obtain⟨n,B⟩:=Q5 p ks;simp only[bD,AB,B,afc (fun k=>dI (br A C own off k)) B];refine aa.pos rfl (aa.pos (afd _ B) ?_);obtain⟨j1,j2⟩:=afe S ho off h i;refine aa.test (fun hm=>?_) fun hm=>?_
  ·obtain ⟨j, q, N, hjg⟩ := j1 hm
   have hnk:=S.na p h;have hg:cC [.int .i64] (gi (dI (br A C own off p)) 0).rows [.i (i:Int)] [.i 0]=[.i (j:Int)]:=hjg;simp only[hg]
   (dsimp +instances only[Aa,Ab,Ac,Ad,Ae,Af,Ag])
   simp only[bD,S.get own ho,S.get p h]
   (dsimp +instances only[Aa,Ab,Ac,Ad,Ae,Af,Ag])
   obtain⟨hy,hys⟩:=S.mem h q;simp only[J.1,hy.1];refine aa.p (aa.p ?_);refine aa.cE (Q8 _ _) ?_
   (dsimp +instances only[Aa,Ab,Ac,Ad,Ae,Af,Ag])
   refine aa.test (fun M=>?_) fun M=>?_
   ·exact aa.some ⟨jv p ks,_,rfl,1,_,(j:Int),rfl,.inl ⟨p,j,h,q,y,y.symm,rfl,N,.inl ⟨rfl,M⟩⟩⟩
   ·exact aa.some ⟨jv p ks,_,rfl,3,_,(j:Int),rfl,.inl ⟨p,j,h,q,y,y.symm,rfl,N,.inr ⟨rfl,M⟩⟩⟩
  ·refine last (jv p ks) b ?_
   rintro⟨k,j,hk,I,O⟩;have:=S.inj hk h (I.trans y.symm);subst this;exact j2 hm j O
 ·refine last ks b ?_
  rintro⟨k,j,hk,I,O⟩;exact hF hb k hk I
end
theorem G2{r:List G}:fi r=0↔eQ (gi r 0).int 0 345686399999=true∧eQ (gi r 1).int 1 3=true∧lX (gi r 2).str=true∧iY (gi r 3).str=true∧eQ (gi r 4).int 0 99999=true∧eQ (gi r 5).int 0 99999=true ∧
  lY (gi r 6).str=true∧lY (gi r 7).str=true:=by
 unfold fi;generalize eQ (gi r 0).int 0 345686399999=b1;generalize eQ (gi r 1).int 1 3=d;generalize lX (gi r 2).str=h;generalize iY (gi r 3).str=k;generalize eQ (gi r 4).int 0 99999=q;generalize eQ (gi r 5).int 0 99999=u;generalize lY (gi r 6).str=v;generalize lY (gi r 7).str=y;cases b1<;>cases d<;>cases h<;>cases k<;>cases q<;>cases u<;>cases v<;>cases y<;>simp
theorem Rb:∀{l:List (List G)} {o:Option (List G)},e_ o l=0→∀ x∈l,fi x=0
 | [],_,_,_,h=>by cases h
 | y::q,o,h,x,d=>by
  have key:fi y=0∧e_ (some y) q=0:=by
   cases o with
   | none =>
    simp only[e_]at h;split at h
    ·contradiction
    ·rename_i h1
     exact⟨by simpa using h1,h⟩
   | some z =>
    simp only[e_]at h;split at h
    ·contradiction
    ·rename_i h1
     split at h
     ·cases h
     ·exact⟨by simpa using h1,h⟩
  rcases bR.1 d with rfl|d
  ·exact key.1
  ·exact Rb key.2 x d
theorem Rc{l:List (List G)}(h:fZ l=0):∀ x∈l,fi x=0:=by
 unfold fZ at h;split at h
 ·cases h
 ·exact Rb h
theorem afg{c:ByteArray}{L:List (List G)}(h:ql c L=0):iY c=true∧i_ c L=false:=by
 unfold ql at h;cases h1:iY c with
 |false=>rw[h1]at h; cases h
 | true =>
  rw[h1]at h;cases d:fZ L != 0 with
  | true =>
   rw[d]at h;simp only[Bool.not_true,cond_false,cond_true]at h;rw[h]at d;cases d
  | false =>
   rw[d]at h;cases k:i_ c L with
   |true=>rw[k]at h; cases h
   |false=>exact⟨rfl,rfl⟩
structure ta (L:List (List G)) (C:Nat→ByteArray) (A:Nat→List (List G)):Prop where
 get:∀ i,i<L.length→L.getD i []=[.s (C i),.l (A i)]
 n:L.length≤40
 qm:∀ i,i<L.length→∀ z∈A i,dy z
 na:∀ i,i<L.length→(A i).length≤40
 call:∀ i,i<L.length→C i∈calls
 l_:∀ i j,i<j→j<L.length→cX (C i) (C j)<0
 less:∀ i,0<i→i<L.length→(lr (C i).toList (C (i-1)).toList||((C i).toList==(C (i-1)).toList))=false
 fault:∀ i,i<L.length→ql (C i) (A i)=0
theorem Re{c:ByteArray}(h:c∈calls):c.size≤100:=by
 have d:calls.all (fun c=>Nat.ble c.size 100)=true:=by kernel_rfl
 simpa using dq.1 d c h
section
variable {L:List (List G)} {C:Nat→ByteArray} {A:Nat→List (List G)} (R:ta L C A)
include R
theorem ta.wk{i:Nat}(hi:i<L.length):∀ z∈A i,dy z∧fi z=0:=fun z d=>⟨R.qm i hi z d,Rc (QS (R.fault i hi)) z d⟩
theorem ta.afh:lq L C A:=by
 refine⟨R.get,R.n,fun i hi z k=>?_,R.na,fun i hi=>Re (R.call i hi),R.l_⟩;obtain⟨h1,q⟩:=R.wk hi z k;have d:=(G2.1 q).1;unfold eQ at d;simp only[fv,ax,decide_eq_true_eq]at d;refine⟨⟨h1.eta,?_,?_⟩,?_⟩
 ·unfold f_; omega
 ·unfold f_; omega
 ·obtain ⟨t, m, b, c, s, h, x, y, rfl, _, _, _, _, _, u, _⟩ := h1
  exact Re u
theorem afi{i:Nat}(hi:i<L.length):zN [.l [[.i (i:Int)]],.l [[.s (C i),.l (A i)]],.l [[.l L]]]=some [.i 0]:=by
 have k:=R.n;refine aa.toEq ?_;unfold zN
 (dsimp +instances only[Aa,Ab,Ac,Ad,Ae,Af,Ag])
 refine aa.test (fun h=>?_) fun _=>aa.some rfl;rw[eW,decide_eq_true_eq]at h;have e:((i:Int)-1).toNat=i-1:=by omega
 have d:=R.less i (by omega) hi;have hg:=R.get (i-1) (by omega);simp only[e,hg]
 (dsimp +instances only[Aa,Ab,Ac,Ad,Ae,Af,Ag])
 refine aa.p (aa.p (aa.neg ?_ (aa.some rfl)));exact d
theorem afj{i:Nat}(hi:i<L.length):zP [.l [[.s (C i),.l (A i)]],.l [[.i (i:Int)]],.l [[.s (C i),.l (A i)]],.l [[.l L]]]=some [.i 0]:=by
 have d:=R.fault i hi;obtain⟨h1,h⟩:=afg d;have k:=QS d;have q:=R.na i hi;refine aa.toEq ?_;unfold zP
 (dsimp +instances only[Aa,Ab,Ac,Ad,Ae,Af,Ag])
 refine aa.cE (Qa (R.call i hi)) ?_
 (dsimp +instances only[Aa,Ab,Ac,Ad,Ae,Af,Ag])
 refine aa.neg (by rw[h1]; rfl) ?_;refine aa.cE (afi R hi) ?_;refine aa.neg rfl ?_;refine aa.cE (aev (A i) (R.qm i hi) (by omega)) ?_
 (dsimp +instances only[Aa,Ab,Ac,Ad,Ae,Af,Ag])
 rw[k];refine aa.neg rfl ?_;refine aa.call (aa.eq (ae2 (C:=zO) (c:=C i) (A:=A i) (fun z u=>by
  refine aa.toEq ?_;unfold zO
  (dsimp +instances only[Aa,Ab,Ac,Ad,Ae,Af,Ag])
  exact aa.some rfl) (A i) (R.qm i hi) (by omega))) ?_
 rintro _ rfl
 (dsimp +instances only[Aa,Ab,Ac,Ad,Ae,Af,Ag])
 exact aa.neg h (aa.some rfl)
theorem Rf:∀(k i:Nat),i+k=L.length→aZ vI [.l L,.l L,.i (L.length:Int),.i (i:Int)] (k+1) fun x _=>x=1
 | 0,i,hi=>by
  refine aZ.stop (x:=1) (d':=[]) (aa.toEq ?_) rfl;unfold vI
  (dsimp +instances only[Aa,Ab,Ac,Ad,Ae,Af,Ag])
  exact aa.n (aa.some rfl)
 | k+1,i,hi=>by
  have d:=R.n;refine aZ.next (d1:=[.l L,.l L,.i (L.length:Int),.i ((i:Int)+1)]) (aa.toEq ?_) (Rf k (i+1) (by omega))
  unfold vI
  (dsimp +instances only[Aa,Ab,Ac,Ad,Ae,Af,Ag])
  simp only[bD,R.get i (by omega:i<L.length)];refine aa.p (aa.p ?_);refine aa.cE (afj R (i:=i) (by omega)) ?_;exact aa.neg rfl (aa.p (aa.some rfl))
theorem afk:oz [.l L]=some [.i 0]:=by
 have d:=R.n;refine aa.toEq ?_;unfold oz
 (dsimp +instances only[Aa,Ab,Ac,Ad,Ae,Af,Ag])
 refine aa.n ?_;refine aa.loop ((Rf R L.length 0 (by omega)).to (by omega)) rfl ?_;rintro x g rfl;exact aa.neg rfl (aa.some rfl)
end
/-! ### h order of d -/
theorem G3(r s:List G):dE r s=oH (fA (gi r 0).int (gi s 0).int) (oH (cX (gi r 3).str (gi s 3).str) (oH (cX (gi r 2).str (gi s 2).str) (fA (gi r 1).int (gi s 1).int))):=rfl
theorem afl(a b d:List G)(h1:dE a b<0)(h:dE b d<0):dE a d<0:=by
 rw[G3]at *;exact Gu Aj _ _ _ _ _ _ h1 h fun g1 g2=>Gu qj _ _ _ _ _ _ g1 g2 fun k q=>Gu qj _ _ _ _ _ _ k q fun m1 m2=>Aj.tr _ _ _ m1 m2
theorem Rg:∀{l:List (List G)} {y:List G},(∀ x∈l,fi x=0)→(y::l).Pairwise (fun a b=>dE a b<0)→e_ (some y) l=0
 | [],_,_,_=>rfl
 | x::q,y,h0,h=>by
  obtain⟨h1,d⟩:=qB.1 h;have u:=h1 x cO;simp only[e_];rw[if_neg (by simpa using h0 x cO),if_neg (by omega)];exact Rg (fun z k=>h0 z (c9 _ k)) d
theorem Rh{l:List (List G)}(h0:∀ x∈l,fi x=0)(h:l.Pairwise (fun a b=>dE a b<0))(k:l.length≤2000):fZ l=0:=by
 unfold fZ;rw[if_neg (by omega)];cases l with
 |nil=>rfl
 | cons x q =>
  simp only[e_];rw[if_neg (by simpa using h0 x cO)];exact Rg (fun z d=>h0 z (c9 _ d)) h
def Good(z:List G):Prop:=dy z∧fi z=0
section
variable {L:List (List G)} {C:Nat→ByteArray} {A:Nat→List (List G)} (R:ta L C A) {own:Nat} (ho:own<L.length) (off:Int)
include R ho
theorem ta.row{j:Nat}(d:j<(A own).length):Good ((A own).getD j []) :=
 R.wk ho _ (by rw[bG,bt d]; exact ly d)
omit ho in
omit R ho in
end
/-! ### k d h -/
/-! ### ahz place by place -/
def wm(n i k:Nat):Int:=10000000000*((n-max i k:Nat):Int)
theorem afm{n:Nat}{ok:Nat→Nat→Bool}{w:Nat→Nat→Int}(d:∀ i k,i<n→k<n→(ok i k=true↔i=k))(hw:∀ i,i<n→w i i=10000000000):dT (wm n) n n ok w:=by
 refine⟨fun i k h=>?_,fun i k hi hk=>?_⟩
 ·unfold wm
  have:n-max i k=0:=by omega
  rw[this];rfl
 ·unfold wm
  by_cases e:i=k
  ·subst e
   rw[if_pos ((d i i hi hi).2 rfl),hw i hi];omega
  ·rw [if_neg (fun h => e ((d i k hi hk).1 h))]
   omega
theorem Ri{F:Nat→Nat→Int}{n:Nat}{ok:Nat→Nat→Bool}{w:Nat→Nat→Int}(h:dT F n n ok w)(d:∀ i k,i<n→k<n→(ok i k=true↔i=k))(hw:∀ i,i<n→w i i=10000000000) :
  ∀(t i:Nat),i+t=n→∀ p,i≤p→p<n→(p,p)∈gM F n ok w t i i
 |0,i,hi,p,h1,q=>by omega
 | t+1,i,hi,p,h1,q=>by
  have hF:∀ a b,F a b=wm n a b:=fun a b=>Ak h (afm d hw) _ a b (aD _);have u:gl (gL F ok w (F i i) i) i (n-i)=some i:=aeE (aD _) (by omega) (Gx.2 ⟨(d i i (by omega) (by omega)).2 rfl,by rw[hw i (by omega),hF,hF]; unfold wm; omega⟩) (fun y v B=>by omega);rw[Am u];by_cases e:p=i
  ·subst e
   exact cO
  ·exact c9 _ (Ri h d hw t (i+1) (by omega) p (by omega) q)
/-! ### h is d of a log, as a list -/
theorem afn{α:Type}(A:List α)(z:α):(dP A.length).map (fun i=>A.getD i z)=A:=by
 refine List.ext_getElem (by simp) fun i h1 d=>?_;simp only[List.getElem_map,List.getElem_range,bG,bt d,ga]
theorem Rj(A:List (List G))(s:ByteArray)(k:GK):(cJ A s k).map (fun i=>A.getD i [])=A.filter fun z=>(bA z).toList==s.toList&&decide (cz z=k):=by
 have h:=ahg (f:=fun i=>A.getD i []) (p:=fun z:List G=>(bA z).toList==s.toList&&decide (cz z=k)) (l:=dP A.length);rw[afn]at h;rw[h];rfl
theorem tb{A:List (List G)}{s:ByteArray}{k:GK}{p:Nat}(d:p<(cJ A s k).length):g_ A (cJ A s k) p=(A.filter fun z=>(bA z).toList==s.toList&&decide (cz z=k)).getD p []:=by
 rw[←Rj];unfold g_;simp only[bG,bT,bt d,dO,ga]
theorem oM(A:List (List G))(s:ByteArray)(k:GK):(cJ A s k).length=(A.filter fun z=>(bA z).toList==s.toList&&decide (cz z=k)).length:=by
 rw[←Rj,cN]
/-! ### A d, as k other h has it -/
def fB(g:ByteArray)(z:List G):List G:=[.i (gi z 0).int,.i (gi z 1).int,.s (gi z 2).str,.s g,.i (gi z 5).int,.i (gi z 4).int,.s (gi z 7).str,.s (gi z 6).str]
def cY(g:ByteArray)(X:List (List G))(c:ByteArray):List (List G):=(X.filter fun z=>decide (bA z=c)).map (fB g)
def AE(X:List (List G)):Prop:=X.Pairwise fun a b=>dE a b<0
theorem afo{a b:List G}(h:dE a b<0)(h1:bA a=bA b)(d:cz a=cz b):f_ a<f_ b:=by
 rw[G3]at h;have k:cX (gi a 3).str (gi b 3).str=0:=kA.2 h1;have q:cX (gi a 2).str (gi b 2).str=0:=kA.2 (congrArg (·.1) d);have u:fA (gi a 1).int (gi b 1).int=0:=Qj.2 (congrArg (·.2) d);rw[k,q,u]at h;refine qh.1 ?_;by_cases e:fA (gi a 0).int (gi b 0).int=0
 ·rw [e] at h
  exact absurd h (by decide)
 ·unfold oH at h
  rw[if_pos e]at h;exact h
theorem wo(g:ByteArray)(X:List (List G))(c:ByteArray)(k:GK):(cY g X c).filter (fun z=>(bA z).toList==g.toList&&decide (cz z=k))=(X.filter fun z=>(bA z).toList==c.toList&&decide (cz z=k)).map (fB g):=by
 unfold cY;rw[ahg,List.filter_filter];congr 1;refine List.filter_congr fun z _=>?_;have d:bA (fB g z)=g:=rfl;have h:cz (fB g z)=cz z:=rfl;simp only[Function.comp,d,h,oG];simp[Bool.and_comm]
section
variable {X:List (List G)} (hX:AE X) (hM:∀ z∈X,fO z) (g c:ByteArray)
include hX in
theorem Rk(k:GK){p q:Nat}(v:p<q) (d:q<(X.filter fun z=>(bA z).toList==c.toList&&decide (cz z=k)).length) :
  f_ ((X.filter fun z=>(bA z).toList==c.toList&&decide (cz z=k)).getD p [])<f_ ((X.filter fun z=>(bA z).toList==c.toList&&decide (cz z=k)).getD q []):=by
 have u:p<(X.filter fun z=>(bA z).toList==c.toList&&decide (cz z=k)).length:=by omega
 have h:=A1.1 (hX.filter fun z=>(bA z).toList==c.toList&&decide (cz z=k)) p q u d v;simp only[bG,bt u,bt d,ga];have key:∀ z:List G,((bA z).toList==c.toList&&decide (cz z=k))=true→bA z=c∧cz z=k:=fun z y=>by
  simpa only[oG,ax,decide_eq_true_eq]using y
 have m1:=key _ (mu.1 (ly u)).2;have m2:=key _ (mu.1 (ly d)).2;exact afo h (m1.1.trans m2.1.symm) (m1.2.trans m2.2.symm)
include hX in
theorem G4(k:GK){p q:Nat}(u:p<(cJ X c k).length)(B:q<(cJ X c k).length) :
  eH X (cY g X c) (cJ X c k) (cJ (cY g X c) g k) 0 p q=true↔p=q:=by
 have hl:(cJ (cY g X c) g k).length=(cJ X c k).length:=by rw[oM,wo,cN,←oM]
 have O:=tb u;have I:=tb (A:=cY g X c) (s:=g) (k:=k) (p:=q) (by omega);rw[wo]at I;have N:=u;have y:=B;rw[oM]at N y;have U:((X.filter fun z=>(bA z).toList==c.toList&&decide (cz z=k)).map (fB g)).getD q []=fB g ((X.filter fun z=>(bA z).toList==c.toList&&decide (cz z=k)).getD q []):=by
  simp only[bG,bT,bt y,dO,ga]
 rw[U]at I;unfold eH;rw[O,I,QI];have J:=QJ (A:=X) (s:=c) (k:=k) u;have M:=QJ (A:=X) (s:=c) (k:=k) B;rw[tb u]at J;rw[tb B]at M;generalize v:(X.filter fun z=>(bA z).toList==c.toList&&decide (cz z=k))=P at *;have b1:aT (fB g (P.getD q []))=aT (P.getD q []):=rfl;have V:kB (fB g (P.getD q []))=kB (P.getD q []):=rfl;have W:iI (P.getD p []) (fB g (P.getD q []))=iI (P.getD p []) (P.getD q []):=rfl;rw[b1,V,W,J.1,J.2,M.1,M.2];constructor
 ·rintro ⟨_, _, h⟩
  unfold iI at h;rcases HH p q with d|d|d
  ·have := Rk hX c k d (by rw [v]; exact y)
   rw[v]at this;split at h<;>omega
  ·exact d
  ·have := Rk hX c k d (by rw [v]; exact N)
   rw[v]at this;split at h<;>omega
 ·rintro rfl
  refine⟨rfl,rfl,?_⟩;unfold iI;split<;>omega
include hX in
theorem afp{i:Nat}(hi:i<X.length)(u:bA (X.getD i [])=c):∃ j:Nat,[G.i (i:Int),.i (j:Int)]∈iZ X (cY g X c) g c 0:=by
 obtain⟨k,hk⟩:∃ k,k=cz (X.getD i []):=⟨_,rfl⟩
 have v:(cJ (cY g X c) g k).length=(cJ X c k).length:=by rw[oM,wo,cN,←oM]
 have h:i∈cJ X c k:=lp.2 ⟨hi,by
  show (bA (X.getD i [])).toList==c.toList
  rw[oG,decide_eq_true u],hk.symm⟩
 obtain⟨p,d,q⟩:=ma h;refine⟨(cJ (cY g X c) g k).getD p 0,?_⟩;refine(Ay _ _ _ _ _).mem_iff.2 (QK.2 ⟨k,?_⟩);unfold ju;refine cV.2 ⟨(p,p),?_,?_⟩
 ·unfold Av
  rw[v];refine Ri (Ql _ _ _ _) (fun a b ha hb=>G4 hX g c k ha hb) (fun a ha=>?_) _ 0 (by omega) p (by omega) d;have ho:=(G4 hX g c k ha ha).2 rfl;unfold eH at ho;rw[QI]at ho;have y:=ho.2.2;unfold wJ;have:0≤iI (g_ X (cJ X c k) a) (g_ (cY g X c) (cJ (cY g X c) g k) a):=by
   unfold iI;split<;>omega
  omega
 ·unfold l5
  simp only[bG,bt d,ga,q]
include hX in
theorem afq{i j:Nat}(h:[G.i (i:Int),.i (j:Int)]∈iZ X (cY g X c) g c 0):(cY g X c).getD j []=fB g (X.getD i []):=by
 obtain⟨k,hk⟩:=QK.1 ((Ay _ _ _ _ _).mem_iff.1 h);unfold ju at hk;obtain⟨⟨p,q⟩,I,he⟩:=cV.1 hk;obtain⟨h1,u,J⟩:=wa I;have O:(cJ (cY g X c) g k).length=(cJ X c k).length:=by rw[oM,wo,cN,←oM]
 have u:q<(cJ (cY g X c) g k).length:=u;have h1:p<(cJ X c k).length:=h1;have e:p=q:=(G4 hX g c k h1 (by omega)).1 J;subst e;unfold l5 at he;simp only[AM,G.i.injEq,and_true]at he;obtain⟨v,y⟩:=he;have v:(cJ X c k).getD p 0=i:=by omega
 have y:(cJ (cY g X c) g k).getD p 0=j:=by omega
 have M:=tb h1;have d:=tb u;rw[wo]at d;have B:=h1;rw[oM]at B;have N:((X.filter fun z=>(bA z).toList==c.toList&&decide (cz z=k)).map (fB g)).getD p []=fB g ((X.filter fun z=>(bA z).toList==c.toList&&decide (cz z=k)).getD p []):=by
  simp only[bG,bT,bt B,dO,ga]
 rw[N,←M]at d;unfold g_ at d;rw[v,y]at d;exact d
end
/-! ### d in u order in h k q -/
theorem G5{α:Type}{P:List α→Prop}(nil:P [])(snoc:∀ X z,P X→P (X++[z]))(X:List α):P X:=by
 rw[←List.reverse_reverse X]
 induction X.reverse with
 |nil=>exact nil
 | cons z l d =>
  rw[List.reverse_cons];exact snoc _ _ d
def hasB(cs:List ByteArray)(c:ByteArray):Bool:=cs.any fun x=>decide (x=c)
theorem qn{cs:List ByteArray}{c:ByteArray}:hasB cs c=true↔c∈cs:=by
 unfold hasB;rw[ia];constructor
 ·rintro ⟨x, d, e⟩
  rw[←of_decide_eq_true e];exact d
 ·exact fun h=>⟨c,h,decide_eq_true rfl⟩
def ja(cs:List ByteArray)(c:ByteArray):List ByteArray:=if hasB cs c=true then cs else cs++[c]
def da(X:List (List G)):List ByteArray:=X.foldl (fun cs z=>ja cs (bA z)) []
theorem wq(X:List (List G))(z:List G):da (X++[z])=ja (da X) (bA z):=by
 unfold da;rw[List.foldl_append];rfl
theorem afr{cs:List ByteArray}{c x:ByteArray}:x∈ja cs c↔x∈cs∨x=c:=by
 unfold ja;split
 ·rename_i h
  rw[qn]at h;exact⟨fun d=>.inl d,fun d=>d.elim id fun e=>e▸h⟩
 ·simp
theorem wu(X:List (List G)):∀ c,c∈da X↔∃ z∈X,bA z=c:=by
 induction X using G5 with
 |nil=>intro c; simp[da]
 | snoc X z h =>
  intro c;rw[wq,afr,h];constructor
  ·rintro (⟨y, d, rfl⟩ | rfl)
   ·exact⟨y,by simp[d],rfl⟩
   ·exact⟨z,by simp,rfl⟩
  ·rintro ⟨y, d, rfl⟩
   rcases List.mem_append.1 d with d|d
   ·exact .inl ⟨y,d,rfl⟩
   ·rw [tv.1 d]
    exact .inr rfl
theorem Rl(X:List (List G)):(da X).Nodup:=by
 induction X using G5 with
 |nil=>exact List.nodup_nil
 | snoc X z d =>
  rw[wq];unfold ja;split
  ·exact d
  ·rename_i h
   rw[qn]at h;rw[List.nodup_append];refine⟨d,by simp,fun a ha b hb e=>?_⟩;rw[tv]at hb;exact h (hb▸e▸ha)
theorem Rm(X:List (List G)):(da X).length≤X.length:=by
 induction X using G5 with
 |nil=>exact aD _
 | snoc X z d =>
  rw[wq,dY];unfold ja;split
  ·simp only[qD]; omega
  ·rw[dY]; simp only[qD]; omega
/-! ### d aO -/
def eh(f:ByteArray→List (List G)):Nat→List ByteArray→List (List G)
 |_,[]=>[]
 |i,c::cs=>[.l [[.s c]],.l [[.l (f c)]],.i (i:Int),.t true]::eh f (i+1) cs
theorem Rn{f d:ByteArray→List (List G)}:∀{cs:List ByteArray} {i:Nat},(∀ c∈cs,f c=d c)→eh f i cs=eh d i cs
 | [],_,_=>rfl
 | c::cs,i,h=>by
  rw[eh,eh,h c cO,Rn fun x k=>h x (c9 _ k)]
theorem Ro(f:ByteArray→List (List G))(c:ByteArray):∀(cs:List ByteArray) (i:Nat),fe [.str] (eh f i cs) [.s c]=true
 | [],_=>rfl
 | x::cs,i=>by
  rw[eh,l8,Ro f c cs (i+1)];show (bif aK [.str] [.s c] [.s x] then true else true)=true
  cases aK [.str] [.s c] [.s x]<;>rfl
theorem Rp{f:ByteArray→List (List G)}{c:ByteArray}:∀{cs:List ByteArray} {i:Nat},(c∉cs→f c=[])→dm [.str] (eh f i cs) [.s c]=f c
 | [],_,h=>(h (by simp)).symm
 | x::cs,i,h=>by
  rw[eh,l7];show (bif aK [.str] [.s c] [.s x] then f x else _)=_
  rw[kD];by_cases e:c=x
  ·rw[decide_eq_true e,e]; rfl
  ·rw [decide_eq_false e, cond_false]
   exact Rp fun d=>h (by simp[e,d])
theorem Rq(f:ByteArray→List (List G))(c:ByteArray):∀(cs:List ByteArray) (i:Nat),dC [.str] (eh f i cs) [.s c]=hasB cs c
 | [],_=>rfl
 | x::cs,i=>by
  rw[eh,lT,Rq f c cs (i+1)];show (aK [.str] [.s c] [.s x]||_)=(decide (x=c)||hasB cs c)
  rw[kD];congr 1;rw[lx,decide_eq_true_eq,decide_eq_true_eq];exact⟨fun h=>h.symm,fun h=>h.symm⟩
theorem Rr(ks:List Kd)(k key:List G):∀ rows:List (List G),dC ks (iy ks rows k) key=dC ks rows key
 | []=>rfl
 | r::rs=>by
  rw[wb];cases aK ks k (gi r 0).row with
  | true =>
   rw[cond_true,lT,lT];rfl
  |false=>rw[cond_false,lT,lT,Rr ks k key rs]
theorem Rs{f:ByteArray→List (List G)}{c:ByteArray}{v:List (List G)}{q:Nat}:∀{cs:List ByteArray} {i:Nat},cs.Nodup→(c∉cs→q=i+cs.length) →
  kh [.str] (iy [.str] (eh f i cs) [.s c]) [.s c] v q=eh (fun x=>if x=c then v else f x) i (ja cs c)
 | [],i,_,h=>by
  have e:=h (by simp);simp only[mr,Nat.add_zero]at e;subst e;have ha:ja [] c=[c]:=by unfold ja; rw[if_neg (by simp[hasB])]; rfl
  rw[ha];simp only[eh,if_true];rfl
 | x::cs,i,k,h=>by
  obtain⟨u,k⟩:=kK.1 k;rw[eh,wb];show kh [.str] (bif aK [.str] [.s c] [.s x] then _ else _) _ _ _=_
  rw[kD];by_cases e:c=x
  ·subst e
   rw[decide_eq_true rfl,cond_true,we];show (bif aK [.str] [.s c] [.s c] then _ else _)=_
   rw[kD,decide_eq_true rfl,cond_true];have ha:ja (c::cs) c=c::cs:=by unfold ja; rw[if_pos (qn.2 cO)]
   rw[ha,eh];simp only[if_true];refine congrArg _ (Rn fun y B=>?_);have:y≠c:=fun e=>u (e▸B);simp only[if_neg this]
  ·rw [decide_eq_false e, cond_false, we]
   show (bif aK [.str] [.s c] [.s x] then _ else _)=_
   rw[kD,decide_eq_false e,cond_false,Rs k fun d=>by
    have:=h (by simp[e,d]);simp only[cr]at this;omega]
   have ha:ja (x::cs) c=x::ja cs c:=by
    unfold ja;by_cases d:c∈cs
    ·rw[if_pos (qn.2 d),if_pos (qn.2 (c9 _ d))]
    ·rw [if_neg (fun h => d (qn.1 h)), if_neg (fun h => (bR.1 (qn.1 h)).elim e d)]
     rfl
   rw[ha,eh];have:x≠c:=fun h=>e h.symm;simp only[if_neg this]
def dF(g:ByteArray)(X p:List (List G)):List (List G):=[.l [[.s g]],.l [[.l X]],.i 0,.t false,.t true]::eh (cY g p) 1 (da p)
theorem Rt{g:ByteArray}{p:List (List G)}{c:ByteArray}(h:c∉da p):cY g p c=[]:=by
 unfold cY;rw[List.filter_eq_nil_iff.2 fun z d=>by
  simp only[decide_eq_true_eq];exact fun e=>h ((wu p c).2 ⟨z,d,e⟩)]
 rfl
theorem afs(g:ByteArray)(p:List (List G))(z:List G):cY g (p++[z])=fun x=>if x=bA z then cY g p (bA z)++[fB g z] else cY g p x:=by
 funext x
 unfold cY;rw[List.filter_append,jX];by_cases e:x=bA z
 ·subst e
  simp
 ·rw [if_neg e]
  have:¬ bA z=x:=fun h=>e h.symm;simp[this]
section
variable (g:ByteArray) (X p:List (List G)) (z:List G) (aw:bA z≠g)
include aw
theorem wv:aK [.str] [.s (bA z)] [.s g]=false:=by rw[kD]; exact decide_eq_false aw
theorem aft:fe [.str] (dF g X p) [.s (bA z)]=true:=by
 unfold dF;rw[l8];show (bif aK [.str] [.s (bA z)] [.s g] then _ else _)=_
 rw[wv g z aw,cond_false,Ro]
theorem afu:dm [.str] (dF g X p) [.s (bA z)]=cY g p (bA z):=by
 unfold dF;rw[l7];show (bif aK [.str] [.s (bA z)] [.s g] then _ else _)=_
 rw[wv g z aw,cond_false,Rp Rt]
theorem afv:iy [.str] (dF g X p) [.s (bA z)]=[.l [[.s g]],.l [[.l X]],.i 0,.t false,.t true]::iy [.str] (eh (cY g p) 1 (da p)) [.s (bA z)]:=by
 unfold dF;rw[wb];show (bif aK [.str] [.s (bA z)] [.s g] then _ else _)=_
 rw[wv g z aw,cond_false]
theorem afw:kh [.str] (iy [.str] (dF g X p) [.s (bA z)]) [.s (bA z)] (cY g p (bA z)++[fB g z]) ((da p).length+1)=dF g X (p++[z]):=by
 rw[afv g X p z aw,we];show (bif aK [.str] [.s (bA z)] [.s g] then _ else _)=_
 rw[wv g z aw,cond_false,Rs (Rl p) (fun _=>by omega)];unfold dF;rw[wq,afs]
theorem afx:eE [.str] (iy [.str] (dF g X p) [.s (bA z)]) [.s (bA z)] ((da p).length+1)=(da (p++[z])).length+1:=by
 unfold eE;rw[Rr];unfold dF;rw[lT];show (bif (aK [.str] [.s (bA z)] [.s g]||_) then _ else _)=_
 rw[wv g z aw,qw,Rq,wq];unfold ja;cases h:hasB (da p) (bA z)with
 |true=>rw[if_pos rfl]; rfl
 |false=>rw[if_neg (by simp),dY]; rfl
end
theorem G6(g:ByteArray)(p:List (List G))(c:ByteArray):(cY g p c).length≤p.length:=by
 unfold cY;rw[cN];exact List.length_filter_le _ _
theorem Ru(g:ByteArray)(X:List (List G))(hg:∀ z∈X,bA z≠g)(u:X.length≤1000):∀(q p:List (List G)),p++q=X →
  aZ vG [.l (dF g X p),.i (((da p).length+1:Nat):Int),.s g,.l X,.i (X.length:Int),.i (p.length:Int)] (q.length+1) fun x d=>x=0∧d=[.l (dF g X X),.i (((da X).length+1:Nat):Int)]
 | [],p,h=>by
  rw[db]at h;subst h;refine aZ.stop (x:=0) (aa.toEq ?_) ⟨rfl,rfl⟩;unfold vG
  (dsimp +instances only[Aa,Ab,Ac,Ad,Ae,Af,Ag])
  simp only[bD];exact aa.n (aa.some rfl)
 | z::q,p,h=>by
  have v:=congrArg List.length h;rw[dY,cr]at v;have y:X.getD p.length []=z:=by rw[←h]; simp
  have k:z∈X:=by rw[←h]; simp
  have aw:=hg z k;have I:=G6 g p (bA z);refine aZ.next (d1:=[.l (dF g X (p++[z])),.i (((da (p++[z])).length+1:Nat):Int),.s g,.l X,.i (X.length:Int),.i ((p++[z]).length:Int)]) (aa.toEq ?_) (Ru g X hg u q (p++[z]) (by rw[←h]; simp))
  unfold vG
  (dsimp +instances only[Aa,Ab,Ac,Ad,Ae,Af,Ag])
  simp only[bD,y];rw[show (gi z 3).str=bA z from rfl,aft g X p z aw,afu g X p z aw];have B:cY g p (bA z)++[[.i (gi z 0).int,.i (gi z 1).int,.s (gi z 2).str,.s g,.i (gi z 5).int,.i (gi z 4).int,.s (gi z 7).str,.s (gi z 6).str]]=cY g p (bA z)++[fB g z]:=rfl;simp only[B];rw[afw g X p z aw,afx g X p z aw];refine aa.p (aa.p (aa.pos rfl (aa.pos (by rw[mq,jW,decide_eq_true_eq]; omega) ?_)));refine aa.pos ?_ ?_
  ·rw [dY, qD]
   exact mq _
  ·refine aa.p (aa.some ?_)
   simp only[dY,qD,Int.natCast_add,A5]
/-! ### h keys in d order -/
theorem Rv:∀{a b:List UInt8},eu a b<0→a<b
 | [],[],h=>by simp[eu]at h
 | [],b::k,_=>List.nil_lt_cons b k
 |a::l,[],h=>by simp[eu]at h
 | a::l,b::k,h=>by
  simp only[eu]at h;rw[List.cons_lt_cons_iff];by_cases h1:a<b
  ·exact .inl h1
  ·rw [if_neg h1] at h
   by_cases d:b<a
   ·rw [if_pos d] at h
    omega
   ·rw [if_neg d] at h
    exact .inr ⟨A3 (nw.1 d) (nw.1 h1),Rv h⟩
theorem Rw:∀ a b:List UInt8,lr a b=decide (eu a b<0)
 | [],[]=>by simp[lr,eu]
 | [],_::_=>by simp[lr,eu]
 |_::_,[]=>by simp[lr,eu]
 | a::x,b::y=>by
  simp only[lr,eu,Rw x y];by_cases h1:a<b
  ·simp[h1]
  ·by_cases d : b < a
   ·have aw : ¬ a = b := fun e => h1 (by rw [e] at d ⊢; exact d)
    simp[h1,d,aw]
   ·have e : a = b := A3 (nw.1 d) (nw.1 h1)
    simp[h1,d,e]
theorem G7(l:List ByteArray):(gX (l.map fun s=>[G.s s])).Perm (l.map fun s=>[G.s s]):=by
 unfold gX;refine((Sr _ _).map _).trans ?_;rw[lu,lu];exact nu _
theorem afy{l:List ByteArray}(q:l.Nodup):(gX (l.map fun s=>[G.s s])).Pairwise fun a b=>cX (gi a 0).str (gi b 0).str<0:=by
 have tr:∀ a b c:List UInt8,decide (a≤b)=true→decide (b≤c)=true→decide (a≤c)=true:=fun a b c h1 d=>by simp only[decide_eq_true_eq]at *; exact ahh h1 d
 have to:∀ a b:List UInt8,(decide (a≤b)||decide (b≤a))=true:=fun a b=>by simp only[tu,decide_eq_true_eq]; exact ahi a b
 have k:(gX (l.map fun s=>[G.s s])).Nodup:=(G7 l).nodup_iff.2 (by
  unfold A6 at *;rw[oZ];exact q.imp fun {a b} h e=>h (by simpa using e))
 have hr:(gX (l.map fun s=>[G.s s])).Pairwise fun a b=>a≠b→cX (gi a 0).str (gi b 0).str<0:=by
  unfold gX;rw[oZ];refine(Ss tr to _).imp fun {a b} h aw=>?_;simp only[decide_eq_true_eq]at h;have v:¬ cX (⟨b.toArray⟩:ByteArray) (⟨a.toArray⟩:ByteArray)<0:=fun d=>List.not_lt.2 h (Rv d);have y:=qj.flip (⟨a.toArray⟩:ByteArray) (⟨b.toArray⟩:ByteArray);by_cases u:cX (⟨a.toArray⟩:ByteArray) (⟨b.toArray⟩:ByteArray)=0
  ·exact(aw (by rw[qj.eq _ _ u])).elim
  ·show cX (⟨a.toArray⟩ : ByteArray) (⟨b.toArray⟩ : ByteArray) < 0
   omega
 unfold A6 at k;exact(List.pairwise_and_iff.2 ⟨k,hr⟩).imp fun h=>h.2 h.1
theorem afz{l l':List ByteArray}(h:l.Perm l'):gX (l.map fun s=>[G.s s])=gX (l'.map fun s=>[G.s s]):=by
 have tr:∀ a b c:List UInt8,decide (a≤b)=true→decide (b≤c)=true→decide (a≤c)=true:=fun a b c h1 d=>by simp only[decide_eq_true_eq]at *; exact ahh h1 d
 have to:∀ a b:List UInt8,(decide (a≤b)||decide (b≤a))=true:=fun a b=>by simp only[tu,decide_eq_true_eq]; exact ahi a b
 unfold gX;congr 1;have k:(((l.map fun s=>[G.s s]).map fun r=>(gi r 0).str.data.toList).mergeSort fun x y=>decide (x≤y)).Perm (((l'.map fun s=>[G.s s]).map fun r=>(gi r 0).str.data.toList).mergeSort fun x y=>decide (x≤y)) :=
  (Sr _ _).trans (((h.map _).map _).trans (Sr _ _).symm)
 refine k.eq_of_pairwise (le:=fun a b=>decide (a≤b)=true) (fun a b _ _ h1 d=>?_) (Ss tr to _) (Ss tr to _);simp only[decide_eq_true_eq]at h1 d;exact List.le_antisymm h1 d
def kE(r:List G):ByteArray:=(gi (gi r 0).row 0).str
theorem Rx(f:ByteArray→List (List G)):∀(cs:List ByteArray) (i:Nat),(eh f i cs).map kE=cs
 | [],_=>rfl
 | c::cs,i=>by
  rw[eh,dg,Rx f cs (i+1)];rfl
theorem Ry(g:ByteArray)(X p:List (List G)):(dF g X p).map kE=g::da p:=by
 unfold dF;rw[dg,Rx];rfl
theorem Rz(f:ByteArray→List (List G)):∀(cs:List ByteArray) (i:Nat),(eh f i cs).map cU=(nq i cs.length)
 | [],_=>rfl
 | c::cs,i=>by
  rw[eh,dg,Rz f cs (i+1),cr,wP];rfl
theorem afA(g:ByteArray)(X p:List (List G)):ku (dF g X p) ((da p).length+1)=true:=by
 have hb:(dF g X p).map cU=nq 0 ((da p).length+1):=by
  unfold dF;rw[dg,Rz,wP];rfl
 unfold ku;rw[hb,GR _ List.nodup_range',jW,dq];intro r hr;have:cU r∈nq 0 ((da p).length+1):=by rw[←hb]; exact List.mem_map_of_mem hr
 rw[List.mem_range'_1]at this;rw[Nat.blt_eq];omega
theorem RA(f:ByteArray→List (List G)):∀(cs:List ByteArray) (i:Nat),r9 (eh f i cs)=true
 | [],_=>rfl
 | c::cs,i=>by
  have:=RA f cs (i+1);unfold r9 at *;rw[eh,kI,this];rfl
theorem afB(g:ByteArray)(X p:List (List G)):r9 (dF g X p)=true:=by
 have:=RA (cY g p) (da p) 1;unfold r9 at *;unfold dF;rw[kI,this];rfl
theorem afC(g:ByteArray)(X p:List (List G)):(dF g X p).length=(da p).length+1:=by
 rw[←cN (f:=kE),Ry,cr]
def gO(g:ByteArray)(X:List (List G))(k:ByteArray):List (List G):=if k=g then X else cY g X k
theorem RB{f:ByteArray→List (List G)}{c:ByteArray}:∀{cs:List ByteArray} {i:Nat},(c∉cs→f c=[])→cC [.str] (eh f i cs) [.s c] [.l []]=[.l (f c)]
 | [],_,h=>by rw[eh,LF,h (by simp)]
 | x::cs,i,h=>by
  rw[eh,sd];show (bif aK [.str] [.s c] [.s x] then [G.l (f x)] else _)=_
  rw[kD];by_cases e:c=x
  ·rw[decide_eq_true e,e]; rfl
  ·rw [decide_eq_false e, cond_false]
   exact RB fun d=>h (by simp[e,d])
theorem afD(g:ByteArray)(X:List (List G))(k:ByteArray):cC [.str] (dF g X X) [.s k] [.l []]=[.l (gO g X k)]:=by
 unfold dF gO;rw[sd];show (bif aK [.str] [.s k] [.s g] then [G.l X] else _)=_
 rw[kD];by_cases e:k=g
 ·rw[decide_eq_true e,if_pos e]; rfl
 ·rw[decide_eq_false e,cond_false,if_neg e,RB Rt]
def eo(g:ByteArray)(X:List (List G)):List (List G):=gX ((g::da X).map fun s=>[G.s s])
def wx(g:ByteArray)(X:List (List G))(r:List G):List G:=[.s (gi r 0).str,.l (gO g X (gi r 0).str)]
def jx(g:ByteArray)(X:List (List G)):List (List G):=(eo g X).map (wx g X)
theorem RC(g:ByteArray)(X:List (List G)):(eo g X).length=(da X).length+1:=by
 unfold eo;rw[Dy,cN,cr]
theorem RD(rows:List (List G))(h aY:Nat):∀(q out:List (List G)),out.length+q.length≤100000 →
  cG sD (fun d=>(gi d 3).int.toNat) q [.l rows,.i (h:Int),.l out,.i (aY:Int)]=some [.l rows,.i (h:Int),.l (out++q.map fun r=>[G.s (kE r)]),.i (aY:Int)]
 | [],out,_=>by simp[cG]
 | r::q,out,k=>by
  simp only[cr]at k;have st:sD r [.l rows,.i (h:Int),.l out,.i (aY:Int)]=some [.l rows,.i (h:Int),.l (out++[[G.s (kE r)]]),.i (aY:Int)]:=by
   refine aa.toEq ?_;unfold sD
   (dsimp +instances only[Aa,Ab,Ac,Ad,Ae,Af,Ag])
   simp only[bD];exact aa.pos (by rw[mq,jW,decide_eq_true_eq]; omega) (aa.pos (by simp) (aa.some rfl))
  rw[QG st rfl,RD rows h aY q _ (by rw[dY,qD]; omega)];rw[dg,List.append_assoc];rfl
theorem afE(g:ByteArray)(X:List (List G))(k:Nat)(B:(eo g X).length≤1000):jS vH [.l (dF g X X),.i (k:Int),.l [],.l (eo g X),.i ((eo g X).length:Int),.i 0] fun x d=>x=0∧d=[.l (dF g X X),.i (k:Int),.l (jx g X)]:=by
 refine(LC (σ:=List (List G)) (fun s i=>[.l (dF g X X),.i (k:Int),.l s,.l (eo g X),.i ((eo g X).length:Int),.i (i:Int)]) (eo g X) (fun s=>(0,[.l (dF g X X),.i (k:Int),.l s])) (fun s i=>s=((eo g X).take i).map (wx g X)) [] (by omega) rfl ?_ ?_).mono ?_
 ·rintro s i z h hi q hm u
  have v:((eo g X).take (i+1)).map (wx g X)=s++[wx g X z]:=by rw[u,jX,h]; rfl
  have y:s.length≤1000:=by rw[h,cN,jA]; omega
  unfold vH
  (dsimp +instances only[Aa,Ab,Ac,Ad,Ae,Af,Ag])
  simp only[bD,cW,q];rw[afD];exact aa.p (aa.p (aa.p (aa.pos (by rw[mq,jW,decide_eq_true_eq]; omega) (aa.p (aa.pos (by simp) (aa.some ⟨s++[wx g X z],rfl,v.symm⟩))))))
 ·rintro s h
  unfold vH
  (dsimp +instances only[Aa,Ab,Ac,Ad,Ae,Af,Ag])
  simp only[bD];exact aa.n (aa.pos (by simp) (aa.some rfl))
 ·rintro x d ⟨s, h, rfl, rfl⟩
  refine⟨rfl,?_⟩;rw[h,List.take_length];rfl
theorem afF(g:ByteArray)(X:List (List G))(hg:∀ z∈X,bA z≠g)(y:X.length≤900):zM [.s g,.l X]=some [.l (jx g X)]:=by
 have B:=Rm X;have hk:=RC g X;refine aa.toEq ?_;unfold zM
 (dsimp +instances only[Aa,Ab,Ac,Ad,Ae,Af,Ag])
 refine aa.loop ((Ru g X hg (by omega) X [] rfl).to (by omega)) rfl ?_;rintro _ _ ⟨rfl,rfl⟩
 (dsimp +instances only[Aa,Ab,Ac,Ad,Ae,Af,Ag])
 simp only[bD];refine aa.pos (by rw[afB]; rfl) ?_;have q:Fg [.l (dF g X X),.i (((da X).length+1:Nat):Int),.l []]=some (some 0,[.l (dF g X X),.i (((da X).length+1:Nat):Int),.l (jx g X)]):=by
  show iU zK zL (dF g X X) ((((da X).length+1:Nat):Int).toNat) _=_
  rw[bD];refine LX (afA g X X) fun b p h=>⟨rfl,?_⟩
  have v:p.length=(da X).length+1:=by rw[h.length_eq,afC]
  refine⟨_,RD (dF g X X) ((da X).length+1) b p [] (by simp; omega),?_⟩;rw[jV];have u:gX (p.map fun r=>[G.s (kE r)])=eo g X:=by
   have e:(p.map fun r=>[G.s (kE r)])=(p.map kE).map fun s=>[G.s s]:=by rw[lu]; rfl
   rw[e];unfold eo;exact afz (by rw[←Ry g X X]; exact h.map kE)
  have h1:sC [.l (p.map fun r=>[G.s (kE r)])]=some [.l (eo g X)]:=by
   unfold sC y8
   (dsimp +instances only[Aa,Ab,Ac,Ad,Ae,Af,Ag])
   rw[show er (p.map fun r=>[G.s (kE r)]).length 1000000=true by simp; omega,u];rfl
  refine aa.toEq ?_;unfold zL
  (dsimp +instances only[Aa,Ab,Ac,Ad,Ae,Af,Ag])
  simp only[bD];refine aa.mU (aa.eq h1) (by simp) ?_;rintro _ rfl
  (dsimp +instances only[Aa,Ab,Ac,Ad,Ae,Af,Ag])
  have k:(p.map fun r=>[G.s (kE r)]).length=(eo g X).length:=by rw[cN]; omega
  rw[k];refine aa.loop (afE g X _ (by omega)) (by simp) ?_;rintro _ _ ⟨rfl,rfl⟩
  (dsimp +instances only[Aa,Ab,Ac,Ad,Ae,Af,Ag])
  simp only[bD];exact aa.pos (by simp) (aa.some rfl)
 refine aa.tail (P:=fun x d=>x=0∧d=[.l (dF g X X),.i (((da X).length+1:Nat):Int),.l (jx g X)]) ⟨_,q,0,rfl,rfl,rfl⟩ rfl ?_;rintro _ _ ⟨rfl,rfl⟩
 (dsimp +instances only[Aa,Ab,Ac,Ad,Ae,Af,Ag])
 exact aa.pos (by simp) (aa.some rfl)
/-! ### d k right h -/
theorem RE:∀{l:List (List G)} {y:List G},e_ (some y) l=0→(y::l).Pairwise fun a b=>dE a b<0
 | [],y,_=>by simp
 | x::q,y,h=>by
  simp only[e_]at h;split at h
  ·contradiction
  ·split at h
   ·cases h
   ·rename_i h0
    have u:=RE h;have k:dE y x<0:=by omega
    refine qB.2 ⟨fun z d=>?_,u⟩;rcases bR.1 d with rfl|d
    ·exact k
    ·exact afl _ _ _ k ((qB.1 u).1 z d)
theorem afG{l:List (List G)}(h:fZ l=0):l.Pairwise fun a b=>dE a b<0:=by
 unfold fZ at h;split at h
 ·cases h
 ·cases l with
  |nil=>exact List.Pairwise.nil
  | cons x q =>
   simp only[e_]at h;split at h
   ·contradiction
   ·exact RE h
def fj(g:ByteArray)(X:List (List G))(i:Nat):ByteArray:=(gi ((eo g X).getD i []) 0).str
theorem afH(a b:ByteArray)(h:cX b a<0):(lr a.toList b.toList||(a.toList==b.toList))=false:=by
 have k:=qj.flip b a;rw[oG,qC,qC,Rw];have h1:¬ eu a.data.toList b.data.toList<0:=fun d=>by
  have:cX a b<0:=d;omega
 rw[decide_eq_false h1,decide_eq_false (fun e=>by
  rw[e,kA.2 rfl]at h;omega)]
 rfl
theorem afI(g:ByteArray){a b:List G}(h:dE a b<0)(d:bA a=bA b):dE (fB g a) (fB g b)<0:=by
 rw[G3]at h⊢;have k:cX (gi a 3).str (gi b 3).str=0:=kA.2 d;have q:cX (gi (fB g a) 3).str (gi (fB g b) 3).str=0:=kA.2 rfl;rw[k]at h;rw[q];exact h
section
variable {g:ByteArray} {X:List (List G)} (wy:g∈calls) (bY:iY g=true) (hX:AE X) (hC:∀ z∈X,dy z) (hF:∀ z∈X,fi z=0) (hg:∀ z∈X,bA z≠g)
theorem afJ(wy:g∈calls){z:List G}(h:dy z):dy (fB g z):=by
 obtain⟨t,m,b,c,s,h,x,y,rfl,h1,d,k,q,u,I,v,B⟩:=h;exact⟨t,m,b,g,h,s,y,x,rfl,h1,d,q,k,u,wy,B,v⟩
theorem afK(bY:iY g=true){z:List G}(h:fi z=0):fi (fB g z)=0:=by
 rw[G2]at h⊢;obtain⟨h1,d,k,y,q,u,v⟩:=h;exact⟨h1,d,k,bY,u,q,v.symm⟩
theorem RF{i:Nat}(hi:i<(eo g X).length):fj g X i∈g::da X:=by
 have hm:(eo g X).getD i []∈eo g X:=l4 hi;have:=(G7 (g::da X)).mem_iff.1 hm;obtain⟨s,d,e⟩:=cV.1 this;unfold fj;rw[←e];exact d
include wy bY hX hC hF hg in
theorem afL(hn:X.length≤39):ta (jx g X) (fj g X) (fun i=>gO g X (fj g X i)):=by
 have hk:=RC g X;have hf:=Rm X;have hl:(jx g X).length=(eo g X).length:=by unfold jx; rw[cN]
 have O:g∉da X:=fun h=>by
  obtain⟨z,d,e⟩:=(wu X g).1 h;exact hg z d e
 have hr:=afy (l:=g::da X) (kK.2 ⟨O,Rl X⟩);have l_:∀ i j,i<j→j<(jx g X).length→cX (fj g X i) (fj g X j)<0:=fun i j U hj=>by
  have h1:i<(eo g X).length:=by omega
  have q:j<(eo g X).length:=by omega
  have:=A1.1 hr i j h1 q U;unfold fj;simp only[bG,bt h1,bt q,ga];exact this
 have M:∀ k,∀ z∈gO g X k,dy z:=fun k z d=>by
  unfold gO at d;split at d
  ·exact hC z d
  ·unfold cY at d
   obtain⟨y,v,rfl⟩:=cV.1 d;exact afJ wy (hC y (mu.1 v).1)
 have N:∀ k,(gO g X k).length≤X.length:=fun k=>by
  unfold gO;split
  ·exact aD _
  ·exact G6 g X k
 refine⟨fun i hi=>?_,by omega,fun i hi=>M _,fun i hi=>by have:=N (fj g X i); omega,fun i hi=>?_,l_,fun i h0 hi=>afH _ _ (l_ (i-1) i (by omega) hi),fun i hi=>?_⟩
 ·have h1 : i < (eo g X).length := by omega
  unfold jx fj;simp only[bG,bT,bt h1,dO,ga];rfl
 ·rcases bR.1 (RF (by omega : i < (eo g X).length)) with e | e
  ·rw[e]; exact wy
  ·obtain ⟨z, d, e⟩ := (wu X _).1 e
   rw[←e];obtain⟨t,m,b,c,s,h,x,y,rfl,h1,q,h3,h4,h5,h6,h7,h8⟩:=hC z d;exact h6
 ·have V := RF (by omega : i < (eo g X).length)
  by_cases e:fj g X i=g
  ·rw [e]
   have B:gO g X g=X:=by unfold gO; rw[if_pos rfl]
   rw[B];unfold ql;have h1:fZ X=0:=Rh hF hX (by omega);have q:i_ g X=false:=by
    unfold i_;rw[Sq];intro z d h;rw[oG,decide_eq_true_eq]at h;exact hg z d h
   rw[bY,h1,q];rfl
  ·have W : fj g X i ∈ da X := (bR.1 V).resolve_left e
   obtain⟨z,d,ez⟩:=(wu X _).1 W;have hoc:iY (fj g X i)=true:=by
    rw[←ez];exact(G2.1 (hF z d)).2.2.2.1
   have B:gO g X (fj g X i)=cY g X (fj g X i):=by unfold gO; rw[if_neg e]
   rw[B];unfold ql;have h1:fZ (cY g X (fj g X i))=0:=by
    refine Rh (fun x u=>?_) ?_ (by have:=G6 g X (fj g X i); omega)
    ·unfold cY at u
     obtain⟨y,v,rfl⟩:=cV.1 u;exact afK bY (hF y (mu.1 v).1)
    ·unfold cY
     rw[oZ];refine((hX.filter _).imp_of_mem fun {a b} ha hb h=>?_);have I:=(mu.1 ha).2;have J:=(mu.1 hb).2;rw[decide_eq_true_eq]at I J;exact afI g h (I.trans J.symm)
   have q:i_ (fj g X i) (cY g X (fj g X i))=false:=by
    unfold i_;rw[Sq];intro x u h;rw[oG,decide_eq_true_eq]at h;unfold cY at u;obtain⟨y,v,rfl⟩:=cV.1 u;exact e h.symm
   rw[hoc,h1,q];rfl
theorem RG{k:ByteArray}(hk:k∈g::da X):∃ i,i<(eo g X).length∧fj g X i=k:=by
 have:[G.s k]∈eo g X:=(G7 (g::da X)).mem_iff.2 (cV.2 ⟨k,hk,rfl⟩);obtain⟨i,hi,e⟩:=ma this;refine⟨i,hi,?_⟩;unfold fj;rw[bG,bt hi,ga,e];rfl
end
def c8(z:List G):List G:=[.s (gi z 3).str,.s (gi z 2).str,.i (gi z 1).int]
def oN(row:List G):Bool:=((gi row 1).int==1)||((gi row 1).int==3)
def seenIn(l out:List (List G))(key:List G):Bool:=(dP out.length).any fun j=>aK [.str,.str,.int .i64] key (c8 (l.getD j []))&&oN (out.getD j [])
theorem RH(l out:List (List G))(row key:List G):seenIn l (out++[row]) key=(seenIn l out key||(aK [.str,.str,.int .i64] key (c8 (l.getD out.length []))&&oN row)):=by
 unfold seenIn;rw[dY,qD,List.range_succ,List.any_append,List.any_cons,List.any_nil,tC];congr 1
 ·rw [lx, ia, ia]
  have e:∀ j∈dP out.length,(out++[row]).getD j []=out.getD j []:=fun j d=>by
   rw[fF]at d;rw[bG,cK d,bG]
  constructor
  ·rintro ⟨j, d, h⟩
   exact⟨j,d,by rw[←e j d]; exact h⟩
  ·rintro ⟨j, d, h⟩
   exact⟨j,d,by rw[e j d]; exact h⟩
 ·congr 2
  rw[bG,hZ (aD _),Nat.sub_self];rfl
theorem afM{l out:List (List G)}{a b:List G}(h:aK [.str,.str,.int .i64] a b=true):seenIn l out a=seenIn l out b:=by
 unfold seenIn;congr 1
 funext j
 rw[LD h]
def G8(i:Nat):List G:=[.i (i:Int),.i 6,.s ⟨#[]⟩,.i (-1)]
def oO(L:List (List G))(C:Nat→ByteArray)(A:Nat→List (List G))(own:Nat)(off:Int)(out:List (List G)):Prop :=
 ∀ j,j<out.length→(out.getD j []=G8 j∧seenIn (A own) (out.take j) (c8 ((A own).getD j []))=true)∨(s_ L C A own off j (out.getD j [])∧seenIn (A own) (out.take j) (c8 ((A own).getD j []))=false)
def G9(l out seen:List (List G)):Prop:=∀ key,(gi (cC [.str,.str,.int .i64] seen key [.t false]) 0).bool=seenIn l out key
section
variable {L:List (List G)} {C:Nat→ByteArray} {A:Nat→List (List G)} (S:lq L C A) {own:Nat} (ho:own<L.length) (off:Int)
include S ho
theorem RI{len:Nat}(hlen:len=(A own).length):∀(d i:Nat) (ks:List Nat) (seen:List (List G)) (B:Nat) (out:List (List G)),i+d=len→out.length=i→oO L C A own off out→G9 (A own) out seen →
  aZ sS [G.l L,.i (own:Int),.i off,.l (bh 0 ks),.l (ks.map fun k=>dI (br A C own off k)),.i ((ks.length:Nat):Int),.l (bh 0 ks),.l (ks.map fun k=>dJ (br A C own off k)),.i ((ks.length:Nat):Int),.l seen,.i (B:Int),.l out,.l (A own),.i (len:Int),.i (i:Int)] (d+1) fun e g =>
   e=0∧∃(q:List Nat) (out:List (List G)),g=[G.l L,.i (own:Int),.i off,.l (bh 0 q),.l (q.map fun k=>dI (br A C own off k)),.i ((q.length:Nat):Int),.l (bh 0 q),.l (q.map fun k=>dJ (br A C own off k)),.i ((q.length:Nat):Int),.l out]∧out.length=len∧oO L C A own off out
 | 0,i,ks,seen,B,out,hi,O,M,I=>by
  refine aZ.stop (x:=0) (aa.toEq ?_) ⟨rfl,ks,out,rfl,by omega,M⟩;unfold sS
  (dsimp +instances only[Aa,Ab,Ac,Ad,Ae,Af,Ag])
  refine aa.n (aa.p (aa.some ?_));simp only[bD]
 | d+1,i,ks,seen,B,out,hi,O,M,I=>by
  have hna:=S.na own ho;have add:∀ row,((row=G8 i∧seenIn (A own) out (c8 ((A own).getD i []))=true)∨(s_ L C A own off i row∧seenIn (A own) out (c8 ((A own).getD i []))=false))→oO L C A own off (out++[row]):=fun row hr j W=>by
   rw[dY,qD]at W;by_cases e:j=i
   ·subst e
    rw[bG,hZ (by omega),show j-out.length=0 by omega,List.take_left' (by omega)];exact hr
   ·have := M j (by omega)
    rw[bG]at this⊢;rw[cK (by omega),List.take_append_of_le_length (by omega)];exact this
  have step:aa (sS [G.l L,.i (own:Int),.i off,.l (bh 0 ks),.l (ks.map fun k=>dI (br A C own off k)),.i ((ks.length:Nat):Int),.l (bh 0 ks),.l (ks.map fun k=>dJ (br A C own off k)),.i ((ks.length:Nat):Int),.l seen,.i (B:Int),.l out,.l (A own),.i (len:Int),.i (i:Int)]) fun o =>
    ∃(q:List Nat) (y:List (List G)) (J:Nat) (row:List G),o=(none,[G.l L,.i (own:Int),.i off,.l (bh 0 q),.l (q.map fun k=>dI (br A C own off k)),.i ((q.length:Nat):Int),.l (bh 0 q),.l (q.map fun k=>dJ (br A C own off k)),.i ((q.length:Nat):Int),.l y,.i (J:Int),.l (out++[row]),.l (A own),.i (len:Int),.i ((i:Int)+1)]) ∧
     ((row=G8 i∧seenIn (A own) out (c8 ((A own).getD i []))=true)∨(s_ L C A own off i row∧seenIn (A own) out (c8 ((A own).getD i []))=false))∧G9 (A own) (out++[row]) y:=by
   have hk:=I (c8 ((A own).getD i []));have put:∀(row:List G) (c:Nat) (b:Bool),b=oN row→seenIn (A own) out (c8 ((A own).getD i []))=false→G9 (A own) (out++[row]) (eO [.str,.str,.int .i64] seen (c8 ((A own).getD i [])) [.t b] c):=fun row c b hb hn key=>by
    rw[y9,RH,O];cases hr:aK [.str,.str,.int .i64] key (c8 ((A own).getD i []))with
    | true =>
     rw[afM hr,hn,qw,jW,←hb];rfl
    | false =>
     rw[HB,tC];exact I key
   unfold sS
   (dsimp +instances only[Aa,Ab,Ac,Ad,Ae,Af,Ag])
   simp only[bD];refine aa.p (aa.p ?_);refine aa.test (fun N=>?_) fun N=>?_
   ·have u : seenIn (A own) out (c8 ((A own).getD i [])) = true := by rw [← hk]; exact N
    refine aa.p (aa.p (aa.p (aa.some ⟨ks,_,_,_,rfl,.inl ⟨rfl,u⟩,fun key=>?_⟩)));rw[RH];rw[show oN [.i (i:Int),.i 6,.s ⟨#[]⟩,.i (-1)]=false from rfl,Bool.and_false,tC];exact I key
   ·have u : seenIn (A own) out (c8 ((A own).getD i [])) = false := by rw [← hk]; exact N
    refine aa.call (aff S ho off (by omega) ks) ?_;rintro _ ⟨q,row,rfl,hr⟩;have U:aM iG row=row:=by
     obtain⟨kd,w,v,rfl,_⟩:=hr;rfl
    (dsimp +instances only[Aa,Ab,Ac,Ad,Ae,Af,Ag])
    simp only[bD,U];refine aa.test (fun h1=>?_) fun h1=>?_
    ·exact aa.p (aa.p (aa.p (aa.some ⟨q,_,_,row,rfl,.inr ⟨hr,u⟩,put row _ true (by unfold oN; rw[h1]; rfl) u⟩)))
    ·exact aa.p (aa.p (aa.p (aa.some ⟨q,_,_,row,rfl,.inr ⟨hr,u⟩,put row _ _ (by unfold oN; rw[h1]; rfl) u⟩)))
  obtain⟨o,h,q,y,J,row,rfl,hr,V⟩:=step;exact aZ.next h (RI hlen d (i+1) q y J (out++[row]) (by omega) (by simp; omega) (add row hr) V)
theorem afN:aa (z6 [.l L,.i (own:Int),.i off,.l [],.i 0,.l [],.i 0]) fun g=>∃ out,g=[.l [],.l [],.l [],.l out]∧out.length=(A own).length∧oO L C A own off out:=by
 have k:=S.na own ho;have u:=S.n;unfold z6
 (dsimp +instances only[Aa,Ab,Ac,Ad,Ae,Af,Ag])
 simp only[bD,S.get own ho]
 (dsimp +instances only[Aa,Ab,Ac,Ad,Ae,Af,Ag])
 refine aa.pos rfl (aa.p ?_);have hr:=RI S ho off (len:=(A own).length) rfl (A own).length 0 [] [] 0 [] (by omega) rfl (fun j d=>by cases d) (fun key=>rfl);refine aa.loop (hr.to (by omega)) rfl ?_;rintro _ _ ⟨rfl,q,out,rfl,h1,h⟩
 (dsimp +instances only[Aa,Ab,Ac,Ad,Ae,Af,Ag])
 exact aa.p (aa.some ⟨out,rfl,h1,h⟩)
theorem RJ(h0:0≤off)(h1:off≤300)(h:oz [.l L]=some [.i 0]):aa (vV [.l L,.s (C own),.i off]) fun g =>
  ∃ out,g=[.l out,.i (own:Int),.i 0]∧out.length=(A own).length∧oO L C A own off out:=by
 unfold vV
 (dsimp +instances only[Aa,Ab,Ac,Ad,Ae,Af,Ag])
 refine aa.cE h ?_;refine aa.neg rfl ?_;refine aa.call (P:=fun g=>g=[.i 0]) ?_ ?_
 ·unfold Ft
  (dsimp +instances only[Aa,Ab,Ac,Ad,Ae,Af,Ag])
  refine aa.cE (sV off 0 3600000) ?_;refine aa.neg ?_ (aa.some rfl);show (!(ba 0 off&&ba off 3600000))=false
  rw[fv,fv,decide_eq_true h0,decide_eq_true (by omega:off≤3600000)];rfl
 rintro _ rfl;refine aa.neg rfl ?_;refine aa.call (Q4 S (C own)) ?_;rintro _ ⟨p,b,rfl,q,hF⟩
 (dsimp +instances only[Aa,Ab,Ac,Ad,Ae,Af,Ag])
 refine aa.test (fun hb=>absurd rfl (hF (by simpa using hb) own ho)) fun hb=>?_;obtain⟨d,k⟩:=q (by simpa using hb);have:=S.inj d ho k;subst this;refine aa.call (P:=fun g=>g=[.l L,.i (p:Int),.i off,.l [],.i 0,.l [],.i 0]) (aa.eq rfl) ?_;rintro _ rfl
 (dsimp +instances only[Aa,Ab,Ac,Ad,Ae,Af,Ag])
 refine aa.call (afN S d off) ?_;rintro _ ⟨out,rfl,u,v⟩;exact aa.some ⟨out,rfl,u,v⟩
theorem afO(h0:0≤off)(h1:off≤300)(d:oz [.l L]=some [.i 0]):aa (z7 [.l L,.s (C own),.i off]) fun g =>
  ∃ out,g=[.l out,.i 0]∧out.length=(A own).length∧oO L C A own off out:=by
 unfold z7
 (dsimp +instances only[Aa,Ab,Ac,Ad,Ae,Af,Ag])
 refine aa.call (RJ S ho off h0 h1 d) ?_;rintro _ ⟨out,rfl,h,k⟩;exact aa.some ⟨out,rfl,h,k⟩
end
/-! ### In h k q d -/
def tc(X out:List (List G)):Prop :=
 ∀ j,j<X.length→((gi (out.getD j []) 1).int=6∧∃ i,i<j∧aK [.str,.str,.int .i64] (c8 (X.getD j [])) (c8 (X.getD i []))=true)∨((gi (out.getD j []) 1).int=1∧∀ i,i<j→aK [.str,.str,.int .i64] (c8 (X.getD j [])) (c8 (X.getD i []))=false)
theorem afP(g:ByteArray)(z:List G):wh (fB g z) z=true:=by
 show ((gi z 5).int==(gi z 5).int&&(gi z 7).str.toList==(gi z 7).str.toList)=true
 simp
theorem AF{l out:List (List G)}{key:List G}:seenIn l out key=true↔∃ j,j<out.length∧aK [.str,.str,.int .i64] key (c8 (l.getD j []))=true∧oN (out.getD j [])=true:=by
 unfold seenIn;rw[ia];simp only[fF,ax]
theorem afQ{g:ByteArray}{X L:List (List G)}{C:Nat→ByteArray}{A:Nat→List (List G)}(S:lq L C A){own:Nat}(ho:own<L.length)(hX:AE X)(hg:∀ z∈X,bA z≠g)(O:C own=g)(I:∀ i,i<L.length→A i=gO g X (C i))
  (hall:∀ k∈da X,∃ i,i<L.length∧C i=k) {out:List (List G)} (W:out.length=(A own).length) (h:oO L C A own 0 out):out.length=X.length∧tc X out:=by
 have u:A own=X:=by rw[I own ho,O]; unfold gO; rw[if_pos rfl]
 rw[u]at W;refine⟨W,?_⟩;have wk:∀ j,j<X.length→s_ L C A own 0 j (out.getD j [])→(gi (out.getD j []) 1).int=1:=by
  intro j y J;obtain⟨kd,w,v,hrow,J⟩:=J;rw[hrow];have B:X.getD j []∈X:=l4 y;have U:∀ k,k<L.length→C k=bA (X.getD j [])→br A C own 0 k=iZ X (cY g X (bA (X.getD j []))) g (bA (X.getD j [])) 0:=fun k hk d=>by
   unfold br;rw[u,I k hk,O,d];unfold gO;rw[if_neg (hg _ B)]
  rcases J with⟨k,i,hk,hi,d,hw,hv,hp,M⟩|⟨N,_⟩
  ·rw [u] at d M
   have d:C k=bA (X.getD j []):=d;rw[U k hk d]at hp;have hm:=afq hX g (bA (X.getD j [])) hp;have hAk:A k=cY g X (bA (X.getD j [])):=by rw[I k hk,d]; unfold gO; rw[if_neg (hg _ B)]
   rw[hAk,hm,afP]at M;rcases M with⟨h1,_⟩|⟨_,q⟩
   ·exact h1
   ·cases q
  ·refine (N ?_).elim
   obtain⟨k,hk,d⟩:=hall (bA (X.getD j [])) ((wu X _).2 ⟨_,B,rfl⟩);obtain⟨i,hi⟩:=afp hX g (bA (X.getD j [])) y rfl;exact⟨k,i,hk,by rw[u]; exact d,by rw[U k hk d]; exact hi⟩
 intro j y;have hj':j<out.length:=by omega
 have tk:∀ i,i<j→(out.take j).getD i []=out.getD i []:=fun i hi=>by
  rw[bG,Su hi,bG]
 have tl:(out.take j).length=j:=by rw[jA]; omega
 rcases h j hj' with⟨h1,q⟩|⟨h1,q⟩
 ·rw [u] at q
  obtain⟨i,hi,he,_⟩:=AF.1 q;exact .inl ⟨by rw[h1]; rfl,i,by omega,he⟩
 ·rw [u] at q
  refine .inr ⟨wk j y h1,fun i hi=>?_⟩;cases he:aK [.str,.str,.int .i64] (c8 (X.getD j [])) (c8 (X.getD i []))with
  |false=>rfl
  | true =>
   have:seenIn X (out.take j) (c8 (X.getD j []))=true:=by
    rcases h i (by omega)with⟨g1,g2⟩|⟨g1,g2⟩
    ·rw [u] at g2
     obtain⟨n,N,aw,V⟩:=AF.1 g2;have hni:n<i:=by
      rw[jA]at N;omega
     have e1:(out.take i).getD n []=out.getD n []:=by rw[bG,Su hni,bG]
     rw[e1]at V;exact AF.2 ⟨n,by omega,p6 he aw,by rw[tk n (by omega)]; exact V⟩
    ·refine AF.2 ⟨i, by omega, he, ?_⟩
     rw[tk i hi];unfold oN;rw[wk i (by omega) g1];rfl
   rw[this]at q;cases q
def fC:ByteArray:=⟨#[103,52,122,122,122]⟩
theorem afR:fC∈calls:=List.mem_append_right _ (tv.2 rfl)
theorem afS:iY fC=true:=by kernel_rfl
theorem afT{c:ByteArray}(h:c∈lW):c≠fC:=by
 have k:(lW.all fun c => !ow c fC)=true:=by kernel_rfl
 have d:=dq.1 k c h;rintro rfl;rw[show ow fC fC=true by kernel_rfl]at d;cases d
theorem afU{z:List G}(h:lj z):bA z≠fC:=by
 obtain⟨t,m,b,c,s,h,x,y,rfl,_,_,_,_,_,d,_⟩:=h;exact afT d
/-! ### k there one h it d -/
theorem RL(X:List (List G)){j:Nat}(h:j<X.length)(z:List G):z8 [.l [z],.l [[.l X]],.l [[.i (j:Int)]]]=some [.t (aK [.str,.str,.int .i64] (c8 z) (c8 (X.getD j [])))]:=by
 have e:aK [.str,.str,.int .i64] (c8 z) (c8 (X.getD j []))=((gi z 3).str.toList==(gi (X.getD j []) 3).str.toList&&((gi z 2).str.toList==(gi (X.getD j []) 2).str.toList&&((gi z 1).int==(gi (X.getD j []) 1).int&&true))):=rfl;refine aa.toEq ?_;unfold z8
 (dsimp +instances only[Aa,Ab,Ac,Ad,Ae,Af,Ag])
 simp only[bD];rw[e,Bool.and_true];refine aa.p ?_;refine aa.test (fun h1=>?_) fun h1=>?_
 ·rw [h1, jW]
  refine aa.p ?_;refine aa.test (fun d=>?_) fun d=>?_
  ·rw [d, jW]
   exact aa.p (aa.some rfl)
  ·rw [d, HB]
   exact aa.some rfl
 ·rw [h1, HB]
  exact aa.some rfl
theorem RM(X:List (List G)){j:Nat}(q:j<X.length)(u:∀ z∈X,aM [.int .i64,.int .i64,.str,.str,.int .i64,.int .i64,.str,.str] z=z)(J:X.length≤1000)(k:Nat)(hk:k≤X.length):∀(d i:Nat),i+d=k →
  aZ sT [.l (X.take k),.l [[.l X]],.l [[.i (j:Int)]],.i (k:Int),.i (i:Int)] (d+1) fun x g =>
   (x=0∧(∃ n:Nat,i≤n∧n<k∧aK [.str,.str,.int .i64] (c8 (X.getD n [])) (c8 (X.getD j []))=true∧g=[.i (n:Int)]))∨(x=1∧∀ n,i≤n→n<k→aK [.str,.str,.int .i64] (c8 (X.getD n [])) (c8 (X.getD j []))=false)
 | 0,i,hi=>by
  refine aZ.stop (x:=1) (d':=[]) (aa.toEq ?_) (.inr ⟨rfl,fun n h1 v=>by omega⟩);unfold sT
  (dsimp +instances only[Aa,Ab,Ac,Ad,Ae,Af,Ag])
  exact aa.n (aa.some rfl)
 | d+1,i,hi=>by
  have y:(X.take k).getD i []=X.getD i []:=by rw[bG,Su (by omega),bG]
  have B:(X.take k).length=k:=by rw[jA]; omega
  have I:=u (X.getD i []) (l4 (by omega));cases h:aK [.str,.str,.int .i64] (c8 (X.getD i [])) (c8 (X.getD j []))with
  | true =>
   refine aZ.stop (x:=0) (d':=[.i (i:Int)]) (aa.toEq ?_) (.inl ⟨rfl,i,aD _,by omega,h,rfl⟩);unfold sT
   (dsimp +instances only[Aa,Ab,Ac,Ad,Ae,Af,Ag])
   simp only[bD,y,I,B];refine aa.p (aa.p ?_);refine aa.cE (RL X q _) ?_;exact aa.pos h (aa.some rfl)
  | false =>
   refine aZ.next (d1:=[.l (X.take k),.l [[.l X]],.l [[.i (j:Int)]],.i (k:Int),.i ((i+1:Nat):Int)]) (aa.toEq ?_) ?_
   ·unfold sT
    (dsimp +instances only[Aa,Ab,Ac,Ad,Ae,Af,Ag])
    simp only[bD,y,I,B];refine aa.p (aa.p ?_);refine aa.cE (RL X q _) ?_;refine aa.neg h (aa.p (aa.some ?_));rw[A5]
   ·obtain ⟨n, x, d', h1, v, M⟩ := RM X q u J k hk d (i + 1) (by omega)
    refine⟨n,x,d',h1,v,?_⟩;rcases M with⟨rfl,m,m1,m2,m3,rfl⟩|⟨rfl,hm⟩
    ·exact .inl ⟨rfl,m,by omega,m2,m3,rfl⟩
    ·refine .inr ⟨rfl, fun m m1 m2 => ?_⟩
     by_cases e:m=i
     ·subst e
      exact h
     ·exact hm m (by omega) m2
theorem afV(X:List (List G)){j:Nat}(q:j<X.length)(u:∀ z∈X,aM [.int .i64,.int .i64,.str,.str,.int .i64,.int .i64,.str,.str] z=z)(d:X.length≤1000) :
  aa (z_ [.l (X.take j),.l [[.l X]],.l [[.i (j:Int)]]]) fun g=>∃ b,g=[.t b]∧(b=true→∃ i,i<j∧aK [.str,.str,.int .i64] (c8 (X.getD j [])) (c8 (X.getD i []))=true)∧(b=false→∀ i,i<j→aK [.str,.str,.int .i64] (c8 (X.getD j [])) (c8 (X.getD i []))=false):=by
 unfold z_
 (dsimp +instances only[Aa,Ab,Ac,Ad,Ae,Af,Ag])
 refine aa.call (P:=fun g=>(∃ n:Nat,n<j∧aK [.str,.str,.int .i64] (c8 (X.getD n [])) (c8 (X.getD j []))=true∧g=[.i (n:Int)])∨(g=[.i (-1)]∧∀ n,n<j→aK [.str,.str,.int .i64] (c8 (X.getD n [])) (c8 (X.getD j []))=false)) ?_ ?_
 ·unfold Gi
  (dsimp +instances only[Aa,Ab,Ac,Ad,Ae,Af,Ag])
  have v:(X.take j).length=j:=by rw[jA]; omega
  rw[v];refine aa.loop ((RM X q u d j (by omega) j 0 (by omega)).to (by omega)) rfl ?_;rintro _ _ (⟨rfl,n,_,k,y,rfl⟩|⟨rfl,h⟩)
  ·exact aa.pos rfl (aa.some (.inl ⟨n,k,y,rfl⟩))
  ·exact aa.neg rfl (aa.some (.inr ⟨rfl,fun n d=>h n (by omega) d⟩))
 ·rintro _ (⟨n, h1, k, rfl⟩ | ⟨rfl, h⟩)
  ·refine aa.some ⟨_, rfl, fun _ => ⟨n, h1, by rw [mV]; exact k⟩, fun hb => ?_⟩
   have hb:ba 0 (n:Int)=false:=hb;rw[fv,decide_eq_false_iff_not]at hb;omega
  ·refine aa.some ⟨_, rfl, fun hb => ?_, fun _ i hi => by rw [mV]; exact h i hi⟩
   cases hb
/-! ### d is lost -/
theorem RN{X k:List (List G)}(q:k.length=X.length)(hg:tc X k)(u:X.length≤1000):∀(d i:Nat),i+d=k.length →
  aZ vW [.i 3,.i 0,.l k,.i (k.length:Int),.i (i:Int)] (d+1) fun x g=>x=0∧g=[.i 0]
 | 0,i,hi=>by
  refine aZ.stop (x:=0) (aa.toEq ?_) ⟨rfl,rfl⟩;unfold vW
  (dsimp +instances only[Aa,Ab,Ac,Ad,Ae,Af,Ag])
  exact aa.n (aa.some rfl)
 | d+1,i,hi=>by
  refine aZ.next (d1:=[.i 3,.i 0,.l k,.i (k.length:Int),.i ((i+1:Nat):Int)]) (aa.toEq ?_) (RN q hg u d (i+1) (by omega))
  unfold vW
  (dsimp +instances only[Aa,Ab,Ac,Ad,Ae,Af,Ag])
  simp only[bD];refine aa.p (aa.p ?_);refine aa.call (P:=fun g=>g=[.t false]) ?_ ?_
  ·unfold Gb
   (dsimp +instances only[Aa,Ab,Ac,Ad,Ae,Af,Ag])
   rcases hg i (by omega)with⟨h,_⟩|⟨h,_⟩
   ·rw[h]; exact⟨_,rfl,rfl⟩
   ·rw[h]; exact⟨_,rfl,rfl⟩
  rintro _ rfl;refine aa.neg rfl (aa.p (aa.some ?_));rw[A5]
theorem RO{X k:List (List G)}(J:k.length=X.length)(hg:tc X k)(u:∀ z∈X,aM [.int .i64,.int .i64,.str,.str,.int .i64,.int .i64,.str,.str] z=z)(v:X.length≤1000):∀(d i:Nat),i+d=k.length →
  aZ vX [.l X,.l k,.i (k.length:Int),.i (i:Int)] (d+1) fun x _=>x=1
 | 0,i,hi=>by
  refine aZ.stop (x:=1) (d':=[]) (aa.toEq ?_) rfl;unfold vX
  (dsimp +instances only[Aa,Ab,Ac,Ad,Ae,Af,Ag])
  exact aa.n (aa.some rfl)
 | d+1,i,hi=>by
  refine aZ.next (d1:=[.l X,.l k,.i (k.length:Int),.i ((i+1:Nat):Int)]) (aa.toEq ?_) (RO J hg u v d (i+1) (by omega))
  unfold vX
  (dsimp +instances only[Aa,Ab,Ac,Ad,Ae,Af,Ag])
  simp only[bD];refine aa.p (aa.p (aa.p ?_));refine aa.call (afV X (by omega) u v) ?_;rintro _ ⟨b,rfl,M,hF⟩
  (dsimp +instances only[Aa,Ab,Ac,Ad,Ae,Af,Ag])
  have y:(i:Int)+1=((i+1:Nat):Int):=by rw[A5]
  cases b with
  | true =>
   obtain⟨n,I,q⟩:=M rfl;have hk:(gi (k.getD i []) 1).int=6:=by
    rcases hg i (by omega)with⟨h,_⟩|⟨_,h⟩
    ·exact h
    ·rw[h n I]at q; cases q
   rw[hk];refine aa.neg rfl (aa.neg rfl (aa.p (aa.some ?_)));rw[y]
  | false =>
   have hk:(gi (k.getD i []) 1).int=1:=by
    rcases hg i (by omega)with⟨_,n,h1,B⟩|⟨h,_⟩
    ·rw[hF rfl n h1]at B; cases B
    ·exact h
   rw[hk];refine aa.neg rfl (aa.pos rfl (aa.neg rfl (aa.p (aa.some ?_))));rw[y]
theorem afW(rows:List (List G)):Gm [.l rows]=some [.t true]:=by
 refine aa.toEq ?_;unfold Gm
 (dsimp +instances only[Aa,Ab,Ac,Ad,Ae,Af,Ag])
 refine aa.call (P4 rows 0 0 8 (by omega) (by omega) (by omega) (by omega) (by omega)) ?_;rintro _ ⟨n,rfl,M,n1⟩
 (dsimp +instances only[Aa,Ab,Ac,Ad,Ae,Af,Ag])
 refine aa.call (aeA rows _ n (by omega) (by omega) M (by omega)) ?_;rintro _ ⟨p,X,rfl,p0,p1,y,V,B⟩
 (dsimp +instances only[Aa,Ab,Ac,Ad,Ae,Af,Ag])
 have hC:∀ z∈X,dy z:=fun z d=>(y z d).to;have hF:=Rc B;have hX:AE X:=afG B;have hg:∀ z∈X,bA z≠fC:=fun z d=>afU (y z d);have W:X.length≤8:=by omega
 refine aa.call (P:=fun g=>g=[.l (jx fC X)]) (aa.eq (afF fC X hg (by omega))) ?_;rintro _ rfl
 (dsimp +instances only[Aa,Ab,Ac,Ad,Ae,Af,Ag])
 have R:=afL afR afS hX hC hF hg (by omega);have S:=R.afh;have u:=afk R;have hlen:(jx fC X).length=(eo fC X).length:=by unfold jx; rw[cN]
 obtain⟨own,ho,q⟩:=RG (g:=fC) (X:=X) (k:=fC) cO;have ho:own<(jx fC X).length:=by omega
 refine aa.cE u ?_;refine aa.neg rfl ?_;have fd:=afO S ho 0 (by omega) (by omega) u;have J:=RJ S ho 0 (by omega) (by omega) u;rw[q]at fd J;have I:∀{out:List (List G)},out.length=(gO fC X (fj fC X own)).length→oO (jx fC X) (fj fC X) (fun i=>gO fC X (fj fC X i)) own 0 out→out.length=X.length∧tc X out:=fun N h =>
  afQ S ho hX hg q (fun i _=>rfl) (fun k hk=>by
   obtain⟨i,hi,e⟩:=RG (g:=fC) (X:=X) (k:=k) (c9 _ hk);exact⟨i,by omega,e⟩) N h
 refine aa.call (P:=fun g=>∃ out,g=[.l out,.i 0]∧out.length=X.length∧tc X out) (fd.mono fun g ⟨out,e,h1,v⟩=>⟨out,e,I (by rw[q]; exact h1) v⟩) ?_;rintro _ ⟨out,rfl,o1,o2⟩
 (dsimp +instances only[Aa,Ab,Ac,Ad,Ae,Af,Ag])
 refine aa.call (P:=fun g=>g=[.i 0,.i 0]) ?_ ?_
 ·unfold Ge
  (dsimp +instances only[Aa,Ab,Ac,Ad,Ae,Af,Ag])
  refine aa.call (P:=fun g=>∃ out,g=[.l out,.i (own:Int),.i 0]∧out.length=X.length∧tc X out) (J.mono fun g ⟨out,e,h1,v⟩=>⟨out,e,I (by rw[q]; exact h1) v⟩) ?_;rintro _ ⟨out,rfl,O,U⟩
  (dsimp +instances only[Aa,Ab,Ac,Ad,Ae,Af,Ag])
  refine aa.neg rfl ?_;refine aa.cE (sV 3 0 10) ?_;refine aa.neg rfl ?_;refine aa.loop ((RN O U (by omega) out.length 0 (by omega)).to (by omega)) rfl ?_;rintro _ _ ⟨rfl,rfl⟩;exact aa.some rfl
 rintro _ rfl
 (dsimp +instances only[Aa,Ab,Ac,Ad,Ae,Af,Ag])
 refine aa.neg rfl (aa.neg rfl (aa.neg (by rw[o1]; simp) (aa.neg rfl ?_)));refine aa.loop ((RO o1 o2 (fun z d=>(hC z d).eta) (by omega) out.length 0 (by omega)).to (by omega)) rfl ?_;rintro _ _ rfl;exact aa.neg rfl ⟨_,rfl,rfl⟩
end
end Go.Proofs.gY
