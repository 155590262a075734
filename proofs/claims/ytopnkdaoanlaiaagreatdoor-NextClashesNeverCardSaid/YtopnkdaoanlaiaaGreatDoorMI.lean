/-
 What is proved here: the library's sorted keys of a map (slices.Sorted of maps.Keys),as a function on data (by the kit's own contracts). No program in sight; what is asked is that the library's text lies in the program.
-/
import Derived.Test.YtopnkdaoanlaiaaGreatDoorMG
import Derived.Shelf.SlIter.Nil
import Derived.Maps.OwnSet
set_option linter.all false
open Go.DataW renaming insert→Tq
open Go.Fence renaming wide→IS
open Go.WideShapes renaming sorted_perm→aiH
open List renaming mem_map→bR,getElem?_map→cq,map_cons→dA,map_map→iK,headD_cons→oq,pairwise_map→p_,mem_map_of_mem→CA
open Nat renaming le_trans→mS,mul_one→IZ
namespace Go.AL
open Go Go.Proofs Go.Maps Go.ChangeMaps Go.MapKept
open Go.WideElems (Fit rd rg)
variable [Dr]
def fT(r:List G):ByteArray:=((gi r 0).row.headD default).str
def lI(rows:List (List G)):List (List G):=((rows.map fun r=>(fT r).data.toList).mergeSort leB).map fun d=>[G.s ⟨d.toArray⟩]
structure Fc (rows:List (List G)) (clock:Nat):Prop where
 st:eC rows clock=true
 size:∀ r∈rows,(fT r).size≤maxLen
 nodup:(rows.map fun r=>(fT r).data.toList).Nodup
 small:rows.length≤1048576
open Classical in
noncomputable def AG(d:List G):Option (List G) :=
 if Fc (gi d 0).rows (gi d 1).int.toNat then some [.l (gi d 0).rows,.i (((gi d 1).int.toNat:Nat):Int),.l (lI (gi d 0).rows)] else none
theorem Mn{E:Env}{V:Ct}:∀{rows:List (List G)} {ms:List MapEntry},bP E (cN (.one .str) V rows) ms→ms.map (·.key)=rows.map (fun r=>Value.string (fT r))∧ms.map (·.born)=rows.map cd
 | [],[],_=>⟨rfl,rfl⟩
 | [],_::_,h=>by simp[cN,bP]at h
 |_::_,[],h=>by simp[cN,bP]at h
 | r::rows,e::ms,h=>by
  simp only[cN,dA,bP]at h;obtain⟨h1,d⟩:=Mn (V:=V) (rows:=rows) (ms:=ms) h.2.2.2.2.2;have hk:e.key=.string (fT r):=by
   have:=h.1;simp only[Ct.av,ib,rel]at this;exact this
  exact⟨by simp only[dA,h1,hk],by simp only[dA,d,h.2.2.1,cd]⟩
theorem strKeys_perm{P:Program}{k:TypeId}(hk:P.underlying k=some .string){R:Value→Option (DataW Unit × List MemPlace)}(B:∀ v,R v=some (.nil,[])){ms:List MapEntry}{ks:List ByteArray}(h:ms.map (·.key)=ks.map Value.string)(F:∀ b∈ks,b.size≤maxLen) :
  (strKeys (.map ((ms.map (rg P k R)).foldr Tq []))).Perm (ks.map fun b=>b.data.toList)∧(∀ x∈ms,∃ y,rd P k R x=some y):=by
 have key:∀ x∈ms,∃ b∈ks,x.key=.string b∧rd P k R x=some (.string b.data.toList,.nil):=fun x d=>by
  have:x.key∈ms.map (·.key):=CA d;rw[h]at this;obtain⟨b,q,e⟩:=bR.1 this;refine⟨b,q,e.symm,?_⟩;have A:=F b q;unfold WideElems.rd;rw[←e,B];simp[keyOf,hk,mapKey,A]
 refine⟨?_,fun x d=>by
  obtain⟨b,_,_,g⟩:=key x d;exact⟨_,g⟩⟩
 have I:=(aiH (ms.map (rg P k R))).map fun p=>strOf p.1;refine I.trans ?_;rw[iK];have e:ms.map ((fun p:Lit × DataW Unit=>strOf p.1) ∘ rg P k R)=ks.map fun b=>b.data.toList:=by
  have J:ms.map ((fun p:Lit × DataW Unit=>strOf p.1) ∘ rg P k R)=(ms.map (·.key)).map fun v=>match v with | .string b=>b.data.toList|_=>[]:=by
   rw[iK];refine List.map_congr_left fun x d=>?_;obtain⟨b,_,h1,g⟩:=key x d;simp only[Function.comp_apply,WideElems.rg,g,Option.getD_some,h1,strOf]
  rw[J,h,iK];rfl
 rw[e]
section
variable {P:Program} {ρ ρ':Go.Shelf.Ren}
theorem Xp(hd:CE=false)(LS:SlLaysZ.n6 P ρ)(LK:SlLaysZ.n10 P ρ')(hsort:∀ m,AnyZ.SortsIn P ρ IS m)(h9:dE P (ρ.f 9)=true)(hg:dE P (ρ'.f 10)=true)(V:Ct)(d r:List G)(h:AG d=some r) :
  cg P (ρ.f 6) (dL (bB [.box [.map 1],.map (.one .str) V] d) [.clo (ρ'.f 10) [.ptr 0 0]] (dv 2 d)) (aj (bZ (bB [.box [.map 1],.map (.one .str) V] d) [.box [.map 1],.map (.one .str) V] d))
   (ct (dL (bB [.box [.map 1],.map (.one .str) V] r) [.s (.list [.str])] (dv 2 r))) (aj (bZ (bB [.box [.map 1],.map (.one .str) V] r) [.box [.map 1],.map (.one .str) V] r)):=by
 have e0:gi d 0=d.headD default:=rfl;have e1:gi d 1=d.tail.headD default:=by
  cases d with
  |nil=>rfl
  |cons x l=>cases l<;>rfl
 unfold AG at h;split at h
 case isFalse=>cases h
 rename_i aL;cases h;rw[e0,e1]at aL⊢;generalize hrows:(d.headD default).rows=rows at aL⊢;generalize hclk:(d.tail.headD default).int.toNat=clock at aL⊢;intro E cargs hH HE q;simp only[dL,lz,iq,eA,bZ,eX,aj,dA,List.map_nil,ak.den,dv,ew.sz,Sh.sz,mq,cn.sz,Nat.add_zero,ct]at hH q⊢;rw[hrows,hclk]at hH;simp only[oq,List.tail_cons,G.rows,G.int,Int.toNat_natCast];obtain⟨cs⟩:=cargs
 match cs,q with
 | [c0],q =>
 simp only[ad,and_true]at q;simp only[rel,ad]at q;obtain⟨O,rfl,J⟩:=q;obtain⟨O⟩:=O
 match O,J with
 | [p],J =>
 simp only[ad,rel,and_true]at J;obtain⟨_,_,hlive⟩:=J;have hl0:E.H[0]? = some (af.box [.map 1]):=by rw[hH]; rfl
 have hl1:E.H[1]? = some (af.map (cN (.one .str) V rows) clock):=by rw[hH]; rfl
 obtain⟨b,n,hloc0,rfl⟩:=hlive ⟨_,hl0,rfl⟩;obtain⟨B,n',hloc0',hrow0,hcell0⟩:=HE.obj 0 _ hl0;have hbb:B=b:=by
  rw[hloc0]at hloc0';cases hloc0';rfl
 subst hbb;simp only[ca,and_true]at hcell0;obtain⟨v0,hv0,_,hr0⟩:=hcell0;simp only[rel]at hr0;obtain⟨_,_,hlive1⟩:=hr0;obtain⟨b1,n1,hloc1,rfl⟩:=hlive1 ⟨_,hl1,rfl⟩;obtain⟨N,n1',ms,hloc1',hms,hents⟩:=HE.obj 1 _ hl1;have hbb1:N=b1:=by
  rw[hloc1]at hloc1';cases hloc1';rfl
 subst hbb1;obtain⟨hk,hb⟩:=Mn hents;obtain⟨st1,st2⟩:=Aq aL.st;obtain⟨R,hR⟩:∃ R:Value→Option (DataW Unit × List MemPlace),∀ v,R v=some (.nil,[]):=⟨fun _=>some (.nil,[]),fun _=>rfl⟩
 have hk':ms.toList.map (·.key)=(rows.map fT).map Value.string:=by rw[hk,iK]; rfl
 obtain⟨hperm,hreads⟩:=strKeys_perm (P:=P) (k:=ρ'.t 26) LK.t26 hR hk' (fun x g=>by
  obtain⟨y,U,rfl⟩:=bR.1 g;exact aL.size y U)
 have hlen:ms.size=rows.length:=by
  have:=congrArg List.length hk;simpa using this
 have F:Fit P (ρ'.t 26) R ms clock:=⟨by rw[hlen]; exact mS aL.small (by decide),⟨fun x g=>by
   have:x.born∈ms.toList.map (·.born):=CA g;rw[hb]at this;obtain⟨y,U,e⟩:=bR.1 this;have:=st2 y U;omega,by rw[hb]; exact st1,by
   rw[hk'];have:=aL.nodup;rw[List.nodup_iff_pairwise_ne,p_]at this⊢;rw[p_];refine this.imp fun hne e=>hne ?_;injection e with e
   rw[e]⟩,hreads⟩
 have hown:=World.ownsMap_of_fit (w:=E.w) (b:=N) (R:=R) hms F (fun _ _ _ h=>h);have hsz:Maps.size (DataW.map ((ms.toList.map (rg P (ρ'.t 26) R)).foldr Tq []))=rows.length:=by
  show (List.foldr Tq [] (ms.toList.map (rg P (ρ'.t 26) R))).length=_
  rw[(aiH _).length_eq,List.length_map];simpa using hlen
 have hblt:B<E.w.heap.size:=(HE.lt 0 B n hloc0).1;have hseq:=AnyZ.keys_gives (ρ:=ρ') LK IS 2 trivial rfl (by omega) B N ms.size _ E.w hblt (by simpa using hv0) hown;have cS:=AnyZ.sorted_in LS IS 5 trivial trivial trivial trivial rfl (by omega) (hsort _) (fun args w=>sM h9 args w) (ρ'.f 10) #[.pointer (some ⟨B,0,none⟩)] trivial (fun args w=>sM hg args w) _ _ (by rw[hsz]; exact mS aL.small (by decide)) (by rw[hsz]; have:=aL.small; omega) E.w hseq;refine((callsIn_wide (n:=5)).1 cS).mono ?_;rintro e w' ⟨v,ss,rfl,hS,hrow,hnil,A⟩;have hss:ss.Perm ((rows.map fT).map fun b=>b.data.toList):=hS.trans hperm;have Y:ss.mergeSort leB=(rows.map fun r=>(fT r).data.toList).mergeSort leB:=by
  rw[mergeSort_of_perm hss,iK];rfl
 have hext:Ext E.w w':=⟨A.size,fun x g=>A.block x g,A.os,A.output,A.tape,fun ht=>by rw[hd]at ht; cases ht⟩
 refine⟨v,_,_,rfl,⟨rfl,rfl⟩,E.loc,E.X.r,?_,?_,?_⟩
 ·simp only [rel, dC, G.rows]
  have I:(lI rows).length=ss.length:=by
   unfold lI;rw[←Y];simp
  rcases hrow.2 with⟨rfl,W⟩|⟨gb,cap,cur,rfl,hbase,hgb,r1,r2,r3,r4⟩
  ·exact⟨none,0,by rw[I,W],by rw[I,W]; exact Nat.le_refl _,.inl (List.eq_nil_of_length_eq_zero (by rw[I,W]))⟩
  ·refine ⟨_, cap, by rw [I], by rw [I]; exact r1, .inr ⟨gb, 0, rfl, ⟨(Array.getElem?_eq_some_iff.1 hgb).1, ?_, fun g => by have := HE.X gb g; omega⟩, fun i x hi => ?_⟩⟩
   ·rintro ho
    have:=(HE.uU ho).1;omega
   ·unfold lI at hi
    rw[←Y,cq]at hi;cases M:(ss.mergeSort leB)[i]? with
    |none=>rw[M]at hi; cases hi
    | some bs =>
     rw[M]at hi;cases hi;simp only[jH,dC,oq,List.length_cons,List.length_nil,Nat.zero_add,IZ,and_true,G.str];have hlt:i<ss.length:=by
      have:=aJ M;simpa using this
     have hc:cur[i]? = some (encStr bs):=by
      have:=congrArg (fun l=>l[i]?) r4;simp only[IZ]at this;rw[List.getElem?_take,if_pos hlt,cq,M]at this;simpa using this
     refine⟨encStr bs,?_,rfl,rfl⟩;unfold World.cell?;rw[hgb];simpa using hc
 ·rw [← hH]
  exact HE.ext hext
 ·rw [← hH]
  exact Env.gd hext
end
end Go.AL
