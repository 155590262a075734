/-
 What is proved here: the library's sorted keys of a map (slices.Sorted of maps.Keys),as a function on data (by the kit's own contracts). No program in sight; what is asked is that the library's text lies in the program.
-/
import Derived.Test.YtppdbdblllpimaaGreatDoorMG
import Derived.Shelf.SlIter.Nil
import Derived.Maps.OwnSet
set_option linter.all false
open Go.DataW renaming insert→UP
open Go.Fence renaming wide→Kp
open Go.WideShapes renaming sorted_perm→akc
open List renaming mem_map→bR,getElem?_map→cy,map_cons→dK,map_map→gG,headD_cons→ph,pairwise_map→qP,mem_map_of_mem→KF
open Nat renaming le_trans→nJ,mul_one→Kw
namespace Go.AL
open Go Go.Proofs Go.Maps Go.ChangeMaps Go.MapKept
open Go.WideElems (Fit rd rg)
variable [Dr]
def gz(r:List G):ByteArray:=((gi r 0).row.headD default).str
def ml(rows:List (List G)):List (List G):=((rows.map fun r=>(gz r).data.toList).mergeSort leB).map fun d=>[G.s ⟨d.toArray⟩]
structure GA (rows:List (List G)) (clock:Nat):Prop where
 st:eA rows clock=true
 size:∀ r∈rows,(gz r).size≤maxLen
 nodup:(rows.map fun r=>(gz r).data.toList).Nodup
 small:rows.length≤1048576
open Classical in
noncomputable def Bx(d:List G):Option (List G) :=
 if GA (gi d 0).rows (gi d 1).int.toNat then some [.l (gi d 0).rows,.i (((gi d 1).int.toNat:Nat):Int),.l (ml (gi d 0).rows)] else none
theorem NV{E:Env}{V:Ct}:∀{rows:List (List G)} {ms:List MapEntry},bT E (cC (.one .str) V rows) ms→ms.map (·.key)=rows.map (fun r=>Value.string (gz r))∧ms.map (·.born)=rows.map bI
 | [],[],_=>⟨rfl,rfl⟩
 | [],_::_,h=>by simp[cC,bT]at h
 |_::_,[],h=>by simp[cC,bT]at h
 | r::rows,e::ms,h=>by
  simp only[cC,dK,bT]at h;obtain⟨h1,d⟩:=NV (V:=V) (rows:=rows) (ms:=ms) h.2.2.2.2.2;have hk:e.key=.string (gz r):=by
   have:=h.1;simp only[Ct.av,iP,rel]at this;exact this
  exact⟨by simp only[dK,h1,hk],by simp only[dK,d,h.2.2.1,bI]⟩
theorem strKeys_perm{P:Program}{k:TypeId}(hk:P.underlying k=some .string){R:Value→Option (DataW Unit × List MemPlace)}(B:∀ v,R v=some (.nil,[])){ms:List MapEntry}{ks:List ByteArray}(h:ms.map (·.key)=ks.map Value.string)(hs:∀ b∈ks,b.size≤maxLen) :
  (strKeys (.map ((ms.map (rg P k R)).foldr UP []))).Perm (ks.map fun b=>b.data.toList)∧(∀ x∈ms,∃ y,rd P k R x=some y):=by
 have key:∀ x∈ms,∃ b∈ks,x.key=.string b∧rd P k R x=some (.string b.data.toList,.nil):=fun x d=>by
  have:x.key∈ms.map (·.key):=KF d;rw[h]at this;obtain⟨b,q,e⟩:=bR.1 this;refine⟨b,q,e.symm,?_⟩;have A:=hs b q;unfold WideElems.rd;rw[←e,B];simp[keyOf,hk,mapKey,A]
 refine⟨?_,fun x d=>by
  obtain⟨b,_,_,g⟩:=key x d;exact⟨_,g⟩⟩
 have F:=(akc (ms.map (rg P k R))).map fun p=>strOf p.1;refine F.trans ?_;rw[gG];have e:ms.map ((fun p:Lit × DataW Unit=>strOf p.1) ∘ rg P k R)=ks.map fun b=>b.data.toList:=by
  have I:ms.map ((fun p:Lit × DataW Unit=>strOf p.1) ∘ rg P k R)=(ms.map (·.key)).map fun v=>match v with | .string b=>b.data.toList|_=>[]:=by
   rw[gG];refine List.map_congr_left fun x d=>?_;obtain⟨b,_,h1,g⟩:=key x d;simp only[Function.comp_apply,WideElems.rg,g,Option.getD_some,h1,strOf]
  rw[I,h,gG];rfl
 rw[e]
section
variable {P:Program} {ρ ρ':Go.Shelf.Ren}
theorem YS(hd:DV=false)(LS:SlLaysZ.n6 P ρ)(LK:SlLaysZ.n10 P ρ')(hsort:∀ m,AnyZ.SortsIn P ρ Kp m)(h9:dN P (ρ.f 9)=true)(hg:dN P (ρ'.f 10)=true)(V:Ct)(d r:List G)(h:Bx d=some r) :
  cz P (ρ.f 6) (dH (bE [.box [.map 1],.map (.one .str) V] d) [.clo (ρ'.f 10) [.ptr 0 0]] (dB 2 d)) (ai (ca (bE [.box [.map 1],.map (.one .str) V] d) [.box [.map 1],.map (.one .str) V] d))
   (cK (dH (bE [.box [.map 1],.map (.one .str) V] r) [.s (.list [.str])] (dB 2 r))) (ai (ca (bE [.box [.map 1],.map (.one .str) V] r) [.box [.map 1],.map (.one .str) V] r)):=by
 have e0:gi d 0=d.headD default:=rfl;have e1:gi d 1=d.tail.headD default:=by
  cases d with
  |nil=>rfl
  |cons x l=>cases l<;>rfl
 unfold Bx at h;split at h
 case isFalse=>cases h
 rename_i aL;cases h;rw[e0,e1]at aL⊢;generalize hrows:(d.headD default).rows=rows at aL⊢;generalize hclk:(d.tail.headD default).int.toNat=clock at aL⊢;intro E cargs hH HE q;simp only[dH,la,iW,eF,ca,fe,ai,dK,List.map_nil,al.den,dB,eM.sz,Sh.sz,ni,cM.sz,Nat.add_zero,cK]at hH q⊢;rw[hrows,hclk]at hH;simp only[ph,List.tail_cons,G.rows,G.int,Int.toNat_natCast];obtain⟨cs⟩:=cargs
 match cs,q with
 | [c0],q =>
 simp only[ad,and_true]at q;simp only[rel,ad]at q;obtain⟨O,rfl,J⟩:=q;obtain⟨O⟩:=O
 match O,J with
 | [p],J =>
 simp only[ad,rel,and_true]at J;obtain⟨_,_,hlive⟩:=J;have hl0:E.H[0]? = some (af.box [.map 1]):=by rw[hH]; rfl
 have hl1:E.H[1]? = some (af.map (cC (.one .str) V rows) clock):=by rw[hH]; rfl
 obtain⟨b,n,hloc0,rfl⟩:=hlive ⟨_,hl0,rfl⟩;obtain⟨B,n',hloc0',hrow0,hcell0⟩:=HE.obj 0 _ hl0;have hbb:B=b:=by
  rw[hloc0]at hloc0';cases hloc0';rfl
 subst hbb;simp only[cB,and_true]at hcell0;obtain⟨v0,hv0,_,hr0⟩:=hcell0;simp only[rel]at hr0;obtain⟨_,_,hlive1⟩:=hr0;obtain⟨b1,n1,hloc1,rfl⟩:=hlive1 ⟨_,hl1,rfl⟩;obtain⟨N,n1',ms,hloc1',hms,hents⟩:=HE.obj 1 _ hl1;have hbb1:N=b1:=by
  rw[hloc1]at hloc1';cases hloc1';rfl
 subst hbb1;obtain⟨hk,hb⟩:=NV hents;obtain⟨st1,st2⟩:=xq aL.st;obtain⟨R,hR⟩:∃ R:Value→Option (DataW Unit × List MemPlace),∀ v,R v=some (.nil,[]):=⟨fun _=>some (.nil,[]),fun _=>rfl⟩
 have hk':ms.toList.map (·.key)=(rows.map gz).map Value.string:=by rw[hk,gG]; rfl
 obtain⟨hperm,hreads⟩:=strKeys_perm (P:=P) (k:=ρ'.t 26) LK.t26 hR hk' (fun x g=>by
  obtain⟨y,U,rfl⟩:=bR.1 g;exact aL.size y U)
 have hlen:ms.size=rows.length:=by
  have:=congrArg List.length hk;simpa using this
 have F:Fit P (ρ'.t 26) R ms clock:=⟨by rw[hlen]; exact nJ aL.small (by decide),⟨fun x g=>by
   have:x.born∈ms.toList.map (·.born):=KF g;rw[hb]at this;obtain⟨y,U,e⟩:=bR.1 this;have:=st2 y U;omega,by rw[hb]; exact st1,by
   rw[hk'];have:=aL.nodup;rw[List.nodup_iff_pairwise_ne,qP]at this⊢;rw[qP];refine this.imp fun hne e=>hne ?_;injection e with e
   rw[e]⟩,hreads⟩
 have hown:=World.ownsMap_of_fit (w:=E.w) (b:=N) (R:=R) hms F (fun _ _ _ h=>h);have hsz:Maps.size (DataW.map ((ms.toList.map (rg P (ρ'.t 26) R)).foldr UP []))=rows.length:=by
  show (List.foldr UP [] (ms.toList.map (rg P (ρ'.t 26) R))).length=_
  rw[(akc _).length_eq,List.length_map];simpa using hlen
 have hblt:B<E.w.heap.size:=(HE.lt 0 B n hloc0).1;have hseq:=AnyZ.keys_gives (ρ:=ρ') LK Kp 2 trivial rfl (by omega) B N ms.size _ E.w hblt (by simpa using hv0) hown;have cS:=AnyZ.sorted_in LS Kp 5 trivial trivial trivial trivial rfl (by omega) (hsort _) (fun args w=>tL h9 args w) (ρ'.f 10) #[.pointer (some ⟨B,0,none⟩)] trivial (fun args w=>tL hg args w) _ _ (by rw[hsz]; exact nJ aL.small (by decide)) (by rw[hsz]; have:=aL.small; omega) E.w hseq;refine((callsIn_wide (n:=5)).1 cS).mono ?_;rintro e w' ⟨v,ss,rfl,hS,hrow,hnil,A⟩;have hss:ss.Perm ((rows.map gz).map fun b=>b.data.toList):=hS.trans hperm;have Y:ss.mergeSort leB=(rows.map fun r=>(gz r).data.toList).mergeSort leB:=by
  rw[mergeSort_of_perm hss,gG];rfl
 have hext:Ext E.w w':=⟨A.size,fun x g=>A.block x g,A.os,A.output,A.tape,fun ht=>by rw[hd]at ht; cases ht⟩
 refine⟨v,_,_,rfl,⟨rfl,rfl⟩,E.loc,E.X.r,?_,?_,?_⟩
 ·simp only [rel, dP, G.rows]
  have I:(ml rows).length=ss.length:=by
   unfold ml;rw[←Y];simp
  rcases hrow.2 with⟨rfl,W⟩|⟨gb,cap,cur,rfl,hbase,hgb,r1,r2,r3,r4⟩
  ·exact⟨none,0,by rw[I,W],by rw[I,W]; exact Nat.le_refl _,.inl (List.eq_nil_of_length_eq_zero (by rw[I,W]))⟩
  ·refine ⟨_, cap, by rw [I], by rw [I]; exact r1, .inr ⟨gb, 0, rfl, ⟨(Array.getElem?_eq_some_iff.1 hgb).1, ?_, fun g => by have := HE.X gb g; omega⟩, fun i x hi => ?_⟩⟩
   ·rintro ho
    have:=(HE.vU ho).1;omega
   ·unfold ml at hi
    rw[←Y,cy]at hi;cases M:(ss.mergeSort leB)[i]? with
    |none=>rw[M]at hi; cases hi
    | some bs =>
     rw[M]at hi;cases hi;simp only[kl,dP,ph,List.length_cons,List.length_nil,Nat.zero_add,Kw,and_true,G.str];have hlt:i<ss.length:=by
      have:=aM M;simpa using this
     have hc:cur[i]? = some (encStr bs):=by
      have:=congrArg (fun l=>l[i]?) r4;simp only[Kw]at this;rw[List.getElem?_take,if_pos hlt,cy,M]at this;simpa using this
     refine⟨encStr bs,?_,rfl,rfl⟩;unfold World.cell?;rw[hgb];simpa using hc
 ·rw [← hH]
  exact HE.ext hext
 ·rw [← hH]
  exact Env.gL hext
end
end Go.AL
