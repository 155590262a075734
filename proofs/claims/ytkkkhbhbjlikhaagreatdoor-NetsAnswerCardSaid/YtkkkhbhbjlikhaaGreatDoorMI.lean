/-
 What is proved here: the library's sorted keys of a map (slices.Sorted of maps.Keys),as a function on data (by the kit's own contracts). No program in sight; what is asked is that the library's text lies in the program.
-/
import Derived.Test.YtkkkhbhbjlikhaaGreatDoorMG
import Derived.Shelf.SlIter.Nil
import Derived.Maps.OwnSet
set_option linter.all false
open Go.DataW renaming insert->aaf
open Go.Fence renaming wide->Pa
open Go.WideShapes renaming sorted_perm->atJ
open List renaming getElem?_map->dw,map_cons->eU,map_map->ig,mem_map->cM,headD_cons->nE,pairwise_map->tk,mem_map_of_mem->Pq
open Nat renaming le_trans->gl,mul_one->Ee
namespace Go.AL
open Go Go.Proofs Go.Maps Go.ChangeMaps Go.MapKept
open Go.WideElems (Fit rd rg)
variable [Dr]
def jH(r:LG):BY:=((gi r 0).rV.headD default).sV
def pL(rZ:LL):LL:=((rZ.map fun r=>(jH r).data.toList).mergeSort leB).map fun d=>[G.s ⟨d.toArray⟩]
structure L5 (rZ:LL) (aL:Nat):Prop where
 st:gq rZ aL=true
 size:∀r∈rZ,(jH r).size<=maxLen
 nodup:(rZ.map fun r=>(jH r).data.toList).Nodup
 small:rZ.length<=1048576
open Classical in
noncomputable def F_(d:LG):Option LG:=
 if L5 (gi d 0).rZ (gi d 1).iV.toNat then some [.l (gi d 0).rZ,.i (((gi d 1).iV.toNat:Nat):Int),.l (pL (gi d 0).rZ)] else none
def SM{E:af}{V:Ct}:∀{rZ:LL} {ms:List MapEntry},di E (dH (.one .str) V rZ) ms->ms.map (·.key)=rZ.map (fun r=>Value.string (jH r))/\ms.map (·.born)=rZ.map cP
 |[],[],_=>⟨rfl,rfl⟩
 |[],_::_,h=>by simp[dH,di]at h
 |_::_,[],h=>by simp[dH,di]at h
 |r::rZ,e::ms,h=>by
  simp only[dH,eU,di]at h;obtain⟨d,g⟩:=SM (V:=V) (rZ:=rZ) (ms:=ms) h.2.2.2.2.2;have q:e.key=.string (jH r):=by
   have:=h.1;simp only[Ct.av,mX,ae]at this;exact this
  exact⟨by simp only[eU,d,q],by simp only[eU,g,h.2.2.1,cP]⟩
def strKeys_perm{P:Program}{k:TypeId}(F:P.underlying k=some .string){R:Value->Option (DataW Unit × List MemPlace)}(I:∀ v,R v=some (.nil,[])){d:List MapEntry}{ks:List BY}(h:d.map (·.key)=ks.map Value.string)(hs:∀ b∈ks,b.size<=maxLen) :
  (strKeys (.map ((d.map (rg P k R)).foldr aaf []))).Perm (ks.map fun b=>b.data.toList)/\(∀x∈d,∃y,rd P k R x=some y):=by
 have key:∀x∈d,∃b∈ks,x.key=.string b/\rd P k R x=some (.string b.data.toList,.nil):=fun x g=>by
  have:x.key∈d.map (·.key):=Pq g;rw[h]at this;obtain⟨b,A,e⟩:=cM.1 this;refine⟨b,A,e.symm,?_⟩;have B:=hs b A;unfold WideElems.rd;rw[<-e,I];simp[keyOf,F,mapKey,B]
 refine⟨?_,fun x g=>by
  obtain⟨b,_,_,q⟩:=key x g;exact⟨_,q⟩⟩
 have J:=(atJ (d.map (rg P k R))).map fun p=>strOf p.1;refine J.trans ?_;rw[ig];have e:d.map ((fun p:Lit × DataW Unit=>strOf p.1) ∘ rg P k R)=ks.map fun b=>b.data.toList:=by
  have M:d.map ((fun p:Lit × DataW Unit=>strOf p.1) ∘ rg P k R)=(d.map (·.key)).map fun v=>match v with | .string b=>b.data.toList|_=>[]:=by
   rw[ig];refine List.map_congr_left fun x g=>?_;obtain⟨b,_,N,q⟩:=key x g;simp only[Function.comp_apply,WideElems.rg,q,Option.getD_some,N,strOf]
  rw[M,h,ig];rfl
 rw[e]
section
variable {P:Program} {ρ ρ':Go.Shelf.Ren}
theorem aeg(hd:xX=false)(LS:SlLaysZ.n6 P ρ)(LK:SlLaysZ.n10 P ρ')(hsort:∀ m,AnyZ.SortsIn P ρ Pa m)(h9:eC P (ρ.f 9)=true)(hg:eC P (ρ'.f 10)=true)(V:Ct)(d r:LG)(h:F_ d=some r) :
  e_ P (ρ.f 6) (dS (cd [.box [.map 1],.map (.one .str) V] d) [.clo (ρ'.f 10) [.ptr 0 0]] (eo 2 d)) (aF (cX (cd [.box [.map 1],.map (.one .str) V] d) [.box [.map 1],.map (.one .str) V] d))
   (dA (dS (cd [.box [.map 1],.map (.one .str) V] r) [.s (.list [.str])] (eo 2 r))) (aF (cX (cd [.box [.map 1],.map (.one .str) V] r) [.box [.map 1],.map (.one .str) V] r)):=by
 have e0:gi d 0=d.headD default:=rfl;have e1:gi d 1=d.tail.headD default:=by
  cases d with
  |nil=>rfl
  |cons x l=>cases l<;>rfl
 unfold F_ at h;split at h
 case isFalse=>cases h
 rename_i aV;cases h;rw[e0,e1]at aV|-;generalize hrows:(d.headD default).rZ=rZ at aV|-;generalize hclk:(d.tail.headD default).iV.toNat=aL at aV|-;intro E cargs hH HE A;simp only[dS,lz,ly,fF,cX,gM,aF,eU,List.map_nil,aG.au,eo,fw.sz,Sh.sz,qE,cq.sz,Nat.add_zero,dA]at hH A|-;rw[hrows,hclk]at hH;simp only[nE,List.tail_cons,G.rZ,G.iV,Int.toNat_natCast];obtain⟨cs⟩:=cargs
 match cs,A with
 |[c0],A=>
 simp only[aq,and_true]at A;simp only[ae,aq]at A;obtain⟨U,rfl,M⟩:=A;obtain⟨U⟩:=U
 match U,M with
 |[p],M=>
 simp only[aq,ae,and_true]at M;obtain⟨_,_,hlive⟩:=M;have hl0:E.H[0]?=some (ay.box [.map 1]):=by rw[hH]; rfl
 have hl1:E.H[1]?=some (ay.map (dH (.one .str) V rZ) aL):=by rw[hH]; rfl
 obtain⟨b,n,hloc0,rfl⟩:=hlive ⟨_,hl0,rfl⟩;obtain⟨I,n',hloc0',hrow0,hcell0⟩:=HE.obj 0 _ hl0;have hbb:I=b:=by
  rw[hloc0]at hloc0';cases hloc0';rfl
 subst hbb;simp only[dL,and_true]at hcell0;obtain⟨v0,hv0,_,hr0⟩:=hcell0;simp only[ae]at hr0;obtain⟨_,_,hlive1⟩:=hr0;obtain⟨b1,n1,hloc1,rfl⟩:=hlive1 ⟨_,hl1,rfl⟩;obtain⟨O,n1',g,hloc1',hms,hents⟩:=HE.obj 1 _ hl1;have hbb1:O=b1:=by
  rw[hloc1]at hloc1';cases hloc1';rfl
 subst hbb1;obtain⟨hk,hb⟩:=SM hents;obtain⟨st1,st2⟩:=B6 aV.st;obtain⟨R,hR⟩:∃R:Value->Option (DataW Unit × List MemPlace),∀v,R v=some (.nil,[]):=⟨fun _=>some (.nil,[]),fun _=>rfl⟩
 have hk':g.toList.map (·.key)=(rZ.map jH).map Value.string:=by rw[hk,ig]; rfl
 obtain⟨hperm,hreads⟩:=strKeys_perm (P:=P) (k:=ρ'.t 26) LK.t26 hR hk' (fun x q=>by
  obtain⟨y,W,rfl⟩:=cM.1 q;exact aV.size y W)
 have hlen:g.size=rZ.length:=by
  have:=congrArg List.length hk;simpa using this
 have F:Fit P (ρ'.t 26) R g aL:=⟨by rw[hlen]; exact gl aV.small cD,⟨fun x q=>by
   have:x.born∈g.toList.map (·.born):=Pq q;rw[hb]at this;obtain⟨y,W,e⟩:=cM.1 this;have:=st2 y W;omega,by rw[hb]; exact st1,by
   rw[hk'];have:=aV.nodup;rw[List.nodup_iff_pairwise_ne,tk]at this|-;rw[tk];refine this.imp fun hne e=>hne ?_;injection e with e
   rw[e]⟩,hreads⟩
 have hown:=World.ownsMap_of_fit (w:=E.w) (b:=O) (R:=R) hms F (fun _ _ _ h=>h);have hsz:Maps.size (DataW.map ((g.toList.map (rg P (ρ'.t 26) R)).foldr aaf []))=rZ.length:=by
  show (List.foldr aaf [] (g.toList.map (rg P (ρ'.t 26) R))).length=_
  rw[(atJ _).length_eq,List.length_map];simpa using hlen
 have hblt:I<E.w.heap.size:=(HE.lt 0 I n hloc0).1;have hseq:=AnyZ.keys_gives (ρ:=ρ') LK Pa 2 trivial rfl ab I O g.size _ E.w hblt (by simpa using hv0) hown;have cS:=AnyZ.sorted_in LS Pa 5 trivial trivial trivial trivial rfl ab (hsort _) (fun args w=>vJ h9 args w) (ρ'.f 10) #[.pointer (some ⟨I,0,none⟩)] trivial (fun args w=>vJ hg args w) _ _ (by rw[hsz]; exact gl aV.small cD) (by rw[hsz]; have:=aV.small; omega) E.w hseq;refine((callsIn_wide (n:=5)).1 cS).mono ?_;rintro e w' ⟨v,ss,rfl,hS,hrow,hnil,B⟩;have hss:ss.Perm ((rZ.map jH).map fun b=>b.data.toList):=hS.trans hperm;have hsorted:ss.mergeSort leB=(rZ.map fun r=>(jH r).data.toList).mergeSort leB:=by
  rw[mergeSort_of_perm hss,ig];rfl
 have hext:Ext E.w w':=⟨B.size,fun x q=>B.block x q,B.os,B.output,B.tape,fun ht=>by rw[hd]at ht; cases ht⟩
 refine⟨v,_,_,rfl,⟨rfl,rfl⟩,E.ad,E.X.r,?_,?_,?_⟩
 ·simp only[ae,fN,G.rZ]
  have J:(pL rZ).length=ss.length:=by
   unfold pL;rw[<-hsorted];simp
  rcases hrow.2 with⟨rfl,Y⟩|⟨gb,cap,cur,rfl,hbase,hgb,r1,r2,r3,r4⟩
  ·exact⟨none,0,by rw[J,Y],by rw[J,Y]; exact Nat.le_refl _,.inl (List.eq_nil_of_length_eq_zero (by rw[J,Y]))⟩
  ·refine⟨_,cap,by rw[J],by rw[J]; exact r1,.inr ⟨gb,0,rfl,⟨(Array.getElem?_eq_some_iff.1 hgb).1,?_,fun q=>by have:=HE.X gb q; omega⟩,fun i x hi=>?_⟩⟩
   ·rintro ho
    have:=(HE.x2 ho).1;omega
   ·unfold pL at hi
    rw[<-hsorted,dw]at hi;cases N:(ss.mergeSort leB)[i]? with
    |none=>rw[N]at hi; cases hi
    |some bs=>
     rw[N]at hi;cases hi;simp only[mY,fN,nE,List.length_cons,List.length_nil,Nat.zero_add,Ee,and_true,G.sV];have hlt:i<ss.length:=by
      have:=bA N;simpa using this
     have hc:cur[i]?=some (encStr bs):=by
      have:=congrArg (fun l=>l[i]?) r4;simp only[Ee]at this;rw[List.getElem?_take,iP hlt,dw,N]at this;simpa using this
     refine⟨encStr bs,?_,rfl,rfl⟩;unfold World.cell?;rw[hgb];simpa using hc
 ·rw[<- hH]
  exact HE.ext hext
 ·rw[<- hH]
  exact af.jn hext
end
end Go.AL
