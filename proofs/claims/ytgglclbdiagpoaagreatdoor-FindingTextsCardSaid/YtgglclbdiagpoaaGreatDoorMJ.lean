/-
 What is proved here: the closed facts of a row,one by one,are all of them. No program in sight; no condition but these facts.
-/
import Derived.JoinedOf
import Derived.Test.YtgglclbdiagpoaaGreatDoorMD
import Derived.ProofKit
import Derived.OpenShut
import Derived.LaidMore
import Derived.Lay
import Derived.SevenTiedAt
import Derived.Stop.Joined
import Derived.Test.YtgglclbdiagpoaaGreatDoorRows
set_option linter.all false
open Array renaming getElem?_eq_some_iff→iF
open Go.Value renaming cells→IE
open Go.World renaming cell?→pg
open List renaming append_nil→dx
open Prod.mk renaming injEq→a8
namespace Go.AL
open Go

theorem agS{P:Program}{f:FuncId}{fn:Func}{s:ChangeSpec}{c:OpenClaim}
  (h1:c.wf (OpenSpec.ofChange s)=true) (h2:laidOutB P=true) (h3:mapsRowed P=true) (h4:fn.params.all (P.readableRec ·)=true) (h5:namedTie P c.named s.vars=true)
  (h6:(c.stops==[])=true) (h7:(P.stops==[])=true) (h8:(c.knobs==[])=true) (h9:(P.stopKnobs==[])=true) (d:(c.inPlace==P.inPlace f)=true)
  (g:(c.unfollowed==P.unfollowed f)=true) (h:(c.recurses==P.recurses f)=true) (q:(c.named==P.varsNamed f)=true)
  (u:(c.maps==(fn.params.toList++s.plain.varTypes P).any (P.mapsRec ·))=true) (v:(c.ifaces==(fn.params.toList++s.plain.varTypes P).any (P.ifacesRec ·))=true) (y:(c.mapsOut==P.mapsAmong fn.resultTypes.toList)=true)
  (z:(c.loops==(fn.params.toList++s.plain.varTypes P).any (P.loopsFrom ·))=true) (B:(c.wideKeys==(fn.params.toList++s.plain.varTypes P++fn.resultTypes.toList).any (P.wideKeysFrom ·))=true)
  (I:s.vars.all (P.varReadable ·)=true) (J:fn.resultTypes.all (fun t=>P.readableRec t&&decide (t<P.types.size))=true) (M:(c.ifacesOut==fn.resultTypes.toList.any (P.ifacesRec ·))=true)
  (N:(c.loopsOut==fn.resultTypes.toList.any (P.loopsFrom ·))=true) (O:(c.plainKeys==P.plainKeys)=true) (R:c.shortTexts.isNone=true) (U:P.stopsHeard=true) (V:P.mayEnter=true)
  (W:(c.lifted==P.liftsFinal)=true) (h28:(P.make==some c.make)=true)
  (h29:(c.kinds==(if c.domain.isEmpty then [] else fn.params.toList.map fun t=>match P.underlying t with|some (.int k)=>some k|_=>none))=true) (h30:(c.pinned==c.pinnedBy)=true)
  (h31:(c.veiled==(fn.params.toList++s.plain.varTypes P++fn.resultTypes.toList).any (P.veiledRec ·))=true) (h32:c.veiledFits P fn.params.toList (fn.params.toList++s.plain.varTypes P++fn.resultTypes.toList)=true) :
  joinedFacts P f fn s c=true:=by
 unfold joinedFacts;rw[h1,h2,h3,h4,h5,h6,h7,h8,h9,d,g,h,q,u,v,y,z,B,I,J,M,N,O,R,U,V,W,h28,h30,h31,h32];simp only[Bool.and_true,Bool.true_and];exact h29

end Go.AL

namespace Go.AL
open Go Go.ChangeShapes Go.WideShapes Go.ChangeAt Go.RowKit
variable [Dr]

def Env.plain(w:World):Env:=⟨w,[],[],⟨fun _=>False,fun _=>False,eD⟩⟩
theorem Iy(w:World)(b:Nat):¬ (Env.plain w).own b:=by rintro(⟨id,c,h⟩|⟨l,k,c,h⟩)<;>simp[Env.plain,eD]at h
theorem agT(w:World)(d:∀ p∈qY,∃ t f,w.heap[p.1]? = some (.cells p.2 t f)):aq (Env.plain w):=⟨rfl,fun i j b m n h=>by simp[Env.plain]at h,fun i b m h=>by simp[Env.plain]at h,fun b h=>h.elim,fun i o h=>by simp[Env.plain]at h,fun p g=>by
 obtain⟨t,f,h⟩:=d p g;exact⟨⟨(iF.1 h).1,Iy w _,fun h=>h⟩,t,f,h⟩,fun l k l' k' b m n hk=>by simp[Env.plain,eD]at hk,fun i b m l k n hi=>by simp[Env.plain]at hi,fun l k b m hk=>by simp[Env.plain,eD]at hk,fun i j o o' l hi=>by simp[Env.plain]at hi,fun l _ k q hk=>by simp[Env.plain,eD]at hk⟩

def rowsOf(zs:List Int):List (List G):=zs.map fun n=>[.i n]

theorem Iz{w:World}{a:Addr}{v:Value}(h:w.cell? a=some v):a.block<w.heap.size∧a.spot=none:=by
 unfold pg at h;split at h
 ·rename_i c t f d
  refine⟨(iF.1 d).1,?_⟩;cases g:a.spot with
  |none=>rfl
  |some s=>rw[g]at h; simp at h
 ·cases h

theorem agU{w:World}{a:Addr}{len cap:Nat}{zs:List Int}(u:len≤cap)(z:zs.length=cap) (g:∀ i,i<zs.length→w.cell? (a.add i)=some (.int .i64 (zs.getD i 0))) :
  rel (Env.plain w) (.listF [.int .i64] (rowsOf (zs.take len))) (.slice (some a) len cap):=by
 simp only[rel,dG,G.rows];have hlen:(rowsOf (zs.take len)).length=len:=by simp[rowsOf]; omega
 refine⟨some a,cap,by rw[hlen],by rw[hlen]; exact u,?_⟩;by_cases h0:len=0
 ·left
  exact List.eq_nil_of_length_eq_zero (by rw[hlen]; exact h0)
 ·right
  have q:=g 0 (by omega);obtain⟨hb,v⟩:=Iz q;have d:a.spot=none:=v;refine⟨a.block,a.off,?_,⟨hb,Iy w a.block,fun h=>h⟩,?_⟩
  ·cases a
   simp only at d;subst d;rfl
  ·intro i r hi
   have t:i<len:=by
    have:=aL hi;rw[hlen]at this;exact this
   have k:=g i (by omega);simp only[rowsOf,List.getElem?_map,List.getElem?_take,if_pos t]at hi;obtain⟨n,h1,rfl⟩:=Option.map_eq_some_iff.1 hi;have y:zs.getD i 0=n:=by rw[List.getD_eq_getElem?_getD,h1]; rfl
   rw[y]at k;simp only[jB,dG,List.length_cons,List.length_nil,List.headD_cons,G.int,and_true];refine⟨.int .i64 n,?_,rfl,rfl⟩;have:a.add i=⟨a.block,a.off+i*(0+1),none⟩:=by
    cases a;simp only at d;subst d;simp[Addr.add]
   rw[←this];exact k

theorem agV{H:Type}{enc:TypeId × Value→H}{P:Program}{f:FuncId}{fn:Func}{s:ChangeSpec}{I O tB:TypeId}(hp:fn.params=#[I])(hr:fn.resultTypes=#[tB])
  (J:P.underlying I=some (.slice O)) (he:P.underlying O=some (.int .i64)) (hc:P.cellsOf O=1) (hb:P.underlying tB=some .bool) (hsv:s.vars=[])
  (R:∀ d:DataW H,s.fn H [d]={ results:=[.lit (.bool true)],args:=[d] })
  (hcall:∀ rows:List (List G),cq P f [.listF [.int .i64] rows] [] (.lit (.bool true)) [])
  {W:World} {base:Nat} {args:Array Value} {ds gs:List (DataW H)} {before:List MemPlace}
  (htab:∀ p∈qY,∃ t f,W.heap[p.1]? = some (.cells p.2 t f))
  (hval:∀(j:Nat) t v,fn.params[j]? = some t→args[j]? = some v→Value.okWide P W .any base t v)
  (hW:DataW.Whole enc P fn.params.toList s.vars false W args.toList ds gs before) :
  Calls P f args W fun e g=>∃ v,e=.returned v∧s.post enc P fn false true false false W args v g:=by
 have hW':=hW;obtain⟨p,q,hA,hV,rfl,_,_⟩:=hW;rw[hp]at hA hval;rw[hsv]at hV;obtain⟨v0,d0,rfl,rfl,fuel,h0⟩:=trodAll_one hA;obtain⟨rfl,rfl⟩:=trodVars_none hV;have hval0:=hval 0 I v0 rfl rfl;obtain⟨a0,k,u,rfl⟩:=okWide_slice J hval0;have fin:∀(rows:List (List G)),rel (Env.plain W) (.listF [.int .i64] rows) (.slice a0 k u) →
   (∀ g:World,W.heap.size≤g.heap.size→(∀ b,b<W.heap.size→g.heap[b]? = W.heap[b]?)→∃ U,DataW.TrodAll enc P g 0 (fun b=>decide (b<W.heap.size)) true [I] [.slice a0 k u] [d0] U) →
   Calls P f #[.slice a0 k u] W fun e g=>∃ v,e=.returned v∧s.post enc P fn false true false false W #[.slice a0 k u] v g:=by
  intro rows hrel hargs;refine(hcall rows (Env.plain W) #[.slice a0 k u] rfl (agT W htab) (by simp only[ae]; exact⟨hrel,trivial⟩)).mono ?_;rintro e g ⟨c,v,H',rfl,⟨rfl,rfl⟩,loc',r',g1,g2,g3⟩;simp only[rel]at g1;subst g1;have B:∀ b,b<W.heap.size→g.heap[b]? = W.heap[b]? := fun b hb=>g3.same b hb (Iy W b);obtain⟨U,hpa⟩:=hargs g g3.size B;have hres:(Value.bool true).resultList fn.resultTypes.size=[.bool true]:=by
   rw[hr];rfl
  refine⟨.bool true,rfl,[d0],[],p++[],[],U,[],hW',?_,?_,?_,?_,fun h=>by cases h⟩
  ·rw [hres, hr, dx, R]
   exact trodAll_mk1 (shut_bool hb _)
  ·rw [hp, dx, R]
   exact hpa
  ·rw [hsv, dx, R]
   rfl
  ·exact World.keptBut_mono (fun _ h=>h.elim) (World.keptBut_none_iff.2 ⟨g3.env.1,g3.env.2.1,B⟩)
 rcases open_ints J he hc h0 with⟨y,z⟩|⟨a,len,cap,zs,y,_,hl,hm,V,z,M,hw⟩
 ·simp [IE] at y
  obtain⟨rfl,rfl,rfl⟩:=y;simp only[a8]at z;obtain⟨rfl,rfl⟩:=z;refine fin [] ?_ fun g _ _=>⟨[],trodAll_mk1 (shut_slice_nil J)⟩
  simp only[rel,dG,G.rows];exact⟨none,0,rfl,Nat.le_refl _,.inl trivial⟩
 ·simp [IE] at y
  obtain⟨rfl,rfl,rfl⟩:=y;simp only[a8]at z;obtain⟨rfl,rfl⟩:=z;simp only[if_true]at V;refine fin (rowsOf (zs.take k)) (agU hl V M) fun g hsz B=>⟨MemPlace.row a zs.length,trodAll_mk1 ⟨2,?_⟩⟩
  have hcell':∀ i,i<zs.length→g.cell? (a.add i)=some (.int .i64 (zs.getD i 0)):=by
   intro i hi;have h1:=M i hi;obtain⟨N,_⟩:=Iz h1;rw[←h1];unfold pg;rw[B _ N]
  refine shut_ints 0 J he hc (Nat.zero_le _) hl hm ?_ hcell' hw;by_cases h0:zs.length=0
  ·have : u = 0 := by omega
   have:k=0:=by omega
   split<;>omega
  ·have h1 := M 0 (by omega)
   obtain⟨N,_⟩:=Iz h1;have hb2:decide (a.block<W.heap.size)=true:=by
    simp only[decide_eq_true_eq];exact N
   rw[if_pos hb2];exact V

end Go.AL

namespace Go.Proofs.YtgglclbdiagpoaaGreatDoor
open Go Go.AL
theorem agW:ownKnob Tryz.prog.godebug=none:=by kernel_rfl
theorem agX:(laidOutB Tryz.pinned.checked.prog)=true:=by kernel_rfl
theorem agY:(mapsRowed Tryz.pinned.checked.prog)=true:=by kernel_rfl
theorem agZ:((Tryz.pinned.checked.prog.stops==[]))=true:=by kernel_rfl
theorem ag0:((Tryz.pinned.checked.prog.stopKnobs==[]))=true:=by kernel_rfl
theorem ag1:(false==Tryz.pinned.checked.prog.plainKeys)=true:=by kernel_rfl
theorem ag2:(Tryz.pinned.checked.prog.stopsHeard)=true:=by kernel_rfl
theorem ag3:(Tryz.pinned.checked.prog.mayEnter)=true:=by kernel_rfl
theorem ag4:Tryz.pinned.checked.prog.mainIs=some (true,("b7d4f2f1d773492e9eacea74f8bd920b864d5136b9e5384f50de92c476e77438" : String).toList):=by kernel_rfl
theorem ag5:true=Tryz.pinned.checked.prog.looks []:=by kernel_rfl
end Go.Proofs.YtgglclbdiagpoaaGreatDoor
