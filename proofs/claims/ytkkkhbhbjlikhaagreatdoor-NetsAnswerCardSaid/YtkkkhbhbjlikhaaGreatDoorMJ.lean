/-
 What is proved here: the closed facts of a row,one by one,are all of them. No program in sight; no condition but these facts.
-/
import Derived.JoinedOf
import Derived.Test.YtkkkhbhbjlikhaaGreatDoorMD
import Derived.ProofKit
import Derived.OpenShut
import Derived.LaidMore
import Derived.Lay
import Derived.SevenTiedAt
import Derived.Stop.Joined
import Derived.Test.YtkkkhbhbjlikhaaGreatDoorRows
set_option linter.all false
open Array renaming getElem?_eq_some_iff->fS
open Go renaming World->be
open Go.Value renaming cells->O3
open Go.World renaming cell?->s9
open List renaming append_nil->kL
open Prod.mk renaming injEq->cr
namespace Go.AL
open Go

theorem asK{P:Program}{f:FuncId}{fn:Func}{s:ChangeSpec}{c:OpenClaim}
  (h1:c.wf (OpenSpec.ofChange s)=true) (h2:laidOutB P=true) (h3:mapsRowed P=true) (h4:fn.params.all (P.readableRec ·)=true) (h5:namedTie P c.named s.vars=true)
  (h6:(c.stops==[])=true) (h7:(P.stops==[])=true) (h8:(c.knobs==[])=true) (h9:(P.stopKnobs==[])=true) (d:(c.inPlace==P.inPlace f)=true)
  (g:(c.unfollowed==P.unfollowed f)=true) (q:(c.recurses==P.recurses f)=true) (A:(c.named==P.varsNamed f)=true)
  (B:(c.maps==(fn.params.toList++s.plain.varTypes P).any (P.mapsRec ·))=true) (F:(c.ifaces==(fn.params.toList++s.plain.varTypes P).any (P.ifacesRec ·))=true) (I:(c.mapsOut==P.mapsAmong fn.resultTypes.toList)=true)
  (J:(c.loops==(fn.params.toList++s.plain.varTypes P).any (P.loopsFrom ·))=true) (M:(c.wideKeys==(fn.params.toList++s.plain.varTypes P++fn.resultTypes.toList).any (P.wideKeysFrom ·))=true)
  (N:s.vars.all (P.varReadable ·)=true) (O:fn.resultTypes.all (fun t=>P.readableRec t&&decide (t<P.types.size))=true) (U:(c.ifacesOut==fn.resultTypes.toList.any (P.ifacesRec ·))=true)
  (W:(c.loopsOut==fn.resultTypes.toList.any (P.loopsFrom ·))=true) (Y:(c.plainKeys==P.plainKeys)=true) (h24:c.shortTexts.isNone=true) (h25:P.stopsHeard=true) (h26:P.mayEnter=true)
  (h27:(c.lifted==P.liftsFinal)=true) (h28:(P.make==some c.make)=true)
  (h29:(c.kinds==(if c.domain.isEmpty then [] else fn.params.toList.map fun t=>match P.underlying t with|some (.int k)=>some k|_=>none))=true) (h30:(c.pinned==c.pinnedBy)=true)
  (h31:(c.veiled==(fn.params.toList++s.plain.varTypes P++fn.resultTypes.toList).any (P.veiledRec ·))=true) (h32:c.veiledFits P fn.params.toList (fn.params.toList++s.plain.varTypes P++fn.resultTypes.toList)=true) :
  joinedFacts P f fn s c=true:=by
 unfold joinedFacts;rw[h1,h2,h3,h4,h5,h6,h7,h8,h9,d,g,q,A,B,F,I,J,M,N,O,U,W,Y,h24,h25,h26,h27,h28,h30,h31,h32];simp only[Bool.and_true,Bool.true_and];exact h29

end Go.AL

namespace Go.AL
open Go Go.ChangeShapes Go.WideShapes Go.ChangeAt Go.RowKit
variable [Dr]

def af.plain(w:be):af:=⟨w,[],[],⟨fun _=>False,fun _=>False,fM⟩⟩
theorem OX(w:be)(b:Nat):¬ (af.plain w).bC b:=by rintro(⟨id,c,h⟩|⟨l,k,c,h⟩)<;>simp[af.plain,fM]at h
theorem asL(w:be)(g:∀p∈xW,∃t f,w.heap[p.1]?=some (.cells p.2 t f)):aO (af.plain w):=⟨rfl,fun i j b m n h=>by simp[af.plain]at h,fun i b m h=>by simp[af.plain]at h,fun b h=>h.elim,fun i o h=>by simp[af.plain]at h,fun p A=>by
 obtain⟨t,f,h⟩:=g p A;exact⟨⟨(fS.1 h).1,OX w _,fun h=>h⟩,t,f,h⟩,fun l k l' B b m n d=>by simp[af.plain,fM]at d,fun i b m l k n hi=>by simp[af.plain]at hi,fun l k b m d=>by simp[af.plain,fM]at d,fun i j o o' l hi=>by simp[af.plain]at hi,fun l _ k q d=>by simp[af.plain,fM]at d⟩

def rowsOf(d:List Int):List (List G):=d.map fun n=>[.i n]

theorem OY{w:be}{a:Addr}{v:Value}(h:w.cell? a=some v):a.block<w.heap.size/\a.spot=none:=by
 unfold s9 at h;split at h
 ·rename_i c t f hc
  refine⟨(fS.1 hc).1,?_⟩;cases hs:a.spot with
  |none=>rfl
  |some s=>rw[hs]at h; simp at h
 ·cases h

theorem asM{w:be}{a:Addr}{len cap:Nat}{d:List Int}(J:len<=cap)(U:d.length=cap) (A:∀ i,i<d.length->w.cell? (a.add i)=some (.int .i64 (d.getD i 0))) :
  ae (af.plain w) (.listF [.int .i64] (rowsOf (d.take len))) (.slice (some a) len cap):=by
 simp only[ae,fN,G.rZ];have g:(rowsOf (d.take len)).length=len:=by simp[rowsOf]; omega
 refine⟨some a,cap,by rw[g],by rw[g]; exact J,?_⟩;by_cases M:len=0
 ·left
  exact List.eq_nil_of_length_eq_zero (by rw[g]; exact M)
 ·right
  have F:=A 0 (by omega);obtain⟨N,hs⟩:=OY F;have q:a.spot=none:=hs;refine⟨a.block,a.off,?_,⟨N,OX w a.block,fun h=>h⟩,?_⟩
  ·cases a
   simp only at q;subst q;rfl
  ·intro i r hi
   have I:i<len:=by
    have:=bA hi;rw[g]at this;exact this
   have B:=A i (by omega);simp only[rowsOf,List.getElem?_map,List.getElem?_take,iP I]at hi;obtain⟨n,O,rfl⟩:=Option.map_eq_some_iff.1 hi;have hn:d.getD i 0=n:=by rw[List.getD_eq_getElem?_getD,O]; rfl
   rw[hn]at B;simp only[mY,fN,List.length_cons,List.length_nil,List.headD_cons,G.iV,and_true];refine⟨.int .i64 n,?_,rfl,rfl⟩;have:a.add i=⟨a.block,a.off+i*(0+1),none⟩:=by
    cases a;simp only at q;subst q;simp[Addr.add]
   rw[<-this];exact B

theorem asN{H:Type}{O:TypeId × Value->H}{P:Program}{f:FuncId}{fn:Func}{s:ChangeSpec}{U tE tB:TypeId}(hp:fn.params=#[U])(hr:fn.resultTypes=#[tB])
  (Y:P.underlying U=some (.slice tE)) (he:P.underlying tE=some (.int .i64)) (hc:P.cellsOf tE=1) (hb:P.underlying tB=some .bool) (hsv:s.vars=[])
  (hs:∀d:DataW H,s.fn H [d]={ results:=[.lit (.bool true)],args:=[d] })
  (hcall:∀rZ:List (List G),e_ P f [.listF [.int .i64] rZ] [] (.lit (.bool true)) [])
  {W:be} {bg:Nat} {args:Array Value} {ds gs:List (DataW H)} {before:List MemPlace}
  (htab:∀p∈xW,∃t f,W.heap[p.1]?=some (.cells p.2 t f))
  (hval:∀(j:Nat) t v,fn.params[j]?=some t->args[j]?=some v->Value.okWide P W .any bg t v)
  (hW:DataW.Whole O P fn.params.toList s.vars false W args.toList ds gs before) :
  Calls P f args W fun e g=>∃v,e=.returned v/\s.post O P fn false true false false W args v g:=by
 have hW':=hW;obtain⟨p,q,hA,hV,rfl,_,_⟩:=hW;rw[hp]at hA hval;rw[hsv]at hV;obtain⟨v0,d0,rfl,rfl,fuel,h0⟩:=trodAll_one hA;obtain⟨rfl,rfl⟩:=trodVars_none hV;have hval0:=hval 0 U v0 rfl rfl;obtain⟨I,A,B,rfl⟩:=okWide_slice Y hval0;have fin:∀(rZ:List (List G)),ae (af.plain W) (.listF [.int .i64] rZ) (.slice I A B) ->
   (∀g:be,W.heap.size<=g.heap.size->(∀b,b<W.heap.size->g.heap[b]?=W.heap[b]?)->∃pa,DataW.TrodAll O P g 0 (fun b=>decide (b<W.heap.size)) true [U] [.slice I A B] [d0] pa) ->
   Calls P f #[.slice I A B] W fun e g=>∃v,e=.returned v/\s.post O P fn false true false false W #[.slice I A B] v g:=by
  intro rZ hrel hargs;refine(hcall rZ (af.plain W) #[.slice I A B] rfl (asL W htab) (by simp only[aq]; exact⟨hrel,trivial⟩)).mono ?_;rintro e g ⟨c,v,H',rfl,⟨rfl,rfl⟩,loc',r',g1,g2,g3⟩;simp only[ae]at g1;subst g1;have N:∀b,b<W.heap.size->g.heap[b]?=W.heap[b]?:=fun b hb=>g3.same b hb (OX W b);obtain⟨pa,hpa⟩:=hargs g g3.size N;have hres:(Value.bool true).resultList fn.resultTypes.size=[.bool true]:=by
   rw[hr];rfl
  refine⟨.bool true,rfl,[d0],[],p++[],[],pa,[],hW',?_,?_,?_,?_,fun h=>by cases h⟩
  ·rw[hres,hr,kL,hs]
   exact trodAll_mk1 (shut_bool hb _)
  ·rw[hp,kL,hs]
   exact hpa
  ·rw[hsv,kL,hs]
   rfl
  ·exact World.keptBut_mono (fun _ h=>h.elim) (World.keptBut_none_iff.2 ⟨g3.env.1,g3.env.2.1,N⟩)
 rcases open_ints Y he hc h0 with⟨F,J⟩|⟨a,len,cap,M,F,_,hl,hm,hz,J,hcell,hw⟩
 ·simp[O3]at F
  obtain⟨rfl,rfl,rfl⟩:=F;simp only[cr]at J;obtain⟨rfl,rfl⟩:=J;refine fin [] ?_ fun g _ _=>⟨[],trodAll_mk1 (shut_slice_nil Y)⟩
  simp only[ae,fN,G.rZ];exact⟨none,0,rfl,Nat.le_refl _,.inl trivial⟩
 ·simp[O3]at F
  obtain⟨rfl,rfl,rfl⟩:=F;simp only[cr]at J;obtain⟨rfl,rfl⟩:=J;simp only[if_true]at hz;refine fin (rowsOf (M.take A)) (asM hl hz hcell) fun g hsz N=>⟨MemPlace.row a M.length,trodAll_mk1 ⟨2,?_⟩⟩
  have hcell':∀i,i<M.length->g.cell? (a.add i)=some (.int .i64 (M.getD i 0)):=by
   intro i hi;have h1:=hcell i hi;obtain⟨hb1,_⟩:=OY h1;rw[<-h1];unfold s9;rw[N _ hb1]
  refine shut_ints 0 Y he hc (Nat.zero_le _) hl hm ?_ hcell' hw;by_cases h0:M.length=0
  ·have:B=0:=by omega
   have:A=0:=by omega
   split<;>omega
  ·have h1:=hcell 0 (by omega)
   obtain⟨hb1,_⟩:=OY h1;have hb2:decide (a.block<W.heap.size)=true:=by
    simp only[dT];exact hb1
   rw[iP hb2];exact hz

end Go.AL

namespace Go.Proofs.YtkkkhbhbjlikhaaGreatDoor
open Go Go.AL
theorem dv:ownKnob Tryz.prog.godebug=none:=by kernel_rfl
theorem asP:(laidOutB Tryz.pinned.checked.prog)=true:=by kernel_rfl
theorem asQ:(mapsRowed Tryz.pinned.checked.prog)=true:=by kernel_rfl
theorem asR:((Tryz.pinned.checked.prog.stops==[]))=true:=by kernel_rfl
theorem asS:((Tryz.pinned.checked.prog.stopKnobs==[]))=true:=by kernel_rfl
theorem asT:(false==Tryz.pinned.checked.prog.plainKeys)=true:=by kernel_rfl
theorem asU:(Tryz.pinned.checked.prog.stopsHeard)=true:=by kernel_rfl
theorem asV:(Tryz.pinned.checked.prog.mayEnter)=true:=by kernel_rfl
theorem asW:Tryz.pinned.checked.prog.mainIs=some (true,("50ee1d4bdc9eb0e67a75f5ba068d3fd3fad7a74ceca18fb66d81dbf959ce73ca" : String).toList):=by kernel_rfl
theorem asX:true=Tryz.pinned.checked.prog.looks []:=by kernel_rfl
end Go.Proofs.YtkkkhbhbjlikhaaGreatDoor
