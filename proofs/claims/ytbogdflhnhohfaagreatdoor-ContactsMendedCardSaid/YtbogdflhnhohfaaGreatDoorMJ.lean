/-
 What is proved here: the closed facts of a row,one by one,are all of them. No program in sight; no condition but these facts.
-/
import Derived.JoinedOf
import Derived.Test.YtbogdflhnhohfaaGreatDoorMD
import Derived.ProofKit
import Derived.OpenShut
import Derived.LaidMore
import Derived.Lay
import Derived.SevenTiedAt
import Derived.Stop.Joined
import Derived.Test.YtbogdflhnhohfaaGreatDoorRows
set_option linter.all false
open Array renaming getElem?_eq_some_iff->mu
open Go renaming World->a_
open Go.Value renaming cells->KK
open Go.World renaming cell?->uS
open List renaming append_nil->da
open Prod.mk renaming injEq->bo
namespace Go.AL
open Go

theorem alr{P:Program}{f:FuncId}{fn:Func}{s:ChangeSpec}{c:OpenClaim}
  (h1:c.wf (OpenSpec.ofChange s)=true) (h2:laidOutB P=true) (h3:mapsRowed P=true) (h4:fn.params.all (P.readableRec ·)=true) (h5:namedTie P c.named s.vars=true)
  (h6:(c.stops==[])=true) (h7:(P.stops==[])=true) (h8:(c.knobs==[])=true) (h9:(P.stopKnobs==[])=true) (d:(c.inPlace==P.inPlace f)=true)
  (g:(c.unfollowed==P.unfollowed f)=true) (h:(c.recurses==P.recurses f)=true) (q:(c.named==P.varsNamed f)=true)
  (v:(c.maps==(fn.params.toList++s.plain.varTypes P).any (P.mapsRec ·))=true) (y:(c.ifaces==(fn.params.toList++s.plain.varTypes P).any (P.ifacesRec ·))=true) (I:(c.mapsOut==P.mapsAmong fn.resultTypes.toList)=true)
  (M:(c.loops==(fn.params.toList++s.plain.varTypes P).any (P.loopsFrom ·))=true) (N:(c.wideKeys==(fn.params.toList++s.plain.varTypes P++fn.resultTypes.toList).any (P.wideKeysFrom ·))=true)
  (O:s.vars.all (P.varReadable ·)=true) (U:fn.resultTypes.all (fun t=>P.readableRec t&&decide (t<P.types.size))=true) (V:(c.ifacesOut==fn.resultTypes.toList.any (P.ifacesRec ·))=true)
  (W:(c.loopsOut==fn.resultTypes.toList.any (P.loopsFrom ·))=true) (h23:(c.plainKeys==P.plainKeys)=true) (h24:c.shortTexts.isNone=true) (h25:P.stopsHeard=true) (h26:P.mayEnter=true)
  (h27:(c.lifted==P.liftsFinal)=true) (h28:(P.make==some c.make)=true)
  (h29:(c.kinds==(if c.domain.isEmpty then [] else fn.params.toList.map fun t=>match P.underlying t with|some (.int k)=>some k|_=>none))=true) (h30:(c.pinned==c.pinnedBy)=true)
  (h31:(c.veiled==(fn.params.toList++s.plain.varTypes P++fn.resultTypes.toList).any (P.veiledRec ·))=true) (h32:c.veiledFits P fn.params.toList (fn.params.toList++s.plain.varTypes P++fn.resultTypes.toList)=true) :
  joinedFacts P f fn s c=true:=by
 unfold joinedFacts;rw[h1,h2,h3,h4,h5,h6,h7,h8,h9,d,g,h,q,v,y,I,M,N,O,U,V,W,h23,h24,h25,h26,h27,h28,h30,h31,h32];simp only[Bool.and_true,Bool.true_and];exact h29

end Go.AL

namespace Go.AL
open Go Go.ChangeShapes Go.WideShapes Go.ChangeAt Go.RowKit
variable [Dr]

def af.plain(w:a_):af:=⟨w,[],[],⟨fun _=>False,fun _=>False,fh⟩⟩
theorem KC(w:a_)(b:Nat):¬ (af.plain w).ab b:=by rintro(⟨id,c,h⟩|⟨l,k,c,h⟩)<;>simp[af.plain,fh]at h
theorem als(w:a_)(g:∀ p∈yA,∃ t f,w.heap[p.1]? = some (.cells p.2 t f)):aJ (af.plain w):=⟨rfl,fun i j b m n h=>by simp[af.plain]at h,fun i b m h=>by simp[af.plain]at h,fun b h=>h.elim,fun i o h=>by simp[af.plain]at h,fun p v=>by
 obtain⟨t,f,h⟩:=g p v;exact⟨⟨(mu.1 h).1,KC w _,fun h=>h⟩,t,f,h⟩,fun l k l' y b m n d=>by simp[af.plain,fh]at d,fun i b m l k n hi=>by simp[af.plain]at hi,fun l k b m d=>by simp[af.plain,fh]at d,fun i j o o' l hi=>by simp[af.plain]at hi,fun l _ k q d=>by simp[af.plain,fh]at d⟩

def rowsOf(d:List Int):List (List G):=d.map fun n=>[.i n]

theorem KD{w:a_}{a:Addr}{v:Value}(h:w.cell? a=some v):a.block<w.heap.size/\a.spot=none:=by
 unfold uS at h;split at h
 ·rename_i c t f d
  refine⟨(mu.1 d).1,?_⟩;cases g:a.spot with
  |none=>rfl
  |some s=>rw[g]at h; simp at h
 ·cases h

theorem alu{w:a_}{a:Addr}{len cap:Nat}{d:List Int}(M:len<=cap)(O:d.length=cap) (q:∀ i,i<d.length->w.cell? (a.add i)=some (.int .i64 (d.getD i 0))) :
  ad (af.plain w) (.listF [.int .i64] (rowsOf (d.take len))) (.slice (some a) len cap):=by
 simp only[ad,fp,G.rZ];have g:(rowsOf (d.take len)).length=len:=by simp[rowsOf]; omega
 refine⟨some a,cap,by rw[g],by rw[g]; exact M,?_⟩;by_cases h0:len=0
 ·left
  exact List.eq_nil_of_length_eq_zero (by rw[g]; exact h0)
 ·right
  have y:=q 0 (by omega);obtain⟨hb,N⟩:=KD y;have k:a.spot=none:=N;refine⟨a.block,a.off,?_,⟨hb,KC w a.block,fun h=>h⟩,?_⟩
  ·cases a
   simp only at k;subst k;rfl
  ·intro i r hi
   have I:i<len:=by
    have:=aY hi;rw[g]at this;exact this
   have v:=q i (by omega);simp only[rowsOf,List.getElem?_map,List.getElem?_take,iP I]at hi;obtain⟨n,h1,rfl⟩:=Option.map_eq_some_iff.1 hi;have hn:d.getD i 0=n:=by rw[List.getD_eq_getElem?_getD,h1]; rfl
   rw[hn]at v;simp only[oh,fp,List.length_cons,List.length_nil,List.headD_cons,G.iV,and_true];refine⟨.int .i64 n,?_,rfl,rfl⟩;have:a.add i=⟨a.block,a.off+i*(0+1),none⟩:=by
    cases a;simp only at k;subst k;simp[Addr.add]
   rw[<-this];exact v

theorem alv{H:Type}{U:TypeId × Value->H}{P:Program}{f:FuncId}{fn:Func}{s:ChangeSpec}{V tE tB:TypeId}(hp:fn.params=#[V])(hr:fn.resultTypes=#[tB])
  (ht:P.underlying V=some (.slice tE)) (he:P.underlying tE=some (.int .i64)) (hc:P.cellsOf tE=1) (hb:P.underlying tB=some .bool) (hsv:s.vars=[])
  (hs:∀ d:DataW H,s.fn H [d]={ results:=[.lit (.bool true)],args:=[d] })
  (hcall:∀ rZ:List (List G),fO P f [.listF [.int .i64] rZ] [] (.lit (.bool true)) [])
  {W:a_} {aN:Nat} {args:Array Value} {ds gs:List (DataW H)} {before:List MemPlace}
  (htab:∀ p∈yA,∃ t f,W.heap[p.1]? = some (.cells p.2 t f))
  (hval:∀(j:Nat) t v,fn.params[j]? = some t->args[j]? = some v->Value.okWide P W .any aN t v)
  (hW:DataW.Whole U P fn.params.toList s.vars false W args.toList ds gs before) :
  Calls P f args W fun e g=>∃ v,e=.returned v/\s.post U P fn false true false false W args v g:=by
 have hW':=hW;obtain⟨p,q,hA,hV,rfl,_,_⟩:=hW;rw[hp]at hA hval;rw[hsv]at hV;obtain⟨v0,d0,rfl,rfl,fuel,h0⟩:=trodAll_one hA;obtain⟨rfl,rfl⟩:=trodVars_none hV;have hval0:=hval 0 V v0 rfl rfl;obtain⟨I,k,y,rfl⟩:=okWide_slice ht hval0;have fin:∀(rZ:List (List G)),ad (af.plain W) (.listF [.int .i64] rZ) (.slice I k y) ->
   (∀ g:a_,W.heap.size<=g.heap.size->(∀ b,b<W.heap.size->g.heap[b]? = W.heap[b]?)->∃ pa,DataW.TrodAll U P g 0 (fun b=>decide (b<W.heap.size)) true [V] [.slice I k y] [d0] pa) ->
   Calls P f #[.slice I k y] W fun e g=>∃ v,e=.returned v/\s.post U P fn false true false false W #[.slice I k y] v g:=by
  intro rZ hrel hargs;refine(hcall rZ (af.plain W) #[.slice I k y] rfl (als W htab) (by simp only[ax]; exact⟨hrel,trivial⟩)).mono ?_;rintro e g ⟨c,v,H',rfl,⟨rfl,rfl⟩,loc',r',g1,g2,g3⟩;simp only[ad]at g1;subst g1;have O:∀ b,b<W.heap.size->g.heap[b]? = W.heap[b]? := fun b hb=>g3.same b hb (KC W b);obtain⟨pa,hpa⟩:=hargs g g3.size O;have hres:(Value.bool true).resultList fn.resultTypes.size=[.bool true]:=by
   rw[hr];rfl
  refine⟨.bool true,rfl,[d0],[],p++[],[],pa,[],hW',?_,?_,?_,?_,fun h=>by cases h⟩
  ·rw [hres, hr, da, hs]
   exact trodAll_mk1 (shut_bool hb _)
  ·rw [hp, da, hs]
   exact hpa
  ·rw [hsv, da, hs]
   rfl
  ·exact World.keptBut_mono (fun _ h=>h.elim) (World.keptBut_none_iff.2 ⟨g3.env.1,g3.env.2.1,O⟩)
 rcases open_ints ht he hc h0 with⟨bT,M⟩|⟨a,len,cap,N,bT,_,hl,hm,hz,M,hcell,hw⟩
 ·simp [KK] at bT
  obtain⟨rfl,rfl,rfl⟩:=bT;simp only[bo]at M;obtain⟨rfl,rfl⟩:=M;refine fin [] ?_ fun g _ _=>⟨[],trodAll_mk1 (shut_slice_nil ht)⟩
  simp only[ad,fp,G.rZ];exact⟨none,0,rfl,Nat.le_refl _,.inl trivial⟩
 ·simp [KK] at bT
  obtain⟨rfl,rfl,rfl⟩:=bT;simp only[bo]at M;obtain⟨rfl,rfl⟩:=M;simp only[if_true]at hz;refine fin (rowsOf (N.take k)) (alu hl hz hcell) fun g hsz O=>⟨MemPlace.row a N.length,trodAll_mk1 ⟨2,?_⟩⟩
  have hcell':∀ i,i<N.length->g.cell? (a.add i)=some (.int .i64 (N.getD i 0)):=by
   intro i hi;have h1:=hcell i hi;obtain⟨hb1,_⟩:=KD h1;rw[<-h1];unfold uS;rw[O _ hb1]
  refine shut_ints 0 ht he hc (Nat.zero_le _) hl hm ?_ hcell' hw;by_cases h0:N.length=0
  ·have : y = 0 := by omega
   have:k=0:=by omega
   split<;>omega
  ·have h1 := hcell 0 (by omega)
   obtain⟨hb1,_⟩:=KD h1;have hb2:decide (a.block<W.heap.size)=true:=by
    simp only[dT];exact hb1
   rw[iP hb2];exact hz

end Go.AL

namespace Go.Proofs.YtbogdflhnhohfaaGreatDoor
open Go Go.AL
theorem alw:ownKnob Tryz.prog.godebug=none:=by kernel_rfl
theorem alx:(laidOutB Tryz.pinned.checked.prog)=true:=by kernel_rfl
theorem aly:(mapsRowed Tryz.pinned.checked.prog)=true:=by kernel_rfl
theorem alz:((Tryz.pinned.checked.prog.stops==[]))=true:=by kernel_rfl
theorem alA:((Tryz.pinned.checked.prog.stopKnobs==[]))=true:=by kernel_rfl
theorem alB:(false==Tryz.pinned.checked.prog.plainKeys)=true:=by kernel_rfl
theorem alC:(Tryz.pinned.checked.prog.stopsHeard)=true:=by kernel_rfl
theorem alD:(Tryz.pinned.checked.prog.mayEnter)=true:=by kernel_rfl
theorem alE:Tryz.pinned.checked.prog.mainIs=some (true,("b5ef1505a3ba6fc744d1689bee13f952d7d7c0a9186062e1e304d2ef95db4cd8" : String).toList):=by kernel_rfl
theorem alF:false=Tryz.pinned.checked.prog.looks []:=by kernel_rfl
end Go.Proofs.YtbogdflhnhohfaaGreatDoor
