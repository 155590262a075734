/-
 What is proved here: the closed facts of a row,one by one,are all of them. No program in sight; no condition but these facts.
-/
import Derived.JoinedOf
import Derived.Test.YtmhkodhaodcfdaaGreatDoorMD
import Derived.ProofKit
import Derived.OpenShut
import Derived.LaidMore
import Derived.Lay
import Derived.SevenTiedAt
import Derived.Stop.Joined
import Derived.Test.YtmhkodhaodcfdaaGreatDoorRows
set_option linter.all false
open Array renaming getElem?_eq_some_iff->je
open Go renaming World->a6
open Go.Value renaming cells->JU
open Go.World renaming cell?->qD
open List renaming append_nil->fe
open Prod.mk renaming injEq->bk
namespace Go.AL
open Go

theorem ai4{P:Program}{f:FuncId}{fn:Func}{s:ChangeSpec}{c:OpenClaim}
  (h1:c.wf (OpenSpec.ofChange s)=true) (h2:laidOutB P=true) (h3:mapsRowed P=true) (h4:fn.params.all (P.readableRec ·)=true) (h5:namedTie P c.named s.vars=true)
  (h6:(c.stops==[])=true) (h7:(P.stops==[])=true) (h8:(c.knobs==[])=true) (h9:(P.stopKnobs==[])=true) (a:(c.inPlace==P.inPlace f)=true)
  (b:(c.unfollowed==P.unfollowed f)=true) (d:(c.recurses==P.recurses f)=true) (g:(c.named==P.varsNamed f)=true)
  (h:(c.maps==(fn.params.toList++s.plain.varTypes P).any (P.mapsRec ·))=true) (q:(c.ifaces==(fn.params.toList++s.plain.varTypes P).any (P.ifacesRec ·))=true) (v:(c.mapsOut==P.mapsAmong fn.resultTypes.toList)=true)
  (w:(c.loops==(fn.params.toList++s.plain.varTypes P).any (P.loopsFrom ·))=true) (y:(c.wideKeys==(fn.params.toList++s.plain.varTypes P++fn.resultTypes.toList).any (P.wideKeysFrom ·))=true)
  (z:s.vars.all (P.varReadable ·)=true) (A:fn.resultTypes.all (fun t=>P.readableRec t&&decide (t<P.types.size))=true) (B:(c.ifacesOut==fn.resultTypes.toList.any (P.ifacesRec ·))=true)
  (F:(c.loopsOut==fn.resultTypes.toList.any (P.loopsFrom ·))=true) (I:(c.plainKeys==P.plainKeys)=true) (J:c.shortTexts.isNone=true) (M:P.stopsHeard=true) (N:P.mayEnter=true)
  (O:(c.lifted==P.liftsFinal)=true) (U:(P.make==some c.make)=true)
  (V:(c.kinds==(if c.domain.isEmpty then [] else fn.params.toList.map fun t=>match P.underlying t with|some (.int k)=>some k|_=>none))=true) (W:(c.pinned==c.pinnedBy)=true)
  (X:(c.veiled==(fn.params.toList++s.plain.varTypes P++fn.resultTypes.toList).any (P.veiledRec ·))=true) (Y:c.veiledFits P fn.params.toList (fn.params.toList++s.plain.varTypes P++fn.resultTypes.toList)=true) :
  joinedFacts P f fn s c=true:=by
 unfold joinedFacts;rw[h1,h2,h3,h4,h5,h6,h7,h8,h9,a,b,d,g,h,q,v,w,y,z,A,B,F,I,J,M,N,O,U,W,X,Y];simp only[Bool.and_true,Bool.true_and];exact V

end Go.AL

namespace Go.AL
open Go Go.ChangeShapes Go.WideShapes Go.ChangeAt Go.RowKit
variable [Dr]

def ae.plain(w:a6):ae:=⟨w,[],[],⟨fun _=>False,fun _=>False,iB⟩⟩
theorem JN(w:a6)(b:Nat):¬ (ae.plain w).bN b:=by rintro(⟨id,c,h⟩|⟨l,k,c,h⟩)<;>simp[ae.plain,iB]at h
theorem ai5(w:a6)(d:∀ p∈uM,∃ t f,w.heap[p.1]? = some (.cells p.2 t f)):aG (ae.plain w):=⟨rfl,fun i j b m n h=>by simp[ae.plain]at h,fun i b m h=>by simp[ae.plain]at h,fun b h=>h.elim,fun i o h=>by simp[ae.plain]at h,fun p g=>by
 obtain⟨t,f,h⟩:=d p g;exact⟨⟨(je.1 h).1,JN w _,fun h=>h⟩,t,f,h⟩,fun l k l' v b m n a=>by simp[ae.plain,iB]at a,fun i b m l k n hi=>by simp[ae.plain]at hi,fun l k b m a=>by simp[ae.plain,iB]at a,fun i j o o' l hi=>by simp[ae.plain]at hi,fun l _ k q a=>by simp[ae.plain,iB]at a⟩

def rowsOf(a:List Int):List (List G):=a.map fun n=>[.i n]

theorem JO{w:a6}{a:Addr}{v:Value}(h:w.cell? a=some v):a.block<w.heap.size/\a.spot=none:=by
 unfold qD at h;split at h
 ·rename_i c t f b
  refine⟨(je.1 b).1,?_⟩;cases d:a.spot with
  |none=>rfl
  |some s=>rw[d]at h; simp at h
 ·cases h

theorem ai6{w:a6}{a:Addr}{len cap:Nat}{b:List Int}(y:len<=cap)(J:b.length=cap) (k:∀ i,i<b.length->w.cell? (a.add i)=some (.int .i64 (b.getD i 0))) :
  ab (ae.plain w) (.listF [.int .i64] (rowsOf (b.take len))) (.slice (some a) len cap):=by
 simp only[ab,eX,G.rZ];have d:(rowsOf (b.take len)).length=len:=by simp[rowsOf]; omega
 refine⟨some a,cap,by rw[d],by rw[d]; exact y,?_⟩;by_cases z:len=0
 ·left
  exact List.eq_nil_of_length_eq_zero (by rw[d]; exact z)
 ·right
  have t:=k 0 (by omega);obtain⟨A,B⟩:=JO t;have g:a.spot=none:=B;refine⟨a.block,a.off,?_,⟨A,JN w a.block,fun h=>h⟩,?_⟩
  ·cases a
   simp only at g;subst g;rfl
  ·intro i r hi
   have v:i<len:=by
    have:=aX hi;rw[d]at this;exact this
   have q:=k i (by omega);simp only[rowsOf,List.getElem?_map,List.getElem?_take,iP v]at hi;obtain⟨n,F,rfl⟩:=Option.map_eq_some_iff.1 hi;have I:b.getD i 0=n:=by rw[List.getD_eq_getElem?_getD,F]; rfl
   rw[I]at q;simp only[lE,eX,List.length_cons,List.length_nil,List.headD_cons,G.iV,and_true];refine⟨.int .i64 n,?_,rfl,rfl⟩;have:a.add i=⟨a.block,a.off+i*(0+1),none⟩:=by
    cases a;simp only at g;subst g;simp[Addr.add]
   rw[<-this];exact q

theorem ai7{H:Type}{I:TypeId × Value->H}{P:Program}{f:FuncId}{fn:Func}{s:ChangeSpec}{J X tB:TypeId}(hp:fn.params=#[J])(hr:fn.resultTypes=#[tB])
  (M:P.underlying J=some (.slice X)) (he:P.underlying X=some (.int .i64)) (hc:P.cellsOf X=1) (Y:P.underlying tB=some .bool) (hsv:s.vars=[])
  (hs:∀ d:DataW H,s.fn H [d]={ results:=[.lit (.bool true)],args:=[d] })
  (hcall:∀ rZ:List (List G),eK P f [.listF [.int .i64] rZ] [] (.lit (.bool true)) [])
  {W:a6} {aN:Nat} {args:Array Value} {ds gs:List (DataW H)} {before:List MemPlace}
  (htab:∀ p∈uM,∃ t f,W.heap[p.1]? = some (.cells p.2 t f))
  (hval:∀(j:Nat) t v,fn.params[j]? = some t->args[j]? = some v->Value.okWide P W .any aN t v)
  (hW:DataW.Whole I P fn.params.toList s.vars false W args.toList ds gs before) :
  Calls P f args W fun e g=>∃ v,e=.returned v/\s.post I P fn false true false false W args v g:=by
 have hW':=hW;obtain⟨p,q,hA,hV,rfl,_,_⟩:=hW;rw[hp]at hA hval;rw[hsv]at hV;obtain⟨v0,d0,rfl,rfl,fuel,h0⟩:=trodAll_one hA;obtain⟨rfl,rfl⟩:=trodVars_none hV;have hval0:=hval 0 J v0 rfl rfl;obtain⟨z,k,w,rfl⟩:=okWide_slice M hval0;have fin:∀(rZ:List (List G)),ab (ae.plain W) (.listF [.int .i64] rZ) (.slice z k w) ->
   (∀ g:a6,W.heap.size<=g.heap.size->(∀ b,b<W.heap.size->g.heap[b]? = W.heap[b]?)->∃ pa,DataW.TrodAll I P g 0 (fun b=>decide (b<W.heap.size)) true [J] [.slice z k w] [d0] pa) ->
   Calls P f #[.slice z k w] W fun e g=>∃ v,e=.returned v/\s.post I P fn false true false false W #[.slice z k w] v g:=by
  intro rZ hrel hargs;refine(hcall rZ (ae.plain W) #[.slice z k w] rfl (ai5 W htab) (by simp only[ar]; exact⟨hrel,trivial⟩)).mono ?_;rintro e g ⟨c,v,H',rfl,⟨rfl,rfl⟩,loc',r',g1,g2,N⟩;simp only[ab]at g1;subst g1;have F:∀ b,b<W.heap.size->g.heap[b]? = W.heap[b]? := fun b Y=>N.same b Y (JN W b);obtain⟨pa,hpa⟩:=hargs g N.size F;have hres:(Value.bool true).resultList fn.resultTypes.size=[.bool true]:=by
   rw[hr];rfl
  refine⟨.bool true,rfl,[d0],[],p++[],[],pa,[],hW',?_,?_,?_,?_,fun h=>by cases h⟩
  ·rw [hres, hr, fe, hs]
   exact trodAll_mk1 (shut_bool Y _)
  ·rw [hp, fe, hs]
   exact hpa
  ·rw [hsv, fe, hs]
   rfl
  ·exact World.keptBut_mono (fun _ h=>h.elim) (World.keptBut_none_iff.2 ⟨N.env.1,N.env.2.1,F⟩)
 rcases open_ints M he hc h0 with⟨y,A⟩|⟨a,len,cap,B,y,_,hl,hm,hz,A,U,hw⟩
 ·simp [JU] at y
  obtain⟨rfl,rfl,rfl⟩:=y;simp only[bk]at A;obtain⟨rfl,rfl⟩:=A;refine fin [] ?_ fun g _ _=>⟨[],trodAll_mk1 (shut_slice_nil M)⟩
  simp only[ab,eX,G.rZ];exact⟨none,0,rfl,Nat.le_refl _,.inl trivial⟩
 ·simp [JU] at y
  obtain⟨rfl,rfl,rfl⟩:=y;simp only[bk]at A;obtain⟨rfl,rfl⟩:=A;simp only[if_true]at hz;refine fin (rowsOf (B.take k)) (ai6 hl hz U) fun g hsz F=>⟨MemPlace.row a B.length,trodAll_mk1 ⟨2,?_⟩⟩
  have hcell':∀ i,i<B.length->g.cell? (a.add i)=some (.int .i64 (B.getD i 0)):=by
   intro i hi;have O:=U i hi;obtain⟨V,_⟩:=JO O;rw[<-O];unfold qD;rw[F _ V]
  refine shut_ints 0 M he hc (Nat.zero_le _) hl hm ?_ hcell' hw;by_cases h0:B.length=0
  ·have : w = 0 := by omega
   have:k=0:=by omega
   split<;>omega
  ·have O := U 0 (by omega)
   obtain⟨V,_⟩:=JO O;have hb2:decide (a.block<W.heap.size)=true:=by
    simp only[dT];exact V
   rw[iP hb2];exact hz

end Go.AL

namespace Go.Proofs.YtmhkodhaodcfdaaGreatDoor
open Go Go.AL
theorem ai8:ownKnob Tryz.prog.godebug=none:=by kernel_rfl
theorem ai9:(laidOutB Tryz.pinned.checked.prog)=true:=by kernel_rfl
theorem ai_:(mapsRowed Tryz.pinned.checked.prog)=true:=by kernel_rfl
theorem ai':((Tryz.pinned.checked.prog.stops==[]))=true:=by kernel_rfl
theorem aja:((Tryz.pinned.checked.prog.stopKnobs==[]))=true:=by kernel_rfl
theorem ajb:(false==Tryz.pinned.checked.prog.plainKeys)=true:=by kernel_rfl
theorem ajc:(Tryz.pinned.checked.prog.stopsHeard)=true:=by kernel_rfl
theorem ajd:(Tryz.pinned.checked.prog.mayEnter)=true:=by kernel_rfl
theorem aje:Tryz.pinned.checked.prog.mainIs=some (true,("0605be03b4828d5d276e46c32dcc97e9d71015115d3d0e8a51158c53b763862a" : String).toList):=by kernel_rfl
theorem ajf:true=Tryz.pinned.checked.prog.looks []:=by kernel_rfl
end Go.Proofs.YtmhkodhaodcfdaaGreatDoor
