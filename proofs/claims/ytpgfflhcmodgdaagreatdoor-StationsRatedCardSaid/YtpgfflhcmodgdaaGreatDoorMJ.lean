/-
 What is proved here: the closed facts of a row,one by one,are all of them. No program in sight; no condition but these facts.
-/
import Derived.JoinedOf
import Derived.Test.YtpgfflhcmodgdaaGreatDoorMD
import Derived.ProofKit
import Derived.OpenShut
import Derived.LaidMore
import Derived.Lay
import Derived.SevenTiedAt
import Derived.Stop.Joined
import Derived.Test.YtpgfflhcmodgdaaGreatDoorRows
set_option linter.all false
open Array renaming getElem?_eq_some_iff->kh
open Go renaming World->bh
open Go.Value renaming cells->Zu
open Go.World renaming cell?->xy
open List renaming append_nil->dY
open Prod.mk renaming injEq->bM
namespace Go.AL
open Go

theorem aq'{P:Program}{f:FuncId}{fn:Func}{s:ChangeSpec}{c:OpenClaim}
  (h1:c.wf (OpenSpec.ofChange s)=true) (h2:laidOutB P=true) (h3:mapsRowed P=true) (h4:fn.params.all (P.readableRec ·)=true) (h5:namedTie P c.named s.vars=true)
  (h6:(c.stops==[])=true) (h7:(P.stops==[])=true) (h8:(c.knobs==[])=true) (h9:(P.stopKnobs==[])=true) (d:(c.inPlace==P.inPlace f)=true)
  (h:(c.unfollowed==P.unfollowed f)=true) (v:(c.recurses==P.recurses f)=true) (y:(c.named==P.varsNamed f)=true)
  (I:(c.maps==(fn.params.toList++s.plain.varTypes P).any (P.mapsRec ·))=true) (M:(c.ifaces==(fn.params.toList++s.plain.varTypes P).any (P.ifacesRec ·))=true) (N:(c.mapsOut==P.mapsAmong fn.resultTypes.toList)=true)
  (O:(c.loops==(fn.params.toList++s.plain.varTypes P).any (P.loopsFrom ·))=true) (U:(c.wideKeys==(fn.params.toList++s.plain.varTypes P++fn.resultTypes.toList).any (P.wideKeysFrom ·))=true)
  (W:s.vars.all (P.varReadable ·)=true) (h20:fn.resultTypes.all (fun t=>P.readableRec t&&decide (t<P.types.size))=true) (h21:(c.ifacesOut==fn.resultTypes.toList.any (P.ifacesRec ·))=true)
  (h22:(c.loopsOut==fn.resultTypes.toList.any (P.loopsFrom ·))=true) (h23:(c.plainKeys==P.plainKeys)=true) (h24:c.shortTexts.isNone=true) (h25:P.stopsHeard=true) (h26:P.mayEnter=true)
  (h27:(c.lifted==P.liftsFinal)=true) (h28:(P.make==some c.make)=true)
  (h29:(c.kinds==(if c.domain.isEmpty then [] else fn.params.toList.map fun t=>match P.underlying t with|some (.int k)=>some k|_=>none))=true) (h30:(c.pinned==c.pinnedBy)=true)
  (h31:(c.veiled==(fn.params.toList++s.plain.varTypes P++fn.resultTypes.toList).any (P.veiledRec ·))=true) (h32:c.veiledFits P fn.params.toList (fn.params.toList++s.plain.varTypes P++fn.resultTypes.toList)=true) :
  joinedFacts P f fn s c=true:=by
 unfold joinedFacts;rw[h1,h2,h3,h4,h5,h6,h7,h8,h9,d,h,v,y,I,M,N,O,U,W,h20,h21,h22,h23,h24,h25,h26,h27,h28,h30,h31,h32];simp only[Bool.and_true,Bool.true_and];exact h29

end Go.AL

namespace Go.AL
open Go Go.ChangeShapes Go.WideShapes Go.ChangeAt Go.RowKit
variable [Dr]

def ah.plain(w:bh):ah:=⟨w,[],[],⟨fun _=>False,fun _=>False,fK⟩⟩
theorem OB(w:bh)(b:Nat):¬ (ah.plain w).af b:=by rintro(⟨id,c,h⟩|⟨l,k,c,h⟩)<;>simp[ah.plain,fK]at h
theorem ara(w:bh)(v:∀p∈Bb,∃t f,w.heap[p.1]?=some (.cells p.2 t f)):aJ (ah.plain w):=⟨rfl,fun i j b m n h=>by simp[ah.plain]at h,fun i b m h=>by simp[ah.plain]at h,fun b h=>h.elim,fun i o h=>by simp[ah.plain]at h,fun p y=>by
 obtain⟨t,f,h⟩:=v p y;exact⟨⟨(kh.1 h).1,OB w _,fun h=>h⟩,t,f,h⟩,fun l k l' I b m n d=>by simp[ah.plain,fK]at d,fun i b m l k n hi=>by simp[ah.plain]at hi,fun l k b m d=>by simp[ah.plain,fK]at d,fun i j o o' l hi=>by simp[ah.plain]at hi,fun l _ k q d=>by simp[ah.plain,fK]at d⟩

def rowsOf(d:List Int):List (List G):=d.map fun n=>[.i n]

theorem OC{w:bh}{a:Addr}{v:Value}(h:w.cell? a=some v):a.block<w.heap.size/\a.spot=none:=by
 unfold xy at h;split at h
 ·rename_i c t f d
  refine⟨(kh.1 d).1,?_⟩;cases k:a.spot with
  |none=>rfl
  |some s=>rw[k]at h; simp at h
 ·cases h

theorem arb{w:bh}{a:Addr}{len cap:Nat}{d:List Int}(O:len<=cap)(W:d.length=cap) (y:∀ i,i<d.length->w.cell? (a.add i)=some (.int .i64 (d.getD i 0))) :
  ad (ah.plain w) (.listF [.int .i64] (rowsOf (d.take len))) (.slice (some a) len cap):=by
 simp only[ad,gJ,G.rZ];have k:(rowsOf (d.take len)).length=len:=by simp[rowsOf]; omega
 refine⟨some a,cap,by rw[k],by rw[k]; exact O,?_⟩;by_cases h0:len=0
 ·left
  exact List.eq_nil_of_length_eq_zero (by rw[k]; exact h0)
 ·right
  have M:=y 0 (by omega);obtain⟨hb,U⟩:=OC M;have v:a.spot=none:=U;refine⟨a.block,a.off,?_,⟨hb,OB w a.block,fun h=>h⟩,?_⟩
  ·cases a
   simp only at v;subst v;rfl
  ·intro i r hi
   have N:i<len:=by
    have:=bl hi;rw[k]at this;exact this
   have I:=y i (by omega);simp only[rowsOf,List.getElem?_map,List.getElem?_take,iP N]at hi;obtain⟨n,h1,rfl⟩:=Option.map_eq_some_iff.1 hi;have hn:d.getD i 0=n:=by rw[List.getD_eq_getElem?_getD,h1]; rfl
   rw[hn]at I;simp only[qB,gJ,List.length_cons,List.length_nil,List.headD_cons,G.iV,and_true];refine⟨.int .i64 n,?_,rfl,rfl⟩;have:a.add i=⟨a.block,a.off+i*(0+1),none⟩:=by
    cases a;simp only at v;subst v;simp[Addr.add]
   rw[<-this];exact I

theorem arc{H:Type}{enc:TypeId × Value->H}{P:Program}{f:FuncId}{fn:Func}{s:ChangeSpec}{tI tE tB:TypeId}(hp:fn.params=#[tI])(hr:fn.resultTypes=#[tB])
  (ht:P.underlying tI=some (.slice tE)) (he:P.underlying tE=some (.int .i64)) (hc:P.cellsOf tE=1) (hb:P.underlying tB=some .bool) (hsv:s.vars=[])
  (hs:∀d:DataW H,s.fn H [d]={ results:=[.lit (.bool true)],args:=[d] })
  (hcall:∀rZ:List (List G),fL P f [.listF [.int .i64] rZ] [] (.lit (.bool true)) [])
  {W:bh} {aU:Nat} {args:Array Value} {ds gs:List (DataW H)} {before:List MemPlace}
  (htab:∀p∈Bb,∃t f,W.heap[p.1]?=some (.cells p.2 t f))
  (hval:∀(j:Nat) t v,fn.params[j]?=some t->args[j]?=some v->Value.okWide P W .any aU t v)
  (hW:DataW.Whole enc P fn.params.toList s.vars false W args.toList ds gs before) :
  Calls P f args W fun e k=>∃v,e=.returned v/\s.post enc P fn false true false false W args v k:=by
 have hW':=hW;obtain⟨p,q,hA,hV,rfl,_,_⟩:=hW;rw[hp]at hA hval;rw[hsv]at hV;obtain⟨v0,d0,rfl,rfl,fuel,h0⟩:=trodAll_one hA;obtain⟨rfl,rfl⟩:=trodVars_none hV;have hval0:=hval 0 tI v0 rfl rfl;obtain⟨M,y,I,rfl⟩:=okWide_slice ht hval0;have fin:∀(rZ:List (List G)),ad (ah.plain W) (.listF [.int .i64] rZ) (.slice M y I) ->
   (∀k:bh,W.heap.size<=k.heap.size->(∀b,b<W.heap.size->k.heap[b]?=W.heap[b]?)->∃pa,DataW.TrodAll enc P k 0 (fun b=>decide (b<W.heap.size)) true [tI] [.slice M y I] [d0] pa) ->
   Calls P f #[.slice M y I] W fun e k=>∃v,e=.returned v/\s.post enc P fn false true false false W #[.slice M y I] v k:=by
  intro rZ hrel hargs;refine(hcall rZ (ah.plain W) #[.slice M y I] rfl (ara W htab) (by simp only[aw]; exact⟨hrel,trivial⟩)).mono ?_;rintro e k ⟨c,v,H',rfl,⟨rfl,rfl⟩,loc',r',g1,g2,g3⟩;simp only[ad]at g1;subst g1;have U:∀b,b<W.heap.size->k.heap[b]?=W.heap[b]?:=fun b hb=>g3.same b hb (OB W b);obtain⟨pa,hpa⟩:=hargs k g3.size U;have hres:(Value.bool true).resultList fn.resultTypes.size=[.bool true]:=by
   rw[hr];rfl
  refine⟨.bool true,rfl,[d0],[],p++[],[],pa,[],hW',?_,?_,?_,?_,fun h=>by cases h⟩
  ·rw[hres,hr,dY,hs]
   exact trodAll_mk1 (shut_bool hb _)
  ·rw[hp,dY,hs]
   exact hpa
  ·rw[hsv,dY,hs]
   rfl
  ·exact World.keptBut_mono (fun _ h=>h.elim) (World.keptBut_none_iff.2 ⟨g3.env.1,g3.env.2.1,U⟩)
 rcases open_ints ht he hc h0 with⟨cC,N⟩|⟨a,len,cap,O,cC,_,hl,hm,hz,N,hcell,hw⟩
 ·simp[Zu]at cC
  obtain⟨rfl,rfl,rfl⟩:=cC;simp only[bM]at N;obtain⟨rfl,rfl⟩:=N;refine fin [] ?_ fun k _ _=>⟨[],trodAll_mk1 (shut_slice_nil ht)⟩
  simp only[ad,gJ,G.rZ];exact⟨none,0,rfl,Nat.le_refl _,.inl trivial⟩
 ·simp[Zu]at cC
  obtain⟨rfl,rfl,rfl⟩:=cC;simp only[bM]at N;obtain⟨rfl,rfl⟩:=N;simp only[if_true]at hz;refine fin (rowsOf (O.take y)) (arb hl hz hcell) fun k hsz U=>⟨MemPlace.row a O.length,trodAll_mk1 ⟨2,?_⟩⟩
  have hcell':∀i,i<O.length->k.cell? (a.add i)=some (.int .i64 (O.getD i 0)):=by
   intro i hi;have h1:=hcell i hi;obtain⟨hb1,_⟩:=OC h1;rw[<-h1];unfold xy;rw[U _ hb1]
  refine shut_ints 0 ht he hc (Nat.zero_le _) hl hm ?_ hcell' hw;by_cases h0:O.length=0
  ·have:I=0:=by omega
   have:y=0:=by omega
   split<;>omega
  ·have h1:=hcell 0 (by omega)
   obtain⟨hb1,_⟩:=OC h1;have hb2:decide (a.block<W.heap.size)=true:=by
    simp only[dT];exact hb1
   rw[iP hb2];exact hz

end Go.AL

namespace Go.Proofs.YtpgfflhcmodgdaaGreatDoor
open Go Go.AL
theorem ard:ownKnob Tryz.prog.godebug=none:=by kernel_rfl
theorem arf:(laidOutB Tryz.pinned.checked.prog)=true:=by kernel_rfl
theorem arh:(mapsRowed Tryz.pinned.checked.prog)=true:=by kernel_rfl
theorem ari:((Tryz.pinned.checked.prog.stops==[]))=true:=by kernel_rfl
theorem arj:((Tryz.pinned.checked.prog.stopKnobs==[]))=true:=by kernel_rfl
theorem ark:(false==Tryz.pinned.checked.prog.plainKeys)=true:=by kernel_rfl
theorem arl:(Tryz.pinned.checked.prog.stopsHeard)=true:=by kernel_rfl
theorem arn:(Tryz.pinned.checked.prog.mayEnter)=true:=by kernel_rfl
theorem aro:Tryz.pinned.checked.prog.mainIs=some (true,("a0186e3bc27ce47688098666122cba3edb5d4ddbf65a0c0f8dc335c6a11e5f2d" : String).toList):=by kernel_rfl
theorem arp:false=Tryz.pinned.checked.prog.looks []:=by kernel_rfl
end Go.Proofs.YtpgfflhcmodgdaaGreatDoor
