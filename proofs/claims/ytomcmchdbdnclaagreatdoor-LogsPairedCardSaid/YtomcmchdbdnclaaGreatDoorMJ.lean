/-
 What is proved: a row's closed facts, one by one, are all of them. No condition but these.
-/
import Derived.JoinedOf
import Derived.Test.YtomcmchdbdnclaaGreatDoorMD
import Derived.ProofKit
import Derived.OpenShut
import Derived.LaidMore
import Derived.Lay
import Derived.SevenTiedAt
import Derived.Stop.Joined
import Derived.Test.YtomcmchdbdnclaaGreatDoorRows
set_option linter.all false
open Array renaming getElem?_eq_some_iff->k5
open Go.Value renaming cells->K4
open Go.World renaming cell?->s9
open List renaming append_nil->cB
open Prod.mk renaming injEq->aU
namespace Go.AL
open Go

theorem akU{P:Program}{f:FuncId}{fn:Func}{s:ChangeSpec}{c:OpenClaim}
  (h1:c.wf (OpenSpec.ofChange s)=true) (h2:laidOutB P=true) (h3:mapsRowed P=true) (h4:fn.params.all (P.readableRec ·)=true) (h5:namedTie P c.named s.vars=true)
  (h6:(c.stops==[])=true) (h7:(P.stops==[])=true) (h8:(c.knobs==[])=true) (h9:(P.stopKnobs==[])=true) (d:(c.inPlace==P.inPlace f)=true)
  (g:(c.unfollowed==P.unfollowed f)=true) (q:(c.recurses==P.recurses f)=true) (u:(c.named==P.varsNamed f)=true)
  (v:(c.maps==(fn.params.toList++s.plain.varTypes P).any (P.mapsRec ·))=true) (y:(c.ifaces==(fn.params.toList++s.plain.varTypes P).any (P.ifacesRec ·))=true) (I:(c.mapsOut==P.mapsAmong fn.resultTypes.toList)=true)
  (M:(c.loops==(fn.params.toList++s.plain.varTypes P).any (P.loopsFrom ·))=true) (N:(c.wideKeys==(fn.params.toList++s.plain.varTypes P++fn.resultTypes.toList).any (P.wideKeysFrom ·))=true)
  (O:s.vars.all (P.varReadable ·)=true) (U:fn.resultTypes.all (fun t=>P.readableRec t&&decide (t<P.types.size))=true) (V:(c.ifacesOut==fn.resultTypes.toList.any (P.ifacesRec ·))=true)
  (W:(c.loopsOut==fn.resultTypes.toList.any (P.loopsFrom ·))=true) (h23:(c.plainKeys==P.plainKeys)=true) (h24:c.shortTexts.isNone=true) (h25:P.stopsHeard=true) (h26:P.mayEnter=true)
  (h27:(c.lifted==P.liftsFinal)=true) (h28:(P.make==some c.make)=true)
  (h29:(c.kinds==(if c.domain.isEmpty then [] else fn.params.toList.map fun t=>match P.underlying t with|some (.int k)=>some k|_=>none))=true) (h30:(c.pinned==c.pinnedBy)=true)
  (h31:(c.veiled==(fn.params.toList++s.plain.varTypes P++fn.resultTypes.toList).any (P.veiledRec ·))=true) (h32:c.veiledFits P fn.params.toList (fn.params.toList++s.plain.varTypes P++fn.resultTypes.toList)=true) :
  joinedFacts P f fn s c=true:=by
 unfold joinedFacts;rw[h1,h2,h3,h4,h5,h6,h7,h8,h9,d,g,q,u,v,y,I,M,N,O,U,V,W,h23,h24,h25,h26,h27,h28,h30,h31,h32];simp only[Bool.and_true,Bool.true_and];exact h29

end Go.AL

namespace Go.AL
open Go Go.ChangeShapes Go.WideShapes Go.ChangeAt Go.RowKit
variable [Dr]

def Env.plain(w:World):Env:=⟨w,[],[],⟨fun _=>False,fun _=>False,dZ⟩⟩
theorem KW(w:World)(b:Nat):¬ (Env.plain w).own b:=by rintro(⟨id,c,h⟩|⟨l,k,c,h⟩)<;>simp[Env.plain,dZ]at h
theorem akV(w:World)(d:∀ p∈wQ,∃ t f,w.heap[p.1]? = some (.cells p.2 t f)):al (Env.plain w):=⟨rfl,fun i j b m n h=>by simp[Env.plain]at h,fun i b m h=>by simp[Env.plain]at h,fun b h=>h.elim,fun i o h=>by simp[Env.plain]at h,fun p g=>by
 obtain⟨t,f,h⟩:=d p g;exact⟨⟨(k5.1 h).1,KW w _,fun h=>h⟩,t,f,h⟩,fun l k l' k' b m n hk=>by simp[Env.plain,dZ]at hk,fun i b m l k n hi=>by simp[Env.plain]at hi,fun l k b m hk=>by simp[Env.plain,dZ]at hk,fun i j o o' l hi=>by simp[Env.plain]at hi,fun l _ k q hk=>by simp[Env.plain,dZ]at hk⟩

def rowsOf(d:List Int):List (List G):=d.map fun n=>[.i n]

theorem KX{w:World}{a:Addr}{v:Value}(h:w.cell? a=some v):a.block<w.heap.size/\a.spot=none:=by
 unfold s9 at h;split at h
 ·rename_i c t f d
  refine⟨(k5.1 d).1,?_⟩;cases g:a.spot with
  |none=>rfl
  |some s=>rw[g]at h; simp at h
 ·cases h

theorem akW{w:World}{a:Addr}{len cap:Nat}{d:List Int}(y:len<=cap)(N:d.length=cap) (k:∀ i,i<d.length->w.cell? (a.add i)=some (.int .i64 (d.getD i 0))) :
  rel (Env.plain w) (.listF [.int .i64] (rowsOf (d.take len))) (.slice (some a) len cap):=by
 simp only[rel,eo,G.rows];have hlen:(rowsOf (d.take len)).length=len:=by simp[rowsOf]; omega
 refine⟨some a,cap,by rw[hlen],by rw[hlen]; exact y,?_⟩;by_cases h0:len=0
 ·left
  exact List.eq_nil_of_length_eq_zero (by rw[hlen]; exact h0)
 ·right
  have u:=k 0 (by omega);obtain⟨hb,I⟩:=KX u;have g:a.spot=none:=I;refine⟨a.block,a.off,?_,⟨hb,KW w a.block,fun h=>h⟩,?_⟩
  ·cases a
   simp only at g;subst g;rfl
  ·intro i r hi
   have v:i<len:=by
    have:=aG hi;rw[hlen]at this;exact this
   have q:=k i (by omega);simp only[rowsOf,List.getElem?_map,List.getElem?_take,if_pos v]at hi;obtain⟨n,h1,rfl⟩:=Option.map_eq_some_iff.1 hi;have M:d.getD i 0=n:=by rw[List.getD_eq_getElem?_getD,h1]; rfl
   rw[M]at q;simp only[mC,eo,List.length_cons,List.length_nil,List.headD_cons,G.int,and_true];refine⟨.int .i64 n,?_,rfl,rfl⟩;have:a.add i=⟨a.block,a.off+i*(0+1),none⟩:=by
    cases a;simp only at g;subst g;simp[Addr.add]
   rw[<-this];exact q

theorem akX{H:Type}{enc:TypeId × Value->H}{P:Program}{f:FuncId}{fn:Func}{s:ChangeSpec}{O tE tB:TypeId}(hp:fn.params=#[O])(hr:fn.resultTypes=#[tB])
  (U:P.underlying O=some (.slice tE)) (he:P.underlying tE=some (.int .i64)) (hc:P.cellsOf tE=1) (hb:P.underlying tB=some .bool) (hsv:s.vars=[])
  (hs:∀ d:DataW H,s.fn H [d]={ results:=[.lit (.bool true)],args:=[d] })
  (hcall:∀ rows:List (List G),dn P f [.listF [.int .i64] rows] [] (.lit (.bool true)) [])
  {W:World} {base:Nat} {args:Array Value} {ds gs:List (DataW H)} {before:List MemPlace}
  (htab:∀ p∈wQ,∃ t f,W.heap[p.1]? = some (.cells p.2 t f))
  (hval:∀(j:Nat) t v,fn.params[j]? = some t->args[j]? = some v->Value.okWide P W .any base t v)
  (hW:DataW.Whole enc P fn.params.toList s.vars false W args.toList ds gs before) :
  Calls P f args W fun e g=>∃ v,e=.returned v/\s.post enc P fn false true false false W args v g:=by
 have hW':=hW;obtain⟨p,q,hA,hV,rfl,_,_⟩:=hW;rw[hp]at hA hval;rw[hsv]at hV;obtain⟨v0,d0,rfl,rfl,fuel,h0⟩:=trodAll_one hA;obtain⟨rfl,rfl⟩:=trodVars_none hV;have hval0:=hval 0 O v0 rfl rfl;obtain⟨a0,k,u,rfl⟩:=okWide_slice U hval0;have fin:∀(rows:List (List G)),rel (Env.plain W) (.listF [.int .i64] rows) (.slice a0 k u) ->
   (∀ g:World,W.heap.size<=g.heap.size->(∀ b,b<W.heap.size->g.heap[b]? = W.heap[b]?)->∃ pa,DataW.TrodAll enc P g 0 (fun b=>decide (b<W.heap.size)) true [O] [.slice a0 k u] [d0] pa) ->
   Calls P f #[.slice a0 k u] W fun e g=>∃ v,e=.returned v/\s.post enc P fn false true false false W #[.slice a0 k u] v g:=by
  intro rows hrel hargs;refine(hcall rows (Env.plain W) #[.slice a0 k u] rfl (akV W htab) (by simp only[ae]; exact⟨hrel,trivial⟩)).mono ?_;rintro e g ⟨c,v,H',rfl,⟨rfl,rfl⟩,loc',r',g1,g2,g3⟩;simp only[rel]at g1;subst g1;have N:∀ b,b<W.heap.size->g.heap[b]? = W.heap[b]? := fun b hb=>g3.same b hb (KW W b);obtain⟨pa,hpa⟩:=hargs g g3.size N;have hres:(Value.bool true).resultList fn.resultTypes.size=[.bool true]:=by
   rw[hr];rfl
  refine⟨.bool true,rfl,[d0],[],p++[],[],pa,[],hW',?_,?_,?_,?_,fun h=>by cases h⟩
  ·rw [hres, hr, cB, hs]
   exact trodAll_mk1 (shut_bool hb _)
  ·rw [hp, cB, hs]
   exact hpa
  ·rw [hsv, cB, hs]
   rfl
  ·exact World.keptBut_mono (fun _ h=>h.elim) (World.keptBut_none_iff.2 ⟨g3.env.1,g3.env.2.1,N⟩)
 rcases open_ints U he hc h0 with⟨y,I⟩|⟨a,len,cap,M,y,_,hl,hm,hz,I,V,hw⟩
 ·simp [K4] at y
  obtain⟨rfl,rfl,rfl⟩:=y;simp only[aU]at I;obtain⟨rfl,rfl⟩:=I;refine fin [] ?_ fun g _ _=>⟨[],trodAll_mk1 (shut_slice_nil U)⟩
  simp only[rel,eo,G.rows];exact⟨none,0,rfl,Nat.le_refl _,.inl trivial⟩
 ·simp [K4] at y
  obtain⟨rfl,rfl,rfl⟩:=y;simp only[aU]at I;obtain⟨rfl,rfl⟩:=I;simp only[if_true]at hz;refine fin (rowsOf (M.take k)) (akW hl hz V) fun g hsz N=>⟨MemPlace.row a M.length,trodAll_mk1 ⟨2,?_⟩⟩
  have hcell':∀ i,i<M.length->g.cell? (a.add i)=some (.int .i64 (M.getD i 0)):=by
   intro i hi;have h1:=V i hi;obtain⟨hb1,_⟩:=KX h1;rw[<-h1];unfold s9;rw[N _ hb1]
  refine shut_ints 0 U he hc (Nat.zero_le _) hl hm ?_ hcell' hw;by_cases h0:M.length=0
  ·have : u = 0 := by omega
   have:k=0:=by omega
   split<;>omega
  ·have h1 := V 0 (by omega)
   obtain⟨hb1,_⟩:=KX h1;have hb2:decide (a.block<W.heap.size)=true:=by
    simp only[decide_eq_true_eq];exact hb1
   rw[if_pos hb2];exact hz

end Go.AL

namespace Go.Proofs.YtomcmchdbdnclaaGreatDoor
open Go Go.AL
theorem akY:ownKnob Tryz.prog.godebug=none:=by kernel_rfl
theorem akZ:(laidOutB Tryz.pinned.checked.prog)=true:=by kernel_rfl
theorem ak0:(mapsRowed Tryz.pinned.checked.prog)=true:=by kernel_rfl
theorem ak1:((Tryz.pinned.checked.prog.stops==[]))=true:=by kernel_rfl
theorem ak2:((Tryz.pinned.checked.prog.stopKnobs==[]))=true:=by kernel_rfl
theorem ak3:(false==Tryz.pinned.checked.prog.plainKeys)=true:=by kernel_rfl
theorem ak4:(Tryz.pinned.checked.prog.stopsHeard)=true:=by kernel_rfl
theorem ak5:(Tryz.pinned.checked.prog.mayEnter)=true:=by kernel_rfl
theorem ak6:Tryz.pinned.checked.prog.mainIs=some (true,("027f505a59d7219f99e7d415580144769b98523eb2ba9966487830cbc8df570c" : String).toList):=by kernel_rfl
theorem ak7:false=Tryz.pinned.checked.prog.looks []:=by kernel_rfl
end Go.Proofs.YtomcmchdbdnclaaGreatDoor
