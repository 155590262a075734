/-
 What is proved here: the closed facts of a row,one by one,are all of them. No program in sight; no condition but these facts.
-/
import Derived.JoinedOf
import Derived.Test.YtioeckojljemcaaGreatDoorMD
import Derived.ProofKit
import Derived.OpenShut
import Derived.LaidMore
import Derived.Lay
import Derived.SevenTiedAt
import Derived.Stop.Joined
import Derived.Test.YtioeckojljemcaaGreatDoorRows
set_option linter.all false
namespace Go.AL
open Go

theorem facts_of {P:Program} {f:FuncId} {fn:Func} {s:ChangeSpec} {c:OpenClaim}
  (h1:c.wf (OpenSpec.ofChange s)=true) (h2:laidOutB P=true) (h3:mapsRowed P=true) (h4:fn.params.all (P.readableRec ·)=true) (h5:namedTie P c.named s.vars=true)
  (h6:(c.stops==[])=true) (h7:(P.stops==[])=true) (h8:(c.knobs==[])=true) (h9:(P.stopKnobs==[])=true) (h10:(c.inPlace==P.inPlace f)=true)
  (h11:(c.unfollowed==P.unfollowed f)=true) (h12:(c.recurses==P.recurses f)=true) (h13:(c.named==P.varsNamed f)=true)
  (h14:(c.maps==(fn.params.toList++s.plain.varTypes P).any (P.mapsRec ·))=true) (h15:(c.ifaces==(fn.params.toList++s.plain.varTypes P).any (P.ifacesRec ·))=true) (h16:(c.mapsOut==P.mapsAmong fn.resultTypes.toList)=true)
  (h17:(c.loops==(fn.params.toList++s.plain.varTypes P).any (P.loopsFrom ·))=true) (h18:(c.wideKeys==(fn.params.toList++s.plain.varTypes P++fn.resultTypes.toList).any (P.wideKeysFrom ·))=true)
  (h19:s.vars.all (P.varReadable ·)=true) (h20:fn.resultTypes.all (fun t=>P.readableRec t&&decide (t<P.types.size))=true) (h21:(c.ifacesOut==fn.resultTypes.toList.any (P.ifacesRec ·))=true)
  (h22:(c.loopsOut==fn.resultTypes.toList.any (P.loopsFrom ·))=true) (h23:(c.plainKeys==P.plainKeys)=true) (h24:c.shortTexts.isNone=true) (h25:P.stopsHeard=true) (h26:P.mayEnter=true)
  (h27:(c.lifted==P.liftsFinal)=true) (h28:(P.make==some c.make)=true)
  (h29:(c.kinds==(if c.domain.isEmpty then [] else fn.params.toList.map fun t=>match P.underlying t with | some (.int k)=>some k | _=>none))=true) (h30:(c.pinned==c.pinnedBy)=true)
  (h31:(c.veiled==(fn.params.toList++s.plain.varTypes P++fn.resultTypes.toList).any (P.veiledRec ·))=true) (h32:c.veiledFits P fn.params.toList (fn.params.toList++s.plain.varTypes P++fn.resultTypes.toList)=true) :
  joinedFacts P f fn s c=true:=by
 unfold joinedFacts
 rw [h1,h2,h3,h4,h5,h6,h7,h8,h9,h10,h11,h12,h13,h14,h15,h16,h17,h18,h19,h20,h21,h22,h23,h24,h25,h26,h27,h28,h30,h31,h32]
 simp only [Bool.and_true,Bool.true_and]
 exact h29

end Go.AL

namespace Go.AL
open Go Go.ChangeShapes Go.WideShapes Go.ChangeAt Go.RowKit
variable [Dr]

/-- The world as it stands, with nothing owned. -/
def Env.plain (w:World):Env:=⟨w,[],[],⟨fun _=>False,fun _=>False,noR⟩⟩
theorem plain_own (w:World) (b:Nat):¬ (Env.plain w).own b:=by rintro (⟨id,c,h⟩ | ⟨l,k,c,h⟩)<;>simp [Env.plain,noR] at h
theorem plain_HRel (w:World) (ht:∀ p∈tabZ,∃ t f,w.heap[p.1]? = some (.cells p.2 t f)):HRel (Env.plain w):=⟨rfl,fun i j b m n h=>by simp [Env.plain] at h,fun i b m h=>by simp [Env.plain] at h,fun b h=>h.elim,fun i o h=>by simp [Env.plain] at h,fun p hp=>by
 obtain ⟨t,f,h⟩:=ht p hp
 exact ⟨⟨(Array.getElem?_eq_some_iff.1 h).1,plain_own w _,fun h=>h⟩,t,f,h⟩,fun l k l' k' b m n hk=>by simp [Env.plain,noR] at hk,fun i b m l k n hi=>by simp [Env.plain] at hi,fun l k b m hk=>by simp [Env.plain,noR] at hk,fun i j o o' l hi=>by simp [Env.plain] at hi,fun l _ k q hk=>by simp [Env.plain,noR] at hk⟩

def rowsOf (zs:List Int):List (List G):=zs.map fun n=>[.i n]

theorem cell_lt {w:World} {a:Addr} {v:Value} (h:w.cell? a=some v):a.block<w.heap.size∧a.spot=none:=by
 unfold World.cell? at h
 split at h
 ·rename_i c t f hc
  refine ⟨(Array.getElem?_eq_some_iff.1 hc).1,?_⟩
  cases hs:a.spot with
  | none=>rfl
  | some s=>rw [hs] at h; simp at h
 ·cases h

/-- A slice of numbers as data. -/
theorem ints_rel {w:World} {a:Addr} {len cap:Nat} {zs:List Int} (hl:len≤cap) (hz:zs.length=cap) (hcell:∀ i,i<zs.length→w.cell? (a.add i)=some (.int .i64 (zs.getD i 0))) :
  rel (Env.plain w) (.listF [.int .i64] (rowsOf (zs.take len))) (.slice (some a) len cap):=by
 simp only [rel,relKd,G.rows]
 have hlen:(rowsOf (zs.take len)).length=len:=by simp [rowsOf]; omega
 refine ⟨some a,cap,by rw [hlen],by rw [hlen]; exact hl,?_⟩
 by_cases h0:len=0
 ·left
  exact List.eq_nil_of_length_eq_zero (by rw [hlen]; exact h0)
 ·right
  have hc0:=hcell 0 (by omega)
  obtain ⟨hb,hs⟩:=cell_lt hc0
  have hs':a.spot=none:=hs
  refine ⟨a.block,a.off,?_,⟨hb,plain_own w a.block,fun h=>h⟩,?_⟩
  ·cases a
   simp only at hs'
   subst hs'
   rfl
  ·intro i r hi
   have hlt:i<len:=by
    have:=lt_of_getElem? hi
    rw [hlen] at this
    exact this
   have hci:=hcell i (by omega)
   simp only [rowsOf,List.getElem?_map,List.getElem?_take,if_pos hlt] at hi
   obtain ⟨n,h1,rfl⟩:=Option.map_eq_some_iff.1 hi
   have hn:zs.getD i 0=n:=by rw [List.getD_eq_getElem?_getD,h1]; rfl
   rw [hn] at hci
   simp only [relKs,relKd,List.length_cons,List.length_nil,List.headD_cons,G.int,and_true]
   refine ⟨.int .i64 n,?_,rfl,rfl⟩
   have:a.add i=⟨a.block,a.off+i*(0+1),none⟩:=by
    cases a
    simp only at hs'
    subst hs'
    simp [Addr.add]
   rw [←this]
   exact hci

/-- A law whose contract on data says true: what the row asks of a call. -/
theorem law_post {H:Type} {enc:TypeId × Value→H} {P:Program} {f:FuncId} {fn:Func} {s:ChangeSpec} {tI tE tB:TypeId} (hp:fn.params=#[tI]) (hr:fn.resultTypes=#[tB])
  (ht:P.underlying tI=some (.slice tE)) (he:P.underlying tE=some (.int .i64)) (hc:P.cellsOf tE=1) (hb:P.underlying tB=some .bool) (hsv:s.vars=[])
  (hs:∀ d:DataW H,s.fn H [d]={ results:=[.lit (.bool true)],args:=[d] })
  (hcall:∀ rows:List (List G),ACallX P f [.listF [.int .i64] rows] [] (.lit (.bool true)) [])
  {W:World} {base:Nat} {args:Array Value} {ds gs:List (DataW H)} {before:List MemPlace}
  (htab:∀ p∈tabZ,∃ t f,W.heap[p.1]? = some (.cells p.2 t f))
  (hval:∀ (j:Nat) t v,fn.params[j]? = some t→args[j]? = some v→Value.okWide P W .any base t v)
  (hW:DataW.Whole enc P fn.params.toList s.vars false W args.toList ds gs before) :
  Calls P f args W fun e W'=>∃ v,e=.returned v∧s.post enc P fn false true false false W args v W':=by
 have hW':=hW
 obtain ⟨p,q,hA,hV,rfl,_,_⟩:=hW
 rw [hp] at hA hval
 rw [hsv] at hV
 obtain ⟨v0,d0,rfl,rfl,fuel,h0⟩:=trodAll_one hA
 obtain ⟨rfl,rfl⟩:=trodVars_none hV
 have hval0:=hval 0 tI v0 rfl rfl
 obtain ⟨a0,len0,cap0,rfl⟩:=okWide_slice ht hval0
 have fin:∀ (rows:List (List G)),rel (Env.plain W) (.listF [.int .i64] rows) (.slice a0 len0 cap0) →
   (∀ W':World,W.heap.size≤W'.heap.size→(∀ b,b<W.heap.size→W'.heap[b]? = W.heap[b]?)→∃ pa,DataW.TrodAll enc P W' 0 (fun b=>decide (b<W.heap.size)) true [tI] [.slice a0 len0 cap0] [d0] pa) →
   Calls P f #[.slice a0 len0 cap0] W fun e W'=>∃ v,e=.returned v∧s.post enc P fn false true false false W #[.slice a0 len0 cap0] v W':=by
  intro rows hrel hargs
  refine (hcall rows (Env.plain W) #[.slice a0 len0 cap0] rfl (plain_HRel W htab) (by simp only [rLs]; exact ⟨hrel,trivial⟩)).mono ?_
  rintro e W' ⟨c,v,H',rfl,⟨rfl,rfl⟩,loc',r',g1,g2,g3⟩
  simp only [rel] at g1
  subst g1
  have hsame:∀ b,b<W.heap.size→W'.heap[b]? = W.heap[b]? := fun b hb=>g3.same b hb (plain_own W b)
  obtain ⟨pa,hpa⟩:=hargs W' g3.size hsame
  have hres:(Value.bool true).resultList fn.resultTypes.size=[.bool true]:=by
   rw [hr]
   rfl
  refine ⟨.bool true,rfl,[d0],[],p++[],[],pa,[],hW',?_,?_,?_,?_,fun h=>by cases h⟩
  ·rw [hres, hr, List.append_nil, hs]
   exact trodAll_mk1 (shut_bool hb _)
  ·rw [hp, List.append_nil, hs]
   exact hpa
  ·rw [hsv, List.append_nil, hs]
   rfl
  ·exact World.keptBut_mono (fun _ h=>h.elim) (World.keptBut_none_iff.2 ⟨g3.env.1,g3.env.2.1,hsame⟩)
 rcases open_ints ht he hc h0 with ⟨hcs,hx⟩ | ⟨a,len,cap,zs,hcs,_,hl,hm,hz,hx,hcell,hw⟩
 ·simp [Value.cells] at hcs
  obtain ⟨rfl,rfl,rfl⟩:=hcs
  simp only [Prod.mk.injEq] at hx
  obtain ⟨rfl,rfl⟩:=hx
  refine fin [] ?_ fun W' _ _=>⟨[],trodAll_mk1 (shut_slice_nil ht)⟩
  simp only [rel,relKd,G.rows]
  exact ⟨none,0,rfl,Nat.le_refl _,.inl trivial⟩
 ·simp [Value.cells] at hcs
  obtain ⟨rfl,rfl,rfl⟩:=hcs
  simp only [Prod.mk.injEq] at hx
  obtain ⟨rfl,rfl⟩:=hx
  simp only [if_true] at hz
  refine fin (rowsOf (zs.take len0)) (ints_rel hl hz hcell) fun W' hsz hsame=>⟨MemPlace.row a zs.length,trodAll_mk1 ⟨2,?_⟩⟩
  have hcell':∀ i,i<zs.length→W'.cell? (a.add i)=some (.int .i64 (zs.getD i 0)):=by
   intro i hi
   have h1:=hcell i hi
   obtain ⟨hb1,_⟩:=cell_lt h1
   rw [←h1]
   unfold World.cell?
   rw [hsame _ hb1]
  refine shut_ints 0 ht he hc (Nat.zero_le _) hl hm ?_ hcell' hw
  by_cases h0:zs.length=0
  ·have : cap0 = 0 := by omega
   have:len0=0:=by omega
   split<;>omega
  ·have h1 := hcell 0 (by omega)
   obtain ⟨hb1,_⟩:=cell_lt h1
   have hb2:decide (a.block<W.heap.size)=true:=by
    simp only [decide_eq_true_eq]
    exact hb1
   rw [if_pos hb2]
   exact hz

end Go.AL

namespace Go.Proofs.YtioeckojljemcaaGreatDoor
open Go Go.AL
theorem ownOf:ownKnob Tryz.prog.godebug=none:=by kernel_rfl
theorem p_h2:(laidOutB Tryz.pinned.checked.prog)=true:=by kernel_rfl
theorem p_h3:(mapsRowed Tryz.pinned.checked.prog)=true:=by kernel_rfl
theorem p_h7:((Tryz.pinned.checked.prog.stops==[]))=true:=by kernel_rfl
theorem p_h9:((Tryz.pinned.checked.prog.stopKnobs==[]))=true:=by kernel_rfl
theorem p_h23:(false==Tryz.pinned.checked.prog.plainKeys)=true:=by kernel_rfl
theorem p_h25:(Tryz.pinned.checked.prog.stopsHeard)=true:=by kernel_rfl
theorem p_h26:(Tryz.pinned.checked.prog.mayEnter)=true:=by kernel_rfl
theorem pMain:Tryz.pinned.checked.prog.mainIs=some (true,("2e19ae75a5f050f8737e742ef15732679ab540ee6f64f97ac9f184ac86554ced" : String).toList):=by kernel_rfl
theorem pLooks:false=Tryz.pinned.checked.prog.looks []:=by kernel_rfl
end Go.Proofs.YtioeckojljemcaaGreatDoor
