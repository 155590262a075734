/-
 What is proved here: the closed facts of a row,one by one,are all of them. No program in sight; no condition but these facts.
-/
import Derived.JoinedOf
import Derived.Test.YtiljbnkkhbennaaGreatDoorMD
import Derived.ProofKit
import Derived.OpenShut
import Derived.LaidMore
import Derived.Lay
import Derived.SevenTiedAt
import Derived.Stop.Joined
import Derived.Test.YtiljbnkkhbennaaGreatDoorRows
set_option linter.all false
open Array renaming getElem?_eq_some_iff→gV
open Go.Value renaming cells→Ka
open Go.World renaming cell?→vh
open List renaming append_nil→dh
open Prod.mk renaming injEq→a8
namespace Go.AL
open Go

theorem akY{P:Program}{f:FuncId}{fn:Func}{s:ChangeSpec}{c:OpenClaim}
  (h1:c.wf (OpenSpec.ofChange s)=true) (h2:laidOutB P=true) (h3:mapsRowed P=true) (h4:fn.params.all (P.readableRec ·)=true) (h5:namedTie P c.named s.vars=true)
  (h6:(c.stops==[])=true) (h7:(P.stops==[])=true) (h8:(c.knobs==[])=true) (h9:(P.stopKnobs==[])=true) (d:(c.inPlace==P.inPlace f)=true)
  (q:(c.unfollowed==P.unfollowed f)=true) (B:(c.recurses==P.recurses f)=true) (I:(c.named==P.varsNamed f)=true)
  (J:(c.maps==(fn.params.toList++s.plain.varTypes P).any (P.mapsRec ·))=true) (M:(c.ifaces==(fn.params.toList++s.plain.varTypes P).any (P.ifacesRec ·))=true) (N:(c.mapsOut==P.mapsAmong fn.resultTypes.toList)=true)
  (O:(c.loops==(fn.params.toList++s.plain.varTypes P).any (P.loopsFrom ·))=true) (U:(c.wideKeys==(fn.params.toList++s.plain.varTypes P++fn.resultTypes.toList).any (P.wideKeysFrom ·))=true)
  (V:s.vars.all (P.varReadable ·)=true) (W:fn.resultTypes.all (fun t=>P.readableRec t&&decide (t<P.types.size))=true) (h21:(c.ifacesOut==fn.resultTypes.toList.any (P.ifacesRec ·))=true)
  (h22:(c.loopsOut==fn.resultTypes.toList.any (P.loopsFrom ·))=true) (h23:(c.plainKeys==P.plainKeys)=true) (h24:c.shortTexts.isNone=true) (h25:P.stopsHeard=true) (h26:P.mayEnter=true)
  (h27:(c.lifted==P.liftsFinal)=true) (h28:(P.make==some c.make)=true)
  (h29:(c.kinds==(if c.domain.isEmpty then [] else fn.params.toList.map fun t=>match P.underlying t with|some (.int k)=>some k|_=>none))=true) (h30:(c.pinned==c.pinnedBy)=true)
  (h31:(c.veiled==(fn.params.toList++s.plain.varTypes P++fn.resultTypes.toList).any (P.veiledRec ·))=true) (h32:c.veiledFits P fn.params.toList (fn.params.toList++s.plain.varTypes P++fn.resultTypes.toList)=true) :
  joinedFacts P f fn s c=true:=by
 unfold joinedFacts;rw[h1,h2,h3,h4,h5,h6,h7,h8,h9,d,q,B,I,J,M,N,O,U,V,W,h21,h22,h23,h24,h25,h26,h27,h28,h30,h31,h32];simp only[Bool.and_true,Bool.true_and];exact h29

end Go.AL

namespace Go.AL
open Go Go.ChangeShapes Go.WideShapes Go.ChangeAt Go.RowKit
variable [Dr]

def Env.plain(w:World):Env:=⟨w,[],[],⟨fun _=>False,fun _=>False,dY⟩⟩
theorem J5(w:World)(b:Nat):¬ (Env.plain w).own b:=by rintro(⟨id,c,h⟩|⟨l,k,c,h⟩)<;>simp[Env.plain,dY]at h
theorem akZ(w:World)(d:∀ p∈vw,∃ t f,w.heap[p.1]? = some (.cells p.2 t f)):aq (Env.plain w):=⟨rfl,fun i j b m n h=>by simp[Env.plain]at h,fun i b m h=>by simp[Env.plain]at h,fun b h=>h.elim,fun i o h=>by simp[Env.plain]at h,fun p B=>by
 obtain⟨t,f,h⟩:=d p B;exact⟨⟨(gV.1 h).1,J5 w _,fun h=>h⟩,t,f,h⟩,fun l k l' k' b m n hk=>by simp[Env.plain,dY]at hk,fun i b m l k n hi=>by simp[Env.plain]at hi,fun l k b m hk=>by simp[Env.plain,dY]at hk,fun i j o o' l hi=>by simp[Env.plain]at hi,fun l _ k q hk=>by simp[Env.plain,dY]at hk⟩

def rowsOf(d:List Int):List (List G):=d.map fun n=>[.i n]

theorem J6{w:World}{a:Addr}{v:Value}(h:w.cell? a=some v):a.block<w.heap.size∧a.spot=none:=by
 unfold vh at h;split at h
 ·rename_i c t f d
  refine⟨(gV.1 d).1,?_⟩;cases k:a.spot with
  |none=>rfl
  |some s=>rw[k]at h; simp at h
 ·cases h

theorem ak0{w:World}{a:Addr}{len cap:Nat}{d:List Int}(M:len≤cap)(O:d.length=cap) (q:∀ i,i<d.length→w.cell? (a.add i)=some (.int .i64 (d.getD i 0))) :
  rel (Env.plain w) (.listF [.int .i64] (rowsOf (d.take len))) (.slice (some a) len cap):=by
 simp only[rel,eF,G.rows];have hlen:(rowsOf (d.take len)).length=len:=by simp[rowsOf]; omega
 refine⟨some a,cap,by rw[hlen],by rw[hlen]; exact M,?_⟩;by_cases h0:len=0
 ·left
  exact List.eq_nil_of_length_eq_zero (by rw[hlen]; exact h0)
 ·right
  have I:=q 0 (by omega);obtain⟨hb,N⟩:=J6 I;have k:a.spot=none:=N;refine⟨a.block,a.off,?_,⟨hb,J5 w a.block,fun h=>h⟩,?_⟩
  ·cases a
   simp only at k;subst k;rfl
  ·intro i r hi
   have J:i<len:=by
    have:=aK hi;rw[hlen]at this;exact this
   have B:=q i (by omega);simp only[rowsOf,List.getElem?_map,List.getElem?_take,if_pos J]at hi;obtain⟨n,h1,rfl⟩:=Option.map_eq_some_iff.1 hi;have hn:d.getD i 0=n:=by rw[List.getD_eq_getElem?_getD,h1]; rfl
   rw[hn]at B;simp only[lP,eF,List.length_cons,List.length_nil,List.headD_cons,G.int,and_true];refine⟨.int .i64 n,?_,rfl,rfl⟩;have:a.add i=⟨a.block,a.off+i*(0+1),none⟩:=by
    cases a;simp only at k;subst k;simp[Addr.add]
   rw[←this];exact B

theorem ak1{H:Type}{enc:TypeId × Value→H}{P:Program}{f:FuncId}{fn:Func}{s:ChangeSpec}{U tE tB:TypeId}(hp:fn.params=#[U])(hr:fn.resultTypes=#[tB])
  (V:P.underlying U=some (.slice tE)) (he:P.underlying tE=some (.int .i64)) (hc:P.cellsOf tE=1) (hb:P.underlying tB=some .bool) (hsv:s.vars=[])
  (hs:∀ d:DataW H,s.fn H [d]={ results:=[.lit (.bool true)],args:=[d] })
  (hcall:∀ rows:List (List G),dC P f [.listF [.int .i64] rows] [] (.lit (.bool true)) [])
  {W:World} {base:Nat} {args:Array Value} {ds gs:List (DataW H)} {before:List MemPlace}
  (htab:∀ p∈vw,∃ t f,W.heap[p.1]? = some (.cells p.2 t f))
  (hval:∀(j:Nat) t v,fn.params[j]? = some t→args[j]? = some v→Value.okWide P W .any base t v)
  (hW:DataW.Whole enc P fn.params.toList s.vars false W args.toList ds gs before) :
  Calls P f args W fun e k=>∃ v,e=.returned v∧s.post enc P fn false true false false W args v k:=by
 have hW':=hW;obtain⟨p,q,hA,hV,rfl,_,_⟩:=hW;rw[hp]at hA hval;rw[hsv]at hV;obtain⟨v0,d0,rfl,rfl,fuel,h0⟩:=trodAll_one hA;obtain⟨rfl,rfl⟩:=trodVars_none hV;have hval0:=hval 0 U v0 rfl rfl;obtain⟨a0,B,I,rfl⟩:=okWide_slice V hval0;have fin:∀(rows:List (List G)),rel (Env.plain W) (.listF [.int .i64] rows) (.slice a0 B I) →
   (∀ k:World,W.heap.size≤k.heap.size→(∀ b,b<W.heap.size→k.heap[b]? = W.heap[b]?)→∃ pa,DataW.TrodAll enc P k 0 (fun b=>decide (b<W.heap.size)) true [U] [.slice a0 B I] [d0] pa) →
   Calls P f #[.slice a0 B I] W fun e k=>∃ v,e=.returned v∧s.post enc P fn false true false false W #[.slice a0 B I] v k:=by
  intro rows hrel hargs;refine(hcall rows (Env.plain W) #[.slice a0 B I] rfl (akZ W htab) (by simp only[af]; exact⟨hrel,trivial⟩)).mono ?_;rintro e k ⟨c,v,H',rfl,⟨rfl,rfl⟩,loc',r',g1,g2,g3⟩;simp only[rel]at g1;subst g1;have O:∀ b,b<W.heap.size→k.heap[b]? = W.heap[b]? := fun b hb=>g3.same b hb (J5 W b);obtain⟨pa,hpa⟩:=hargs k g3.size O;have hres:(Value.bool true).resultList fn.resultTypes.size=[.bool true]:=by
   rw[hr];rfl
  refine⟨.bool true,rfl,[d0],[],p++[],[],pa,[],hW',?_,?_,?_,?_,fun h=>by cases h⟩
  ·rw [hres, hr, dh, hs]
   exact trodAll_mk1 (shut_bool hb _)
  ·rw [hp, dh, hs]
   exact hpa
  ·rw [hsv, dh, hs]
   rfl
  ·exact World.keptBut_mono (fun _ h=>h.elim) (World.keptBut_none_iff.2 ⟨g3.env.1,g3.env.2.1,O⟩)
 rcases open_ints V he hc h0 with⟨J,M⟩|⟨a,len,cap,N,J,_,hl,hm,hz,M,hcell,hw⟩
 ·simp [Ka] at J
  obtain⟨rfl,rfl,rfl⟩:=J;simp only[a8]at M;obtain⟨rfl,rfl⟩:=M;refine fin [] ?_ fun k _ _=>⟨[],trodAll_mk1 (shut_slice_nil V)⟩
  simp only[rel,eF,G.rows];exact⟨none,0,rfl,Nat.le_refl _,.inl trivial⟩
 ·simp [Ka] at J
  obtain⟨rfl,rfl,rfl⟩:=J;simp only[a8]at M;obtain⟨rfl,rfl⟩:=M;simp only[if_true]at hz;refine fin (rowsOf (N.take B)) (ak0 hl hz hcell) fun k hsz O=>⟨MemPlace.row a N.length,trodAll_mk1 ⟨2,?_⟩⟩
  have hcell':∀ i,i<N.length→k.cell? (a.add i)=some (.int .i64 (N.getD i 0)):=by
   intro i hi;have h1:=hcell i hi;obtain⟨hb1,_⟩:=J6 h1;rw[←h1];unfold vh;rw[O _ hb1]
  refine shut_ints 0 V he hc (Nat.zero_le _) hl hm ?_ hcell' hw;by_cases h0:N.length=0
  ·have : I = 0 := by omega
   have:B=0:=by omega
   split<;>omega
  ·have h1 := hcell 0 (by omega)
   obtain⟨hb1,_⟩:=J6 h1;have hb2:decide (a.block<W.heap.size)=true:=by
    simp only[decide_eq_true_eq];exact hb1
   rw[if_pos hb2];exact hz

end Go.AL

namespace Go.Proofs.YtiljbnkkhbennaaGreatDoor
open Go Go.AL
theorem ak2:ownKnob Tryz.prog.godebug=none:=by kernel_rfl
theorem ak3:(laidOutB Tryz.pinned.checked.prog)=true:=by kernel_rfl
theorem ak4:(mapsRowed Tryz.pinned.checked.prog)=true:=by kernel_rfl
theorem ak5:((Tryz.pinned.checked.prog.stops==[]))=true:=by kernel_rfl
theorem ak6:((Tryz.pinned.checked.prog.stopKnobs==[]))=true:=by kernel_rfl
theorem ak7:(false==Tryz.pinned.checked.prog.plainKeys)=true:=by kernel_rfl
theorem ak8:(Tryz.pinned.checked.prog.stopsHeard)=true:=by kernel_rfl
theorem ak9:(Tryz.pinned.checked.prog.mayEnter)=true:=by kernel_rfl
theorem ak_:Tryz.pinned.checked.prog.mainIs=some (true,("4efdfb34110d251cc51b2442ffd3d098de0fac38074192ad268c5a18c28e6381" : String).toList):=by kernel_rfl
theorem ak':false=Tryz.pinned.checked.prog.looks []:=by kernel_rfl
end Go.Proofs.YtiljbnkkhbennaaGreatDoor
