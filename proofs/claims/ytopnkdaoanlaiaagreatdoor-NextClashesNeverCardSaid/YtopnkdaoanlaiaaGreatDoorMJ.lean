/-
 What is proved here: the closed facts of a row,one by one,are all of them. No program in sight; no condition but these facts.
-/
import Derived.JoinedOf
import Derived.Test.YtopnkdaoanlaiaaGreatDoorMD
import Derived.ProofKit
import Derived.OpenShut
import Derived.LaidMore
import Derived.Lay
import Derived.SevenTiedAt
import Derived.Stop.Joined
import Derived.Test.YtopnkdaoanlaiaaGreatDoorRows
set_option linter.all false
open Array renaming getElem?_eq_some_iff→eP
open Go.Value renaming cells→IG
open Go.World renaming cell?→rW
open List renaming append_nil→gS
open Prod.mk renaming injEq→aZ
namespace Go.AL
open Go

theorem ahA{P:Program}{f:FuncId}{fn:Func}{s:ChangeSpec}{c:OpenClaim}
  (h1:c.wf (OpenSpec.ofChange s)=true) (h2:laidOutB P=true) (h3:mapsRowed P=true) (h4:fn.params.all (P.readableRec ·)=true) (h5:namedTie P c.named s.vars=true)
  (h6:(c.stops==[])=true) (h7:(P.stops==[])=true) (h8:(c.knobs==[])=true) (h9:(P.stopKnobs==[])=true) (d:(c.inPlace==P.inPlace f)=true)
  (g:(c.unfollowed==P.unfollowed f)=true) (q:(c.recurses==P.recurses f)=true) (A:(c.named==P.varsNamed f)=true)
  (B:(c.maps==(fn.params.toList++s.plain.varTypes P).any (P.mapsRec ·))=true) (F:(c.ifaces==(fn.params.toList++s.plain.varTypes P).any (P.ifacesRec ·))=true) (I:(c.mapsOut==P.mapsAmong fn.resultTypes.toList)=true)
  (J:(c.loops==(fn.params.toList++s.plain.varTypes P).any (P.loopsFrom ·))=true) (M:(c.wideKeys==(fn.params.toList++s.plain.varTypes P++fn.resultTypes.toList).any (P.wideKeysFrom ·))=true)
  (N:s.vars.all (P.varReadable ·)=true) (O:fn.resultTypes.all (fun t=>P.readableRec t&&decide (t<P.types.size))=true) (R:(c.ifacesOut==fn.resultTypes.toList.any (P.ifacesRec ·))=true)
  (U:(c.loopsOut==fn.resultTypes.toList.any (P.loopsFrom ·))=true) (W:(c.plainKeys==P.plainKeys)=true) (Y:c.shortTexts.isNone=true) (h25:P.stopsHeard=true) (h26:P.mayEnter=true)
  (h27:(c.lifted==P.liftsFinal)=true) (h28:(P.make==some c.make)=true)
  (h29:(c.kinds==(if c.domain.isEmpty then [] else fn.params.toList.map fun t=>match P.underlying t with|some (.int k)=>some k|_=>none))=true) (h30:(c.pinned==c.pinnedBy)=true)
  (h31:(c.veiled==(fn.params.toList++s.plain.varTypes P++fn.resultTypes.toList).any (P.veiledRec ·))=true) (h32:c.veiledFits P fn.params.toList (fn.params.toList++s.plain.varTypes P++fn.resultTypes.toList)=true) :
  joinedFacts P f fn s c=true:=by
 unfold joinedFacts;rw[h1,h2,h3,h4,h5,h6,h7,h8,h9,d,g,q,A,B,F,I,J,M,N,O,R,U,W,Y,h25,h26,h27,h28,h30,h31,h32];simp only[Bool.and_true,Bool.true_and];exact h29

end Go.AL

namespace Go.AL
open Go Go.ChangeShapes Go.WideShapes Go.ChangeAt Go.RowKit
variable [Dr]

def Env.plain(w:World):Env:=⟨w,[],[],⟨fun _=>False,fun _=>False,dP⟩⟩
theorem IA(w:World)(b:Nat):¬ (Env.plain w).own b:=by rintro(⟨id,c,h⟩|⟨l,k,c,h⟩)<;>simp[Env.plain,dP]at h
theorem ahB(w:World)(d:∀ p∈se,∃ t f,w.heap[p.1]? = some (.cells p.2 t f)):ar (Env.plain w):=⟨rfl,fun i j b m n h=>by simp[Env.plain]at h,fun i b m h=>by simp[Env.plain]at h,fun b h=>h.elim,fun i o h=>by simp[Env.plain]at h,fun p g=>by
 obtain⟨t,f,h⟩:=d p g;exact⟨⟨(eP.1 h).1,IA w _,fun h=>h⟩,t,f,h⟩,fun l k l' k' b m n hk=>by simp[Env.plain,dP]at hk,fun i b m l k n hi=>by simp[Env.plain]at hi,fun l k b m hk=>by simp[Env.plain,dP]at hk,fun i j o o' l hi=>by simp[Env.plain]at hi,fun l _ k q hk=>by simp[Env.plain,dP]at hk⟩

def rowsOf(zs:List Int):List (List G):=zs.map fun n=>[.i n]

theorem IB{w:World}{a:Addr}{v:Value}(h:w.cell? a=some v):a.block<w.heap.size∧a.spot=none:=by
 unfold rW at h;split at h
 ·rename_i c t f hc
  refine⟨(eP.1 hc).1,?_⟩;cases d:a.spot with
  |none=>rfl
  |some s=>rw[d]at h; simp at h
 ·cases h

theorem ahC{w:World}{a:Addr}{len cap:Nat}{zs:List Int}(B:len≤cap)(J:zs.length=cap) (g:∀ i,i<zs.length→w.cell? (a.add i)=some (.int .i64 (zs.getD i 0))) :
  rel (Env.plain w) (.listF [.int .i64] (rowsOf (zs.take len))) (.slice (some a) len cap):=by
 simp only[rel,dC,G.rows];have hlen:(rowsOf (zs.take len)).length=len:=by simp[rowsOf]; omega
 refine⟨some a,cap,by rw[hlen],by rw[hlen]; exact B,?_⟩;by_cases h0:len=0
 ·left
  exact List.eq_nil_of_length_eq_zero (by rw[hlen]; exact h0)
 ·right
  have q:=g 0 (by omega);obtain⟨F,I⟩:=IB q;have d:a.spot=none:=I;refine⟨a.block,a.off,?_,⟨F,IA w a.block,fun h=>h⟩,?_⟩
  ·cases a
   simp only at d;subst d;rfl
  ·intro i r hi
   have A:i<len:=by
    have:=aJ hi;rw[hlen]at this;exact this
   have k:=g i (by omega);simp only[rowsOf,List.getElem?_map,List.getElem?_take,if_pos A]at hi;obtain⟨n,h1,rfl⟩:=Option.map_eq_some_iff.1 hi;have hn:zs.getD i 0=n:=by rw[List.getD_eq_getElem?_getD,h1]; rfl
   rw[hn]at k;simp only[jH,dC,List.length_cons,List.length_nil,List.headD_cons,G.int,and_true];refine⟨.int .i64 n,?_,rfl,rfl⟩;have:a.add i=⟨a.block,a.off+i*(0+1),none⟩:=by
    cases a;simp only at d;subst d;simp[Addr.add]
   rw[←this];exact k

theorem ahD{H:Type}{enc:TypeId × Value→H}{P:Program}{f:FuncId}{fn:Func}{s:ChangeSpec}{J R tB:TypeId}(hp:fn.params=#[J])(hr:fn.resultTypes=#[tB])
  (M:P.underlying J=some (.slice R)) (he:P.underlying R=some (.int .i64)) (hc:P.cellsOf R=1) (U:P.underlying tB=some .bool) (hsv:s.vars=[])
  (Y:∀ d:DataW H,s.fn H [d]={ results:=[.lit (.bool true)],args:=[d] })
  (hcall:∀ rows:List (List G),cg P f [.listF [.int .i64] rows] [] (.lit (.bool true)) [])
  {W:World} {base:Nat} {args:Array Value} {ds gs:List (DataW H)} {before:List MemPlace}
  (htab:∀ p∈se,∃ t f,W.heap[p.1]? = some (.cells p.2 t f))
  (hval:∀(j:Nat) t v,fn.params[j]? = some t→args[j]? = some v→Value.okWide P W .any base t v)
  (hW:DataW.Whole enc P fn.params.toList s.vars false W args.toList ds gs before) :
  Calls P f args W fun e g=>∃ v,e=.returned v∧s.post enc P fn false true false false W args v g:=by
 have hW':=hW;obtain⟨p,q,hA,hV,rfl,_,_⟩:=hW;rw[hp]at hA hval;rw[hsv]at hV;obtain⟨v0,d0,rfl,rfl,fuel,h0⟩:=trodAll_one hA;obtain⟨rfl,rfl⟩:=trodVars_none hV;have hval0:=hval 0 J v0 rfl rfl;obtain⟨a0,k,A,rfl⟩:=okWide_slice M hval0;have fin:∀(rows:List (List G)),rel (Env.plain W) (.listF [.int .i64] rows) (.slice a0 k A) →
   (∀ g:World,W.heap.size≤g.heap.size→(∀ b,b<W.heap.size→g.heap[b]? = W.heap[b]?)→∃ pa,DataW.TrodAll enc P g 0 (fun b=>decide (b<W.heap.size)) true [J] [.slice a0 k A] [d0] pa) →
   Calls P f #[.slice a0 k A] W fun e g=>∃ v,e=.returned v∧s.post enc P fn false true false false W #[.slice a0 k A] v g:=by
  intro rows hrel hargs;refine(hcall rows (Env.plain W) #[.slice a0 k A] rfl (ahB W htab) (by simp only[ad]; exact⟨hrel,trivial⟩)).mono ?_;rintro e g ⟨c,v,H',rfl,⟨rfl,rfl⟩,loc',r',g1,g2,g3⟩;simp only[rel]at g1;subst g1;have I:∀ b,b<W.heap.size→g.heap[b]? = W.heap[b]? := fun b U=>g3.same b U (IA W b);obtain⟨pa,hpa⟩:=hargs g g3.size I;have hres:(Value.bool true).resultList fn.resultTypes.size=[.bool true]:=by
   rw[hr];rfl
  refine⟨.bool true,rfl,[d0],[],p++[],[],pa,[],hW',?_,?_,?_,?_,fun h=>by cases h⟩
  ·rw [hres, hr, gS, Y]
   exact trodAll_mk1 (shut_bool U _)
  ·rw [hp, gS, Y]
   exact hpa
  ·rw [hsv, gS, Y]
   rfl
  ·exact World.keptBut_mono (fun _ h=>h.elim) (World.keptBut_none_iff.2 ⟨g3.env.1,g3.env.2.1,I⟩)
 rcases open_ints M he hc h0 with⟨B,F⟩|⟨a,len,cap,zs,B,_,hl,hm,hz,F,N,hw⟩
 ·simp [IG] at B
  obtain⟨rfl,rfl,rfl⟩:=B;simp only[aZ]at F;obtain⟨rfl,rfl⟩:=F;refine fin [] ?_ fun g _ _=>⟨[],trodAll_mk1 (shut_slice_nil M)⟩
  simp only[rel,dC,G.rows];exact⟨none,0,rfl,Nat.le_refl _,.inl trivial⟩
 ·simp [IG] at B
  obtain⟨rfl,rfl,rfl⟩:=B;simp only[aZ]at F;obtain⟨rfl,rfl⟩:=F;simp only[if_true]at hz;refine fin (rowsOf (zs.take k)) (ahC hl hz N) fun g hsz I=>⟨MemPlace.row a zs.length,trodAll_mk1 ⟨2,?_⟩⟩
  have hcell':∀ i,i<zs.length→g.cell? (a.add i)=some (.int .i64 (zs.getD i 0)):=by
   intro i hi;have h1:=N i hi;obtain⟨O,_⟩:=IB h1;rw[←h1];unfold rW;rw[I _ O]
  refine shut_ints 0 M he hc (Nat.zero_le _) hl hm ?_ hcell' hw;by_cases h0:zs.length=0
  ·have : A = 0 := by omega
   have:k=0:=by omega
   split<;>omega
  ·have h1 := N 0 (by omega)
   obtain⟨O,_⟩:=IB h1;have hb2:decide (a.block<W.heap.size)=true:=by
    simp only[decide_eq_true_eq];exact O
   rw[if_pos hb2];exact hz

end Go.AL

namespace Go.Proofs.YtopnkdaoanlaiaaGreatDoor
open Go Go.AL
theorem fY:ownKnob Tryz.prog.godebug=none:=by kernel_rfl
theorem ahE:(laidOutB Tryz.pinned.checked.prog)=true:=by kernel_rfl
theorem ahF:(mapsRowed Tryz.pinned.checked.prog)=true:=by kernel_rfl
theorem ahG:((Tryz.pinned.checked.prog.stops==[]))=true:=by kernel_rfl
theorem ahH:((Tryz.pinned.checked.prog.stopKnobs==[]))=true:=by kernel_rfl
theorem ahI:(false==Tryz.pinned.checked.prog.plainKeys)=true:=by kernel_rfl
theorem ahJ:(Tryz.pinned.checked.prog.stopsHeard)=true:=by kernel_rfl
theorem ahK:(Tryz.pinned.checked.prog.mayEnter)=true:=by kernel_rfl
theorem ahL:Tryz.pinned.checked.prog.mainIs=some (true,("ad9ec5b821c2009f6adf79757563453f72026eb6b5568a6829d45c24d9eaf9d0" : String).toList):=by kernel_rfl
theorem ahM:true=Tryz.pinned.checked.prog.looks []:=by kernel_rfl
end Go.Proofs.YtopnkdaoanlaiaaGreatDoor
