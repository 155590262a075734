/-
 What is proved here: the closed facts of a row,one by one,are all of them. No program in sight; no condition but these facts.
-/
import Derived.JoinedOf
import Derived.Test.YtdabjgppkghiaaaGreatDoorMD
import Derived.ProofKit
import Derived.OpenShut
import Derived.LaidMore
import Derived.Lay
import Derived.SevenTiedAt
import Derived.Stop.Joined
import Derived.Test.YtdabjgppkghiaaaGreatDoorRows
set_option linter.all false
open Array renaming getElem?_eq_some_iff→dM
open Go.Value renaming cells→Cp
open Go.World renaming cell?→pL
open List renaming append_nil→cV
open Prod.mk renaming injEq→aN
namespace Go.AL
open Go

theorem Wj{P:Program}{f:FuncId}{fn:Func}{s:ChangeSpec}{c:OpenClaim}
  (h1:c.wf (OpenSpec.ofChange s)=true) (V:laidOutB P=true) (W:mapsRowed P=true) (X:fn.params.all (P.readableRec ·)=true) (Y:namedTie P c.named s.vars=true)
  (h6:(c.stops==[])=true) (h7:(P.stops==[])=true) (h8:(c.knobs==[])=true) (h9:(P.stopKnobs==[])=true) (a:(c.inPlace==P.inPlace f)=true)
  (b:(c.unfollowed==P.unfollowed f)=true) (d:(c.recurses==P.recurses f)=true) (g:(c.named==P.varsNamed f)=true)
  (h:(c.maps==(fn.params.toList++s.plain.varTypes P).any (P.mapsRec ·))=true) (i:(c.ifaces==(fn.params.toList++s.plain.varTypes P).any (P.ifacesRec ·))=true) (l:(c.mapsOut==P.mapsAmong fn.resultTypes.toList)=true)
  (q:(c.loops==(fn.params.toList++s.plain.varTypes P).any (P.loopsFrom ·))=true) (r:(c.wideKeys==(fn.params.toList++s.plain.varTypes P++fn.resultTypes.toList).any (P.wideKeysFrom ·))=true)
  (u:s.vars.all (P.varReadable ·)=true) (v:fn.resultTypes.all (fun t=>P.readableRec t&&decide (t<P.types.size))=true) (w:(c.ifacesOut==fn.resultTypes.toList.any (P.ifacesRec ·))=true)
  (y:(c.loopsOut==fn.resultTypes.toList.any (P.loopsFrom ·))=true) (A:(c.plainKeys==P.plainKeys)=true) (B:c.shortTexts.isNone=true) (D:P.stopsHeard=true) (I:P.mayEnter=true)
  (J:(c.lifted==P.liftsFinal)=true) (M:(P.make==some c.make)=true)
  (N:(c.kinds==(if c.domain.isEmpty then [] else fn.params.toList.map fun t=>match P.underlying t with|some (.int k)=>some k|_=>none))=true) (O:(c.pinned==c.pinnedBy)=true)
  (R:(c.veiled==(fn.params.toList++s.plain.varTypes P++fn.resultTypes.toList).any (P.veiledRec ·))=true) (U:c.veiledFits P fn.params.toList (fn.params.toList++s.plain.varTypes P++fn.resultTypes.toList)=true) :
  joinedFacts P f fn s c=true:=by
 unfold joinedFacts;rw[h1,V,W,X,Y,h6,h7,h8,h9,a,b,d,g,h,i,l,q,r,u,v,w,y,A,B,D,I,J,M,O,R,U];simp only[Bool.and_true,Bool.true_and];exact N

end Go.AL

namespace Go.AL
open Go Go.ChangeShapes Go.WideShapes Go.ChangeAt Go.RowKit
variable [Dr]

def Env.plain(w:World):Env:=⟨w,[],[],⟨fun _=>False,fun _=>False,cY⟩⟩
theorem Ci(w:World)(b:Nat):¬ (Env.plain w).own b:=by rintro(⟨id,c,h⟩|⟨l,k,c,h⟩)<;>simp[Env.plain,cY]at h
theorem Wk(w:World)(a:∀ p∈p7,∃ t f,w.heap[p.1]? = some (.cells p.2 t f)):ak (Env.plain w):=⟨rfl,fun i j b m n h=>by simp[Env.plain]at h,fun i b m h=>by simp[Env.plain]at h,fun b h=>h.elim,fun i o h=>by simp[Env.plain]at h,fun p d=>by
 obtain⟨t,f,h⟩:=a p d;exact⟨⟨(dM.1 h).1,Ci w _,fun h=>h⟩,t,f,h⟩,fun l k l' k' b m n hk=>by simp[Env.plain,cY]at hk,fun i b m l k n hi=>by simp[Env.plain]at hi,fun l k b m hk=>by simp[Env.plain,cY]at hk,fun i j o o' l hi=>by simp[Env.plain]at hi,fun l _ k q hk=>by simp[Env.plain,cY]at hk⟩

def rowsOf(a:List Int):List (List G):=a.map fun n=>[.i n]

theorem Cj{w:World}{a:Addr}{v:Value}(h:w.cell? a=some v):a.block<w.heap.size∧a.spot=none:=by
 unfold pL at h;split at h
 ·rename_i c t f b
  refine⟨(dM.1 b).1,?_⟩;cases hs:a.spot with
  |none=>rfl
  |some s=>rw[hs]at h; simp at h
 ·cases h

theorem Wl{w:World}{a:Addr}{len cap:Nat}{b:List Int}(t:len≤cap)(y:b.length=cap) (g:∀ i,i<b.length→w.cell? (a.add i)=some (.int .i64 (b.getD i 0))) :
  rel (Env.plain w) (.listF [.int .i64] (rowsOf (b.take len))) (.slice (some a) len cap):=by
 simp only[rel,db,G.rows];have hlen:(rowsOf (b.take len)).length=len:=by simp[rowsOf]; omega
 refine⟨some a,cap,by rw[hlen],by rw[hlen]; exact t,?_⟩;by_cases h0:len=0
 ·left
  exact List.eq_nil_of_length_eq_zero (by rw[hlen]; exact h0)
 ·right
  have l:=g 0 (by omega);obtain⟨u,hs⟩:=Cj l;have d:a.spot=none:=hs;refine⟨a.block,a.off,?_,⟨u,Ci w a.block,fun h=>h⟩,?_⟩
  ·cases a
   simp only at d;subst d;rfl
  ·intro i r hi
   have q:i<len:=by
    have:=az hi;rw[hlen]at this;exact this
   have k:=g i (by omega);simp only[rowsOf,List.getElem?_map,List.getElem?_take,if_pos q]at hi;obtain⟨n,h1,rfl⟩:=Option.map_eq_some_iff.1 hi;have v:b.getD i 0=n:=by rw[List.getD_eq_getElem?_getD,h1]; rfl
   rw[v]at k;simp only[ji,db,List.length_cons,List.length_nil,List.headD_cons,G.int,and_true];refine⟨.int .i64 n,?_,rfl,rfl⟩;have:a.add i=⟨a.block,a.off+i*(0+1),none⟩:=by
    cases a;simp only at d;subst d;simp[Addr.add]
   rw[←this];exact k

theorem Wm{H:Type}{enc:TypeId × Value→H}{P:Program}{f:FuncId}{fn:Func}{s:ChangeSpec}{A J tB:TypeId}(V:fn.params=#[A])(hr:fn.resultTypes=#[tB])
  (B:P.underlying A=some (.slice J)) (he:P.underlying J=some (.int .i64)) (X:P.cellsOf J=1) (M:P.underlying tB=some .bool) (U:s.vars=[])
  (hs:∀ d:DataW H,s.fn H [d]={ results:=[.lit (.bool true)],args:=[d] })
  (Yd:∀ rows:List (List G),c9 P f [.listF [.int .i64] rows] [] (.lit (.bool true)) [])
  {W:World} {base:Nat} {args:Array Value} {ds gs:List (DataW H)} {before:List MemPlace}
  (Yg:∀ p∈p7,∃ t f,W.heap[p.1]? = some (.cells p.2 t f))
  (R:∀(j:Nat) t v,fn.params[j]? = some t→args[j]? = some v→Value.okWide P W .any base t v)
  (Y:DataW.Whole enc P fn.params.toList s.vars false W args.toList ds gs before) :
  Calls P f args W fun e g=>∃ v,e=.returned v∧s.post enc P fn false true false false W args v g:=by
 have Yj:=Y;obtain⟨p,q,hA,hV,rfl,_,_⟩:=Y;rw[V]at hA R;rw[U]at hV;obtain⟨v0,d0,rfl,rfl,fuel,h0⟩:=trodAll_one hA;obtain⟨rfl,rfl⟩:=trodVars_none hV;have Ye:=R 0 A v0 rfl rfl;obtain⟨a0,k,l,rfl⟩:=okWide_slice B Ye;have fin:∀(rows:List (List G)),rel (Env.plain W) (.listF [.int .i64] rows) (.slice a0 k l) →
   (∀ g:World,W.heap.size≤g.heap.size→(∀ b,b<W.heap.size→g.heap[b]? = W.heap[b]?)→∃ N,DataW.TrodAll enc P g 0 (fun b=>decide (b<W.heap.size)) true [A] [.slice a0 k l] [d0] N) →
   Calls P f #[.slice a0 k l] W fun e g=>∃ v,e=.returned v∧s.post enc P fn false true false false W #[.slice a0 k l] v g:=by
  intro rows Yh Yf;refine(Yd rows (Env.plain W) #[.slice a0 k l] rfl (Wk W Yg) (by simp only[ae]; exact⟨Yh,trivial⟩)).mono ?_;rintro e g ⟨c,v,H',rfl,⟨rfl,rfl⟩,Ym,r',g1,g2,g3⟩;simp only[rel]at g1;subst g1;have y:∀ b,b<W.heap.size→g.heap[b]? = W.heap[b]? := fun b M=>g3.same b M (Ci W b);obtain⟨N,Yk⟩:=Yf g g3.size y;have Yi:(Value.bool true).resultList fn.resultTypes.size=[.bool true]:=by
   rw[hr];rfl
  refine⟨.bool true,rfl,[d0],[],p++[],[],N,[],Yj,?_,?_,?_,?_,fun h=>by cases h⟩
  ·rw [Yi, hr, cV, hs]
   exact trodAll_mk1 (shut_bool M _)
  ·rw [V, cV, hs]
   exact Yk
  ·rw [U, cV, hs]
   rfl
  ·exact World.keptBut_mono (fun _ h=>h.elim) (World.keptBut_none_iff.2 ⟨g3.env.1,g3.env.2.1,y⟩)
 rcases open_ints B he X h0 with⟨r,u⟩|⟨a,len,cap,w,r,_,hl,hm,O,u,D,hw⟩
 ·simp [Cp] at r
  obtain⟨rfl,rfl,rfl⟩:=r;simp only[aN]at u;obtain⟨rfl,rfl⟩:=u;refine fin [] ?_ fun g _ _=>⟨[],trodAll_mk1 (shut_slice_nil B)⟩
  simp only[rel,db,G.rows];exact⟨none,0,rfl,Nat.le_refl _,.inl trivial⟩
 ·simp [Cp] at r
  obtain⟨rfl,rfl,rfl⟩:=r;simp only[aN]at u;obtain⟨rfl,rfl⟩:=u;simp only[if_true]at O;refine fin (rowsOf (w.take k)) (Wl hl O D) fun g Yn y=>⟨MemPlace.row a w.length,trodAll_mk1 ⟨2,?_⟩⟩
  have Yc:∀ i,i<w.length→g.cell? (a.add i)=some (.int .i64 (w.getD i 0)):=by
   intro i hi;have h1:=D i hi;obtain⟨I,_⟩:=Cj h1;rw[←h1];unfold pL;rw[y _ I]
  refine shut_ints 0 B he X (Nat.zero_le _) hl hm ?_ Yc hw;by_cases h0:w.length=0
  ·have : l = 0 := by omega
   have:k=0:=by omega
   split<;>omega
  ·have h1 := D 0 (by omega)
   obtain⟨I,_⟩:=Cj h1;have Yl:decide (a.block<W.heap.size)=true:=by
    simp only[decide_eq_true_eq];exact I
   rw[if_pos Yl];exact O

end Go.AL

namespace Go.Proofs.YtdabjgppkghiaaaGreatDoor
open Go Go.AL
theorem Wn:ownKnob Tryz.prog.godebug=none:=by kernel_rfl
theorem Wo:(laidOutB Tryz.pinned.checked.prog)=true:=by kernel_rfl
theorem Wp:(mapsRowed Tryz.pinned.checked.prog)=true:=by kernel_rfl
theorem Wq:((Tryz.pinned.checked.prog.stops==[]))=true:=by kernel_rfl
theorem Wr:((Tryz.pinned.checked.prog.stopKnobs==[]))=true:=by kernel_rfl
theorem Ws:(false==Tryz.pinned.checked.prog.plainKeys)=true:=by kernel_rfl
theorem Wt:(Tryz.pinned.checked.prog.stopsHeard)=true:=by kernel_rfl
theorem Wu:(Tryz.pinned.checked.prog.mayEnter)=true:=by kernel_rfl
theorem Wv:Tryz.pinned.checked.prog.mainIs=some (true,("b5f25a1c003e6586a4fb75518afa5ab2cc23d1ecd18579444686c5cb5ee5ed4e" : String).toList):=by kernel_rfl
theorem Ww:false=Tryz.pinned.checked.prog.looks []:=by kernel_rfl
end Go.Proofs.YtdabjgppkghiaaaGreatDoor
