/-
 What is proved here: any strings: keys and names. The kit's functions and the plain form's tell the same. No condition.
-/
import Derived.Test.YtbnjbajipjjbgaaGreatDoorMF
set_option linter.all false
namespace Go.Proofs.SYtbnjbajipjjbgaaGreatDoor
open Go Go.AL Go.Proofs
noncomputable section
def keyB (b:UInt8):Bool:=(isLb b||isDb b)||(b==45||b==95)
def smkB:ByteArray:=⟨#[97,98,99,100,101,102,103,104,105,106,107,108,109,110,111,112,113,114,115,116,117,118,119,120,121,122,48,49,50,51,52,53,54,55,56,57,45,95]⟩
def keyC (s:ByteArray):Bool:=(Nat.ble 1 s.size&&Nat.ble s.size 40)&&(isLb (s.data.toList.getD 0 0)&&s.data.toList.all keyB)
def nameC (s:ByteArray):Bool:=Nat.beq s.size 0||keyC s
theorem sma_ix (b:UInt8):ltI (Lib.indexByte smaB.data.toList b) 0 = !isLb b:=by
 have:=all_bytes (fun b=>ltI (Lib.indexByte smaB.data.toList b) 0 == !isLb b) (by kernel_rfl) b
 simpa using this
theorem sma_le (b:UInt8):leI 0 (Lib.indexByte smaB.data.toList b)=isLb b:=by
 have:=all_bytes (fun b=>leI 0 (Lib.indexByte smaB.data.toList b)==isLb b) (by kernel_rfl) b
 simpa using this
theorem smk_ix (b:UInt8):ltI (Lib.indexByte smkB.data.toList b) 0 = !keyB b:=by
 have:=all_bytes (fun b=>ltI (Lib.indexByte smkB.data.toList b) 0 == !keyB b) (by kernel_rfl) b
 simpa using this
theorem smk_has (b:UInt8):smkB.data.toList.contains b=keyB b:=by
 have:=all_bytes (fun b=>smkB.data.toList.contains b==keyB b) (by kernel_rfl) b
 simpa using this
theorem trimK (s:ByteArray) (h0:0<s.size) (hs:s.size≤900000):Ret (F_strings_Trim [.s s,.s smkB]) fun g=>∃ t,g=[.s t]∧(t.toList==(⟨#[]⟩:ByteArray).toList)=s.data.toList.all keyB:=by
 unfold F_strings_Trim
 (dsimp +instances only [Aa,Ab,Ac,Ad,Ae,Af,Ag])
 refine Ret.pos ?_ (Ret.some ⟨_,rfl,?_⟩)
 ·simp only [Bool.and_eq_true, Nat.ble_eq, Nat.blt_eq]
  exact ⟨by rfl,by decide,by decide,by omega,by omega⟩
 ·have e : (trimB s smkB).toList = Lib.trimS s.data.toList smkB.data.toList := by rw [Lib.toList_data]; simp [trimB]
  rw [e,Lib.toList_data,Bool.eq_iff_iff,beq_iff_eq]
  show Lib.trimS s.data.toList smkB.data.toList=[]↔_
  rw [trimS_nil,List.all_eq_true]
  exact ⟨fun h b hb=>by rw [←smk_has]; exact h b hb,fun h b hb=>by rw [smk_has]; exact h b hb⟩
theorem byteAt (set:ByteArray) (b:UInt8):F_strings_IndexByte [.s set,.i ((b.toNat:Nat):Int)]=some [.i (Lib.indexByte set.data.toList b)]:=by
 show some [G.i (Lib.indexByte set.data.toList ((b.toNat:Nat):Int).toNat.toUInt8)]=_
 rw [Int.toNat_natCast,show b.toNat.toUInt8=b from UInt8.ofNat_toNat]
theorem size0 (s:ByteArray):(s.toList==(⟨#[]⟩:ByteArray).toList)=Nat.beq s.size 0:=by
 rw [←byL_of s,emptyL_eq,byL_size]
 cases s.data.toList<;>rfl
theorem isKeyAny (s:ByteArray) (hs:s.size≤900000):F_kit_IsKey [.s s]=some [.t (keyC s)]:=by
 refine Ret.toEq ?_
 unfold F_kit_IsKey keyC
 (dsimp +instances only [Aa,Ab,Ac,Ad,Ae,Af,Ag])
 rw [size0]
 refine Ret.test (fun h0=>?_) fun h0=>?_
 ·have h0 : s.size ≠ 0 := fun e => by rw [e] at h0; cases h0
  rw [show Nat.ble 1 s.size=true by rw [Nat.ble_eq]; omega,Bool.true_and]
  refine Ret.test (fun h1=>?_) fun h1=>?_
  ·rw [leI_eq, decide_eq_true_eq] at h1
   rw [show Nat.ble s.size 40=true by rw [Nat.ble_eq]; omega,Bool.true_and]
   refine Ret.p ?_
   refine Ret.cE (byteAt smaB _) ?_
   (dsimp +instances only [Aa,Ab,Ac,Ad,Ae,Af,Ag])
   rw [sma_le]
   refine Ret.test (fun h2=>?_) fun h2=>?_
   ·rw [h2, Bool.true_and]
    refine Ret.call (trimK s (by omega) hs) ?_
    rintro _ ⟨t,rfl,ht⟩
    (dsimp +instances only [Aa,Ab,Ac,Ad,Ae,Af,Ag])
    rw [ht]
    exact Ret.some rfl
   ·rw [h2, Bool.false_and]
    exact Ret.some rfl
  ·rw [leI_eq, decide_eq_false_iff_not] at h1
   rw [show Nat.ble s.size 40=false by rw [Bool.eq_false_iff,ne_eq,Nat.ble_eq]; omega,Bool.false_and]
   exact Ret.some rfl
 ·have h0:s.size=0:=by
   cases hq:s.size with
   | zero=>rfl
   | succ n=>rw [hq] at h0; cases h0
  rw [h0]
  exact Ret.some rfl
theorem keyAny (s:ByteArray) (hs:s.size≤900000):F_r2_Key [.s s]=some [.t (keyC s)]:=by
 refine Ret.toEq ?_
 unfold F_r2_Key keyC
 (dsimp +instances only [Aa,Ab,Ac,Ad,Ae,Af,Ag])
 refine Ret.cE (in_eq _ 1 40) ?_
 (dsimp +instances only [Aa,Ab,Ac,Ad,Ae,Af,Ag])
 have hz:=Lib.size_eq s
 have e:inB ((s.size:Nat):Int) 1 40=(Nat.ble 1 s.size&&Nat.ble s.size 40):=by
  unfold inB
  rw [Bool.eq_iff_iff]
  simp only [Bool.and_eq_true,leI_eq,decide_eq_true_eq,Nat.ble_eq]
  omega
 rw [e]
 refine Ret.test (fun h1=>?_) fun h1=>?_
 ·rw [h1, Bool.true_and]
  simp only [Bool.and_eq_true,Nat.ble_eq] at h1
  have h2:(s.extract 0 1).data.toList=[s.data.toList.getD 0 0]:=by
   rw [Lib.extract_data]
   cases hq:s.data.toList with
   | nil =>
    rw [hq] at hz
    have hz:s.size=0:=hz
    omega
   | cons b r=>simp
  refine Ret.p ?_
  refine Ret.cE (only_ok (s.extract 0 1) smaB isLb sma_ix (by rw [ByteArray.size_extract]; omega)) ?_
  (dsimp +instances only [Aa,Ab,Ac,Ad,Ae,Af,Ag])
  rw [h2,List.all_cons,List.all_nil,Bool.and_true]
  refine Ret.test (fun h3=>?_) fun h3=>?_
  ·rw [h3, Bool.true_and]
   refine Ret.cE (only_ok s smkB keyB smk_ix hs) ?_
   exact Ret.some rfl
  ·rw [h3, Bool.false_and]
   exact Ret.some rfl
 ·rw [h1, Bool.false_and]
  exact Ret.some rfl
theorem isNameAny (s:ByteArray) (hs:s.size≤900000):F_kit_IsName [.s s]=some [.t (nameC s)]:=by
 refine Ret.toEq ?_
 unfold F_kit_IsName nameC
 (dsimp +instances only [Aa,Ab,Ac,Ad,Ae,Af,Ag])
 rw [size0]
 refine Ret.test (fun h=>Ret.some (by rw [h]; rfl)) fun h=>?_
 rw [h,Bool.false_or]
 refine Ret.cE (isKeyAny s hs) ?_
 exact Ret.some rfl
def smallA (n:Int):Prop := -1000000000000000≤n∧n≤1000000000000000
def StrA (s:ByteArray):Prop:=asciiB s=true∧s.size≤900000
def ConA (r:List G):Prop:=∃ (t m:Int) (b c:ByteArray) (s h:Int) (x y:ByteArray),r=[.i t,.i m,.s b,.s c,.i s,.i h,.s x,.s y]∧smallA t∧smallA m∧StrA b∧StrA c∧StrA x∧StrA y
theorem ConA.eta {r:List G} (h:ConA r):gEta [.int .i64,.int .i64,.str,.str,.int .i64,.int .i64,.str,.str] r=r:=by
 obtain ⟨t,m,b,c,s,h,x,y,rfl,_⟩:=h
 rfl
def faultCA (r:List G):Int :=
 bif !inB (gi r 0).int 0 345686399999 then 1 else bif !inB (gi r 1).int 1 3 then 4 else bif !keyC (gi r 2).str then 5 else bif !isCallC (gi r 3).str then 3 else
 bif !inB (gi r 4).int 0 99999 then 1 else bif !inB (gi r 5).int 0 99999 then 1 else bif !nameC (gi r 6).str then 5 else bif !nameC (gi r 7).str then 5 else 0
theorem check_eqA {r:List G} (hr:ConA r):F_log_CheckContact [.l [r]]=some [.i (faultCA r)]:=by
 obtain ⟨t,m,b,c,s,h,x,y,rfl,_,_,hb,hc,hx,hy⟩:=hr
 unfold F_log_CheckContact F_kit_IsMoment F_kit_IsMode faultCA
 (dsimp +instances only [Aa,Ab,Ac,Ad,Ae,Af,Ag])
 have kb:=isKeyAny b hb.2
 have kx:=isNameAny x hx.2
 have ky:=isNameAny y hy.2
 have kc:=callIs_any c hc.1 hc.2
 rw [outside_eq t,outside_eq m]
 rw [kb,kc,outside_eq s,outside_eq h,kx,ky]
 generalize inB t 0 345686399999=b1
 generalize inB m 1 3=b2
 generalize keyC b=b3
 generalize isCallC c=b4
 generalize inB s 0 99999=b5
 generalize inB h 0 99999=b6
 generalize nameC x=b7
 generalize nameC y=b8
 cases b1<;>cases b2<;>cases b3<;>cases b4<;>cases b5<;>cases b6<;>cases b7<;>cases b8<;>rfl
theorem fault_eqA {r:List G} (hr:ConA r):F_r2_ContactFault [.l [r]]=some [.i (faultCA r)]:=by
 obtain ⟨t,m,b,c,s,h,x,y,rfl,_,_,hb,hc,hx,hy⟩:=hr
 unfold F_r2_ContactFault F_r2_Moment faultCA nameC
 (dsimp +instances only [Aa,Ab,Ac,Ad,Ae,Af,Ag])
 have kb:=keyAny b hb.2
 have kx:=keyAny x hx.2
 have ky:=keyAny y hy.2
 have kc:=callRef_any c hc.1 hc.2
 have ex:=size0 x
 have ey:=size0 y
 generalize (⟨#[]⟩:ByteArray)=z at ex ey ⊢
 simp only [in_eq,callF_some rfl,kb,kc,kx,ky]
 (dsimp +instances only [Aa,Ab,Ac,Ad,Ae,Af,Ag])
 rw [ex,ey]
 generalize inB t 0 345686399999=b1
 generalize inB m 1 3=b2
 generalize keyC b=b3
 generalize isCallC c=b4
 generalize inB s 0 99999=b5
 generalize inB h 0 99999=b6
 generalize keyC x=b7
 generalize keyC y=b8
 generalize Nat.beq x.size 0=b9
 generalize Nat.beq y.size 0=b10
 cases b1<;>cases b2<;>cases b3<;>cases b4<;>cases b5<;>cases b6<;>cases b7<;>cases b8<;>cases b9<;>cases b10<;>rfl
section
variable {C D:List G→Option (List G)} (hC:∀ r,ConA r→C [.l [r]]=some [.i (faultCA r)]) (hD:∀ r s,ConA r→ConA s→D [.l [r],.l [s]]=some [.i (ordC r s)])
include hC hD
end
theorem rowsW_get (W:List (List UInt8)) (i:Nat) (hi:i<W.length):gi ((rowsW W).getD i []) 0=.s (byL (W.getD i [])):=by
 rw [rowsW_at W i hi,List.getD_eq_getElem?_getD,List.getElem?_eq_getElem hi]
 rfl
theorem rowsW_take (W:List (List UInt8)) (k:Nat):(rowsW W).take k=rowsW (W.take k):=by simp [rowsW]
theorem rowsI_get (V:List Int) (i:Nat) (hi:i<V.length):gi ((rowsI V).getD i []) 0=.i (V.getD i 0):=by
 unfold rowsI
 rw [List.getD_eq_getElem?_getD,List.getD_eq_getElem?_getD,List.getElem?_map,List.getElem?_eq_getElem hi]
 rfl
theorem piece_le {c:UInt8} {l p:List UInt8} (hp:p∈piecesL c l):p.length≤l.length:=by
 have hj:=pieces_join c l
 rw [←hj]
 clear hj
 generalize piecesL c l=W at hp
 induction W with
 | nil=>cases hp
 | cons x xs ih =>
  cases xs with
  | nil =>
   rw [Lib.join_one,List.mem_singleton.1 hp]
   exact Nat.le_refl _
  | cons y ys =>
   rw [join_two,List.length_append,List.length_append]
   rcases List.mem_cons.1 hp with rfl | hp
   ·omega
   ·have := ih hp
    omega
theorem getD_mem {W:List (List UInt8)} {i:Nat} {b:UInt8} (h:b∈W.getD i []):∃ y∈W,b∈y:=by
 rw [List.getD_eq_getElem?_getD] at h
 cases hq:W[i]? with
 | none=>rw [hq] at h; cases h
 | some y =>
  rw [hq] at h
  exact ⟨y,List.mem_of_getElem? hq,h⟩
theorem getD_le {W:List (List UInt8)} {i n:Nat} (h:∀ y∈W,y.length≤n):(W.getD i []).length≤n:=by
 rw [List.getD_eq_getElem?_getD]
 cases hq:W[i]? with
 | none=>exact Nat.zero_le _
 | some y=>exact h y (List.mem_of_getElem? hq)
theorem num_small {w:List UInt8}:smallA ((numL 15 w).getD 0):=by
 rw [num_eq]
 unfold smallA
 split
 ·rename_i h
  have hv:=val_lt 15 _ h.2.2.1 h.2.1
  show -1000000000000000≤(bif negW w then -(valL (absW w):Int) else (valL (absW w):Int))∧(bif negW w then -(valL (absW w):Int) else (valL (absW w):Int))≤1000000000000000
  cases negW w with
  | true =>
   show -1000000000000000 ≤ -(valL (absW w):Int) ∧ -(valL (absW w):Int)≤1000000000000000
   omega
  | false =>
   show -1000000000000000≤(valL (absW w):Int)∧(valL (absW w):Int)≤1000000000000000
   omega
 ·show -1000000000000000 ≤ (0 : Int) ∧ (0 : Int) ≤ 1000000000000000
  omega
theorem val_small (W:List (List UInt8)) (i:Nat):smallA ((valN W).getD i 0):=by
 unfold valN
 rw [List.getD_eq_getElem?_getD,List.getElem?_map]
 cases hq:W[i]? with
 | none=>exact ⟨by simp,by simp⟩
 | some y=>exact num_small
def ixL (W:List (List UInt8)) (y:List UInt8):Int:=if y∈W then ((W.idxOf y:Nat):Int) else -1
theorem ix_small (W:List (List UInt8)) (y:List UInt8) (hw:W.length≤100):smallA (ixL W y)∧ixL W y<W.length:=by
 unfold ixL smallA
 split
 ·rename_i h
  have:=List.idxOf_lt_length_iff.2 h
  omega
 ·omega
theorem indexAny (W:List (List UInt8)) (y:List UInt8) (hw:W.length≤900001):F_sl_Index_string [.l (rowsW W),.s (byL y)]=some [.i (ixL W y)]:=by
 refine Ret.toEq ?_
 unfold F_sl_Index_string
 (dsimp +instances only [Aa,Ab,Ac,Ad,Ae,Af,Ag])
 rw [rowsW_len]
 refine Ret.loop (P:=fun c g=>(c=1∧ixL W y = -1∧g=[])∨(c=0∧g=[.i (ixL W y)])) ?_ rfl ?_
 ·refine ((count_runs (σ:=Unit) (fun _ i=>[.l (rowsW W),.s (byL y),.i ((W.length:Nat):Int),.i (i:Int)]) W.length (fun _=>(1,[])) (fun _ i=>y∉W.take i)
   (fun c g=>c=0∧g=[.i (ixL W y)]) ?_ ?_ W.length () 0 (by omega) (by simp)).to (by omega)).mono ?_
  ·rintro _ i hp hi
   have ht:W.take (i+1)=W.take i++[W[i]]:=by rw [List.take_add_one,List.getElem?_eq_getElem hi]; rfl
   have hm:W[i]∈W:=List.getElem_mem hi
   have hg:=rowsW_at W i hi
   have hix:W[i]=y→ixL W y=(i:Int):=fun e=>by
    unfold ixL
    rw [if_pos (e▸hm)]
    congr 1
    have hsplit:W=W.take i++W.drop i:=(List.take_append_drop i W).symm
    rw [hsplit,List.idxOf_append,if_neg hp,List.drop_eq_getElem_cons hi,e,List.idxOf_cons_self,List.length_take]
    omega
   generalize W[i]=w at ht hm hg hix
   unfold st_sl_Index_string_2
   (dsimp +instances only [Aa,Ab,Ac,Ad,Ae,Af,Ag])
   rw [rowsW_len]
   refine Ret.p (Ret.p ?_)
   simp only [Int.toNat_natCast,hg]
   (dsimp +instances only [Aa,Ab,Ac,Ad,Ae,Af,Ag])
   rw [byL_list,byL_list]
   refine Ret.test (fun hl=>?_) fun hl=>?_
   ·have hl : y = w := by simpa using hl
    exact Ret.some (.inr ⟨0,_,rfl,rfl,by rw [hix hl.symm]⟩)
   ·have hl : y ≠ w := by simpa using hl
    refine Ret.p (Ret.some (.inl ⟨(),rfl,?_⟩))
    rw [ht]
    intro hm2
    rcases List.mem_append.1 hm2 with h | h
    ·exact hp h
    ·exact hl (List.mem_singleton.1 h)
  ·rintro _ hp
   unfold st_sl_Index_string_2
   (dsimp +instances only [Aa,Ab,Ac,Ad,Ae,Af,Ag])
   exact Ret.n (Ret.some rfl)
  ·rintro c g (⟨_, hp, rfl, rfl⟩ | h)
   ·rw [List.take_length] at hp
    refine .inl ⟨rfl,?_,rfl⟩
    unfold ixL
    rw [if_neg hp]
   ·exact .inr h
 ·rintro c g (⟨rfl, hp, rfl⟩ | ⟨rfl, rfl⟩)
  ·rw [hp]
   exact Ret.neg rfl (Ret.some rfl)
  ·exact Ret.pos rfl (Ret.some rfl)
def DedPA (si:ByteArray) (no at_ kd t m:Int) (b c:ByteArray) (s h:Int) (x y bd of_:ByteArray) (ot:Int):Prop :=
 StrA si∧smallA no∧smallA at_∧smallA kd∧(smallA t∧smallA m∧StrA b∧StrA c∧smallA s∧smallA h∧StrA x∧StrA y)∧StrA bd∧StrA of_∧smallA ot
def DedA (r:List G):Prop:=∃ si no at_ kd t m b c s h x y bd of_ ot,r=dRow si no at_ kd t m b c s h x y bd of_ ot∧DedPA si no at_ kd t m b c s h x y bd of_ ot
theorem DedA.eta {r:List G} (h:DedA r):gEta KDeed r=r:=by
 obtain ⟨_,_,_,_,_,_,_,_,_,_,_,_,_,_,_,rfl,_⟩:=h
 rfl
theorem deedOrder_eqA {r s:List G} (hr:DedA r) (hs:DedA s):F_r2_DeedOrder [.l [r],.l [s]]=some [.i (ordDd r s)]:=by
 obtain ⟨si,no,at_,_,_,_,_,_,_,_,_,_,_,_,_,rfl,_,hn,ha,_⟩:=hr
 obtain ⟨si',no',at',_,_,_,_,_,_,_,_,_,_,_,_,rfl,_,hn',ha',_⟩:=hs
 unfold smallA at *
 refine Ret.toEq ?_
 unfold F_r2_DeedOrder ordDd dRow
 (dsimp +instances only [Aa,Ab,Ac,Ad,Ae,Af,Ag])
 simp only [str_eq]
 by_cases e1:at_=at'
 ·subst e1
  by_cases e2:cmpS si si'=0
  ·simp only [e2]
   (repeat first|refine Ret.p ?_|refine Ret.n ?_)
   refine Ret.cE (sign_eq no no') ?_
   (dsimp +instances only [Aa,Ab,Ac,Ad,Ae,Af,Ag])
   exact Ret.some (by simp)
  ·refine Ret.neg (by simp) (Ret.pos (by simp [e2]) ?_)
   refine Ret.cE (rfl:F_strings_Compare [.s si,.s si']=some [.i (cmpS si si')]) ?_
   (dsimp +instances only [Aa,Ab,Ac,Ad,Ae,Af,Ag])
   exact Ret.some (by simp [e2])
 ·(repeat first|refine Ret.p ?_|refine Ret.n ?_)
  refine Ret.cE (sign_eq at_ at') ?_
  (dsimp +instances only [Aa,Ab,Ac,Ad,Ae,Af,Ag])
  exact Ret.some (by simp [e1])
def faultDdA (r:List G):Int :=
 bif !keyC (gi r 0).str then 5 else bif !inB (gi r 1).int 1 1000000 then 1 else bif !inB (gi r 2).int 0 345686399999 then 1 else bif !inB (gi r 3).int 1 5 then 4 else
 bif (gi r 3).int==1 then (bif faultCA (cOf r) != 0 then faultCA (cOf r) else bif ltI (gi r 2).int (gi r 4).int then 1 else
  bif !rowEq KDeed r (head4 r++cOf r++[.s (⟨#[]⟩:ByteArray),.s (⟨#[]⟩:ByteArray),.i 0]) then 3 else 0)
 else bif (gi r 3).int==2 then (bif !keyC (gi r 12).str then 5 else
  bif !rowEq KDeed r (head4 r++[.i 0,.i 0,.s (⟨#[]⟩:ByteArray),.s (⟨#[]⟩:ByteArray),.i 0,.i 0,.s (⟨#[]⟩:ByteArray),.s (⟨#[]⟩:ByteArray),.s (gi r 12).str,.s (⟨#[]⟩:ByteArray),.i 0]) then 3 else 0)
 else bif (gi r 3).int==5 then (bif !keyC (gi r 13).str then 5 else bif !inB (gi r 14).int 1 1000000 then 1 else
  bif !rowEq KDeed r (head4 r++[.i 0,.i 0,.s (⟨#[]⟩:ByteArray),.s (⟨#[]⟩:ByteArray),.i 0,.i 0,.s (⟨#[]⟩:ByteArray),.s (⟨#[]⟩:ByteArray),.s (⟨#[]⟩:ByteArray),.s (gi r 13).str,.i (gi r 14).int]) then 3 else 0)
 else (bif !inB (gi r 8).int 1 99999 then 1 else
  bif !rowEq KDeed r (head4 r++[.i 0,.i 0,.s (⟨#[]⟩:ByteArray),.s (⟨#[]⟩:ByteArray),.i (gi r 8).int,.i 0,.s (⟨#[]⟩:ByteArray),.s (⟨#[]⟩:ByteArray),.s (⟨#[]⟩:ByteArray),.s (⟨#[]⟩:ByteArray),.i 0]) then 3 else 0)
theorem deedFault_eqA {r:List G} (hr:DedA r):F_r2_DeedFault [.l [r]]=some [.i (faultDdA r)]:=by
 obtain ⟨si,no,at_,kd,t,m,b,c,s,h,x,y,bd,of_,ot,rfl,d1,_,_,_,⟨c1,c2,c3,c4,c5,c6,c7,c8⟩,d6,d7,_⟩:=hr
 have kc:F_r2_ContactFault [.l [[.i t,.i m,.s b,.s c,.i s,.i h,.s x,.s y]]]=some [.i (faultCA [.i t,.i m,.s b,.s c,.i s,.i h,.s x,.s y])] :=
  fault_eqA ⟨t,m,b,c,s,h,x,y,rfl,c1,c2,c3,c4,c7,c8⟩
 have k1:=keyAny si d1.2
 have k2:=keyAny of_ d7.2
 have k3:=keyAny bd d6.2
 unfold F_r2_DeedFault F_r2_Moment faultDdA dRow cOf head4
 (dsimp +instances only [Aa,Ab,Ac,Ad,Ae,Af,Ag])
 simp only [in_eq,callF_some rfl,k1,k2,k3,kc]
 (dsimp +instances only [Aa,Ab,Ac,Ad,Ae,Af,Ag])
 generalize keyC si=b1
 generalize inB no 1 1000000=b2
 generalize inB at_ 0 345686399999=b3
 generalize inB kd 1 5=b4
 generalize faultCA [.i t,.i m,.s b,.s c,.i s,.i h,.s x,.s y]=v
 cases b1<;>cases b2<;>cases b3<;>cases b4<;>try rfl
 cases kd==1
 ·cases kd == 2
  ·cases kd == 5
   ·cases inB s 1 99999
    ·rfl
    ·exact leafD _
   ·cases keyC of_<;>cases inB ot 1 1000000<;>first | rfl | exact leafD _
  ·cases keyC bd<;>first | rfl | exact leafD _
 ·cases v != 0<;>cases ltI at_ t<;>first | rfl | exact leafD _
section
variable (si b c x y bd of_:ByteArray) (no at_ t m s h ot:Int)
theorem used2A (hb:StrA bd) :
  F_net_usedFault [.l [[.s si,.i no,.i at_,.i 2,.i t,.i m,.s b,.s c,.i s,.i h,.s x,.s y,.s bd,.s of_,.i ot]]]=some [.i (bif !keyC bd then 5 else 0)]:=by
 refine Ret.toEq ?_
 unfold F_net_usedFault
 (dsimp +instances only [Aa,Ab,Ac,Ad,Ae,Af,Ag])
 try refine Ret.neg rfl ?_
 try refine Ret.pos rfl ?_
 refine Ret.cE (isKeyAny bd hb.2) ?_
 cases keyC bd<;>exact Ret.some rfl
theorem used5A (hb:StrA of_) :
  F_net_usedFault [.l [[.s si,.i no,.i at_,.i 5,.i t,.i m,.s b,.s c,.i s,.i h,.s x,.s y,.s bd,.s of_,.i ot]]]=some [.i (bif !keyC of_ then 5 else bif !inB ot 1 1000000 then 1 else 0)]:=by
 refine Ret.toEq ?_
 unfold F_net_usedFault
 (dsimp +instances only [Aa,Ab,Ac,Ad,Ae,Af,Ag])
 try refine Ret.neg rfl ?_
 try refine Ret.neg rfl ?_
 try refine Ret.pos rfl ?_
 refine Ret.cE (isKeyAny of_ hb.2) ?_
 cases keyC of_
 ·exact Ret.some rfl
 refine Ret.neg rfl ?_
 refine Ret.cE (outside_eq ot 1 1000000) ?_
 cases inB ot 1 1000000<;>exact Ret.some rfl
end
theorem formed_eqA {r:List G} (hr:DedA r):F_net_formed [.l [r]]=some [.i (faultDdA r)]:=by
 obtain ⟨si,no,at_,kd,t,m,b,c,s,h,x,y,bd,of_,ot,rfl,d1,_,_,_,⟨c1,c2,c3,c4,c5,c6,c7,c8⟩,d6,d7,_⟩:=hr
 have kc:F_log_CheckContact [.l [[.i t,.i m,.s b,.s c,.i s,.i h,.s x,.s y]]]=some [.i (faultCA [.i t,.i m,.s b,.s c,.i s,.i h,.s x,.s y])] :=
  check_eqA ⟨t,m,b,c,s,h,x,y,rfl,c1,c2,c3,c4,c7,c8⟩
 have hk:inB kd 1 5=true→kd=1∨kd=2∨kd=5∨kd=3∨kd=4:=by
  unfold inB
  rw [leI_eq,leI_eq,Bool.and_eq_true,decide_eq_true_eq,decide_eq_true_eq]
  omega
 refine Ret.toEq ?_
 unfold F_net_formed faultDdA dRow cOf head4
 (dsimp +instances only [Aa,Ab,Ac,Ad,Ae,Af,Ag])
 refine Ret.cE (isKeyAny si d1.2) ?_
 cases keyC si
 ·exact Ret.some rfl
 refine Ret.neg rfl ?_
 refine Ret.cE (outside_eq no 1 1000000) ?_
 cases inB no 1 1000000
 ·exact Ret.some rfl
 refine Ret.neg rfl ?_
 refine Ret.cE (isMoment_eq at_) ?_
 cases inB at_ 0 345686399999
 ·exact Ret.some rfl
 refine Ret.neg rfl ?_
 refine Ret.cE (outside_eq kd 1 5) ?_
 cases hkd:inB kd 1 5
 ·exact Ret.some rfl
 refine Ret.neg rfl ?_
 rcases hk hkd with rfl | rfl | rfl | hk
 ·refine Ret.call (Ret.eq (used1 si b c x y bd of_ no at_ t m s h ot _ kc)) ?_
  rintro _ rfl
  (dsimp +instances only [Aa,Ab,Ac,Ad,Ae,Af,Ag])
  generalize faultCA [.i t,.i m,.s b,.s c,.i s,.i h,.s x,.s y]=v
  cases hv:v != 0
  ·cases ltI at_ t
   ·refine Ret.neg rfl ?_
    refine Ret.cE (idle1 no at_ t m s h ot si b c x y bd of_) ?_
    exact ⟨_,leafD _,rfl⟩
   ·exact Ret.pos rfl (Ret.some rfl)
  ·exact Ret.pos hv (Ret.some rfl)
 ·refine Ret.call (Ret.eq (used2A si b c x y bd of_ no at_ t m s h ot d6)) ?_
  rintro _ rfl
  cases keyC bd
  ·exact Ret.pos rfl (Ret.some rfl)
  refine Ret.neg rfl ?_
  refine Ret.cE (idle2 no at_ t m s h ot si b c x y bd of_) ?_
  exact ⟨_,leafD _,rfl⟩
 ·refine Ret.call (Ret.eq (used5A si b c x y bd of_ no at_ t m s h ot d7)) ?_
  rintro _ rfl
  cases keyC of_
  ·exact Ret.pos rfl (Ret.some rfl)
  cases inB ot 1 1000000
  ·exact Ret.pos rfl (Ret.some rfl)
  refine Ret.neg rfl ?_
  refine Ret.cE (idle5 no at_ t m s h ot si b c x y bd of_) ?_
  exact ⟨_,leafD _,rfl⟩
 ·refine Ret.call (Ret.eq (used34 si b c x y bd of_ no at_ t m s h ot kd hk)) ?_
  rintro _ rfl
  cases inB s 1 99999
  ·refine Ret.pos rfl (Ret.some ?_)
   rcases hk with rfl | rfl<;>rfl
  refine Ret.neg rfl ?_
  rcases hk with rfl | rfl
  ·refine Ret.call (Ret.eq (idle3 no at_ t m s h ot si b c x y bd of_)) ?_
   rintro _ rfl
   exact ⟨_,leafD _,rfl⟩
  ·refine Ret.call (Ret.eq (idle4 no at_ t m s h ot si b c x y bd of_)) ?_
   rintro _ rfl
   exact ⟨_,leafD _,rfl⟩
def DdUpA (rows:List (List G)) (i:Nat):Prop:=(∀ j,j<i→faultDdA (rows.getD j [])=0)∧∀ j,j+1<i→ordDd (rows.getD j []) (rows.getD (j+1) [])<0
def FirstBadA (rows:List (List G)) (i:Nat) (v:Int):Prop:=DdUpA rows i∧i<rows.length ∧
 ((faultDdA (rows.getD i [])≠0∧v=faultDdA (rows.getD i []))∨(faultDdA (rows.getD i [])=0∧0<i∧¬ ordDd (rows.getD (i-1) []) (rows.getD i [])<0∧v=7))
theorem FirstBadA.ne {rows:List (List G)} {i:Nat} {v:Int} (h:FirstBadA rows i v):v≠0:=by
 rcases h.2.2 with ⟨h1,rfl⟩ | ⟨_,_,_,rfl⟩
 ·exact h1
 ·decide
theorem FirstBadA.not_up {rows:List (List G)} {i j:Nat} {v:Int} (h:FirstBadA rows i v) (hj:i<j):¬ DdUpA rows j:=by
 rintro ⟨h1,h2⟩
 rcases h.2.2 with ⟨h3,_⟩ | ⟨_,h4,h5,_⟩
 ·exact h3 (h1 i hj)
 ·have := h2 (i - 1) (by omega)
  rw [show i-1+1=i by omega] at this
  exact h5 this
theorem FirstBadA.unique {rows:List (List G)} {i j:Nat} {v w:Int} (h:FirstBadA rows i v) (h':FirstBadA rows j w):v=w:=by
 have e:i=j:=by
  rcases Nat.lt_trichotomy i j with e | e | e
  ·exact (h.not_up e h'.1).elim
  ·exact e
  ·exact (h'.not_up e h.1).elim
 subst e
 rcases h.2.2 with ⟨h1,rfl⟩ | ⟨h1,_,_,rfl⟩<;>rcases h'.2.2 with ⟨h2,rfl⟩ | ⟨h2,_,_,rfl⟩
 ·rfl
 ·exact (h1 h2).elim
 ·exact (h2 h1).elim
 ·rfl
theorem loop_DeedsFault4A (rows:List (List G)) (hr:∀ z∈rows,DedA z) (hn:rows.length≤2000) :
  RetL st_r2_DeedsFault_4 [.l rows,.l rows,.i (rows.length:Int),.i 0] fun c g=>(DdUpA rows rows.length∧c=1∧g=[.l rows])∨(c=0∧∃ v,(∃ i,FirstBadA rows i v)∧g=[.i v]):=by
 refine (range_inv (σ:=Unit) (fun _ i=>[.l rows,.l rows,.i (rows.length:Int),.i (i:Int)]) rows (fun _=>(1,[.l rows])) (fun _ i=>DdUpA rows i) (fun c g=>c=0∧∃ v,(∃ i,FirstBadA rows i v)∧g=[.i v]) () (by omega) ⟨fun j h=>by omega,fun j h=>by omega⟩ ?_ ?_).mono ?_
 ·intro _ i x hI hi hx hm _
  unfold st_r2_DeedsFault_4
  (dsimp +instances only [Aa,Ab,Ac,Ad,Ae,Af,Ag])
  have ex:=(hr x hm).eta
  refine Ret.p (Ret.p ?_)
  simp only [Int.toNat_natCast,hx,ex]
  refine Ret.cE (deedFault_eqA (hr x hm)) ?_
  (dsimp +instances only [Aa,Ab,Ac,Ad,Ae,Af,Ag])
  refine Ret.test (fun h1=>Ret.some (.inr ⟨0,_,rfl,rfl,_,⟨i,hI,hi,.inl ⟨by rw [hx]; simpa using h1,by rw [hx]⟩⟩,rfl⟩)) fun h1=>?_
  have h1:faultDdA x=0:=by simpa using h1
  refine Ret.test (fun h2=>?_) fun h2=>?_
  ·have h2:0<i:=by
    rw [ltI_eq,decide_eq_true_eq] at h2
    omega
   have e1:((i:Int)-1).toNat=i-1:=by omega
   have hp:rows.getD (i-1) []∈rows:=getD_row (by omega)
   refine Ret.p (Ret.p ?_)
   simp only [e1,(hr _ hp).eta]
   refine Ret.cE (deedOrder_eqA (hr _ hp) (hr x hm)) ?_
   (dsimp +instances only [Aa,Ab,Ac,Ad,Ae,Af,Ag])
   refine Ret.test (fun h3=>Ret.some (.inr ⟨0,_,rfl,rfl,7,⟨i,hI,hi,.inr ⟨by rw [hx]; exact h1,h2,by rw [leI_eq,decide_eq_true_eq] at h3; rw [hx]; omega,rfl⟩⟩,rfl⟩)) fun h3=>?_
   refine Ret.p (Ret.some (.inl ⟨(),rfl,fun j hj=>?_,fun j hj=>?_⟩))
   ·by_cases e : j = i
    ·rw [e,hx,h1]
    ·exact hI.1 j (by omega)
   ·by_cases e : j + 1 = i
    ·rw [leI_eq, decide_eq_false_iff_not] at h3
     rw [e,hx,show j=i-1 from by omega]
     omega
    ·exact hI.2 j (by omega)
  ·have h2:i=0:=by
    rw [ltI_eq,decide_eq_false_iff_not] at h2
    omega
   refine Ret.p (Ret.some (.inl ⟨(),rfl,fun j hj=>?_,fun j hj=>by omega⟩))
   rw [show j=i from by omega,hx,h1]
 ·intro _ _
  unfold st_r2_DeedsFault_4
  (dsimp +instances only [Aa,Ab,Ac,Ad,Ae,Af,Ag])
  refine Ret.n (Ret.some rfl)
 ·rintro c g (⟨_, h, rfl, rfl⟩ | h)
  ·exact .inl ⟨h,rfl,rfl⟩
  ·exact .inr h
theorem sameNo_eqA {r s:List G} (hr:DedA r) (hs:DedA s):F_r2_DeedsFault_1 [.l [r],.l [s]]=some [.t (sameD r s)]:=by
 have e:F_r2_sameNo [.l [r],.l [s]]=some [.t (sameD r s)]:=by
  refine Ret.toEq ?_
  unfold F_r2_sameNo sameD
  (dsimp +instances only [Aa,Ab,Ac,Ad,Ae,Af,Ag])
  cases (gi r 0).str.toList==(gi s 0).str.toList<;>exact Ret.some rfl
 refine Ret.toEq ?_
 unfold F_r2_DeedsFault_1
 (dsimp +instances only [Aa,Ab,Ac,Ad,Ae,Af,Ag])
 simp only [hr.eta,hs.eta]
 refine Ret.cE e ?_
 exact Ret.some rfl
theorem hasDeed_okA (p:List (List G)) (x:List G) (hp:∀ z∈p,DedA z) (hx:DedA x) (hn:p.length≤2000) :
  Ret (F_sl_ContainsFunc_Deed [.l p,.l [x]]) fun g=>∃ b,g=[.t b]∧(b=false→∀ j,j<p.length→sameD (p.getD j []) x=false)∧(b=true→∃ j,j<p.length∧sameD (p.getD j []) x=true):=by
 have key:Ret (F_sl_IndexFunc_Deed [.l p,.l [x]]) fun g=>∃ v:Int,g=[.i v]∧(v<0→∀ j,j<p.length→sameD (p.getD j []) x=false)∧(0≤v→∃ j,j<p.length∧sameD (p.getD j []) x=true):=by
  unfold F_sl_IndexFunc_Deed
  (dsimp +instances only [Aa,Ab,Ac,Ad,Ae,Af,Ag])
  simp only [hx.eta]
  refine Ret.loop (P:=fun c g=>(c=1∧g=[]∧∀ j,j<p.length→sameD (p.getD j []) x=false)∨(c=0∧∃ v:Int,0≤v∧g=[.i v]∧∃ j,j<p.length∧sameD (p.getD j []) x=true)) ((range_inv (σ:=Unit) (fun _ i=>[.l p,.l [x],.i (p.length:Int),.i (i:Int)]) p (fun _=>(1,[])) (fun _ i=>∀ j,j<i→sameD (p.getD j []) x=false) (fun c g=>c=0∧∃ v:Int,0≤v∧g=[.i v]∧∃ j,j<p.length∧sameD (p.getD j []) x=true) () (by omega) (fun j h=>by omega) ?_ ?_).mono ?_) rfl ?_
  ·intro _ i z hI hi hz hm _
   unfold st_sl_IndexFunc_Deed_2
   (dsimp +instances only [Aa,Ab,Ac,Ad,Ae,Af,Ag])
   refine Ret.p (Ret.p ?_)
   simp only [Int.toNat_natCast,hz,(hp z hm).eta,hx.eta]
   refine Ret.cE (sameNo_eqA (hp z hm) hx) ?_
   (dsimp +instances only [Aa,Ab,Ac,Ad,Ae,Af,Ag])
   refine Ret.test (fun h1=>Ret.some (.inr ⟨0,_,rfl,rfl,_,by omega,rfl,i,hi,by rw [hz]; exact h1⟩)) fun h1=>?_
   refine Ret.p (Ret.some (.inl ⟨(),rfl,fun j hj=>?_⟩))
   by_cases e:j=i
   ·rw [e,hz,h1]
   ·exact hI j (by omega)
  ·intro _ _
   unfold st_sl_IndexFunc_Deed_2
   (dsimp +instances only [Aa,Ab,Ac,Ad,Ae,Af,Ag])
   exact Ret.n (Ret.some rfl)
  ·rintro c g (⟨_, h, rfl, rfl⟩ | h)
   ·exact .inl ⟨rfl,rfl,h⟩
   ·exact .inr h
  ·rintro c g (⟨rfl, rfl, h⟩ | ⟨rfl, v, hv, rfl, h⟩)
   ·exact Ret.neg rfl (Ret.some ⟨-1,rfl,fun _=>h,fun h=>by omega⟩)
   ·exact Ret.pos rfl (Ret.some ⟨v,rfl,fun h=>by omega,fun _=>h⟩)
 unfold F_sl_ContainsFunc_Deed
 (dsimp +instances only [Aa,Ab,Ac,Ad,Ae,Af,Ag])
 simp only [hx.eta]
 refine Ret.call key ?_
 rintro _ ⟨v,rfl,h,h'⟩
 refine Ret.some ⟨leI 0 v,rfl,fun e=>h ?_,fun e=>h' ?_⟩
 ·rw [leI_eq, decide_eq_false_iff_not] at e
  omega
 ·rw [leI_eq, decide_eq_true_eq] at e
  exact e
theorem loop_DeedsFault13A (rows:List (List G)) (hr:∀ z∈rows,DedA z) (hn:rows.length≤2000) :
  RetL st_r2_DeedsFault_13 [.l rows,.l rows,.i (rows.length:Int),.i 0] fun c g=>(DdOnce rows rows.length∧c=1∧g=[])∨(c=0∧¬ DdOnce rows rows.length∧g=[.i 6]):=by
 refine (range_inv (σ:=Unit) (fun _ i=>[.l rows,.l rows,.i (rows.length:Int),.i (i:Int)]) rows (fun _=>(1,[])) (fun _ i=>DdOnce rows i) (fun c g=>c=0∧¬ DdOnce rows rows.length∧g=[.i 6]) () (by omega) (fun j h=>by omega) ?_ ?_).mono ?_
 ·intro _ i x hI hi hx hm _
  unfold st_r2_DeedsFault_13
  (dsimp +instances only [Aa,Ab,Ac,Ad,Ae,Af,Ag])
  refine Ret.p (Ret.p (Ret.p ?_))
  simp only [Int.toNat_natCast,hx,(hr x hm).eta]
  have hl:(rows.take i).length=i:=by rw [List.length_take]; omega
  refine Ret.call (hasDeed_okA (rows.take i) x (fun z hz=>hr z (List.mem_of_mem_take hz)) (hr x hm) (by omega)) ?_
  rintro _ ⟨b,rfl,hb,hb'⟩
  (dsimp +instances only [Aa,Ab,Ac,Ad,Ae,Af,Ag])
  refine Ret.test (fun h1=>Ret.some (.inr ⟨0,_,rfl,rfl,fun h2=>?_,rfl⟩)) fun h1=>?_
  ·obtain ⟨j, hj, h3⟩ := hb' h1
   have:=h2 i hi j (by omega)
   rw [List.getD_eq_getElem?_getD,List.getElem?_take_of_lt (by omega),←List.getD_eq_getElem?_getD] at h3
   rw [hx,h3] at this
   cases this
  refine Ret.p (Ret.some (.inl ⟨(),rfl,fun k hk j hj=>?_⟩))
  by_cases e:k=i
  ·have := hb h1 j (by omega)
   rw [List.getD_eq_getElem?_getD,List.getElem?_take_of_lt (by omega),←List.getD_eq_getElem?_getD] at this
   rw [e,hx,this]
  ·exact hI k (by omega) j hj
 ·intro _ _
  unfold st_r2_DeedsFault_13
  (dsimp +instances only [Aa,Ab,Ac,Ad,Ae,Af,Ag])
  exact Ret.n (Ret.some rfl)
 ·rintro c g (⟨_, h, rfl, rfl⟩ | h)
  ·exact .inl ⟨h,rfl,rfl⟩
  ·exact .inr h
def DdOKA (rows:List (List G)):Prop:=DdUpA rows rows.length∧DdOnce rows rows.length
def ChkRA (rows:List (List G)) (v:Int):Prop:=(∃ i,FirstBadA rows i v)∨(DdUpA rows rows.length∧((DdOnce rows rows.length∧v=0)∨(¬ DdOnce rows rows.length∧v=6)))
def chkDdA (rows:List (List G)):Int:=Classical.epsilon (ChkRA rows)
theorem ChkRA.unique {rows:List (List G)} {v w:Int} (h:ChkRA rows v) (h':ChkRA rows w):v=w:=by
 rcases h with ⟨i,h⟩ | ⟨h1,h⟩<;>rcases h' with ⟨j,h'⟩ | ⟨h2,h'⟩
 ·exact h.unique h'
 ·exact (h.not_up h.2.1 h2).elim
 ·exact (h'.not_up h'.2.1 h1).elim
 ·rcases h with ⟨h3, rfl⟩ | ⟨h3, rfl⟩ <;> rcases h' with ⟨h4, rfl⟩ | ⟨h4, rfl⟩
  ·rfl
  ·exact (h4 h3).elim
  ·exact (h3 h4).elim
  ·rfl
theorem ChkRA.eq {rows:List (List G)} {v:Int} (h:ChkRA rows v):v=chkDdA rows:=h.unique (Classical.epsilon_spec (p:=ChkRA rows) ⟨v,h⟩)
theorem ChkRA.zero {rows:List (List G)} (h:ChkRA rows 0):DdOKA rows:=by
 rcases h with ⟨i,h⟩ | ⟨h1,⟨h,_⟩ | ⟨_,h⟩⟩
 ·exact (h.ne rfl).elim
 ·exact ⟨h1,h⟩
 ·cases h
theorem DdOKA.chk {rows:List (List G)} (h:DdOKA rows):ChkRA rows 0:=.inr ⟨h.1,.inl ⟨h.2,rfl⟩⟩
theorem DdOKA.chkDd {rows:List (List G)} (h:DdOKA rows):chkDdA rows=0:=h.chk.eq.symm
theorem deedsFault_eqA (rows:List (List G)) (hr:∀ z∈rows,DedA z) (hn:rows.length≤2000):F_r2_DeedsFault [.l rows]=some [.i (chkDdA rows)]∧ChkRA rows (chkDdA rows):=by
 have key:Ret (F_r2_DeedsFault [.l rows]) fun g=>∃ v:Int,g=[.i v]∧ChkRA rows v:=by
  unfold F_r2_DeedsFault
  (dsimp +instances only [Aa,Ab,Ac,Ad,Ae,Af,Ag])
  refine Ret.n ?_
  refine Ret.loop (loop_DeedsFault4A rows hr hn) rfl ?_
  rintro c g (⟨h1,rfl,rfl⟩ | ⟨rfl,v,hv,rfl⟩)
  ·refine Ret.neg rfl ?_
   refine Ret.loop (loop_DeedsFault13A rows hr hn) rfl ?_
   rintro c g (⟨h2,rfl,rfl⟩ | ⟨rfl,hv,rfl⟩)
   ·exact Ret.neg rfl (Ret.some ⟨0,rfl,.inr ⟨h1,.inl ⟨h2,rfl⟩⟩⟩)
   ·exact Ret.pos rfl (Ret.some ⟨6,rfl,.inr ⟨h1,.inr ⟨hv,rfl⟩⟩⟩)
  ·exact Ret.pos rfl (Ret.some ⟨v,rfl,.inl hv⟩)
 obtain ⟨_,h,v,rfl,hv⟩:=key
 have e:=hv.eq
 subst e
 exact ⟨h,hv⟩
theorem compareDd_eqA {r s:List G} (hr:DedA r) (hs:DedA s):F_net_compare [.l [r],.l [s]]=some [.i (ordDd r s)]:=by
 obtain ⟨si,no,at_,_,_,_,_,_,_,_,_,_,_,_,_,rfl,_⟩:=hr
 obtain ⟨si',no',at',_,_,_,_,_,_,_,_,_,_,_,_,rfl,_⟩:=hs
 refine Ret.toEq ?_
 unfold F_net_compare ordDd dRow
 (dsimp +instances only [Aa,Ab,Ac,Ad,Ae,Af,Ag])
 refine Ret.cE (cmpInt_eq at_ at') ?_
 refine Ret.cE (rfl:F_strings_Compare [.s si,.s si']=some [.i (cmpS si si')]) ?_
 refine Ret.cE (cmpInt_eq no no') ?_
 (dsimp +instances only [Aa,Ab,Ac,Ad,Ae,Af,Ag])
 refine Ret.cE (or3_eq _ _ _) ?_
 (dsimp +instances only [Aa,Ab,Ac,Ad,Ae,Af,Ag])
 by_cases h:at_=at'
 ·subst h
  exact Ret.some (by simp [cmpI])
 ·have := (cmpI_ne (a := at_) (b := at')).2 h
  exact Ret.some (by simp [this,h])
theorem loop_CheckDeeds4A (rows:List (List G)) (hr:∀ z∈rows,DedA z) (hn:rows.length≤2000) :
  RetL st_net_CheckDeeds_4 [.l rows,.l rows,.i (rows.length:Int),.i 0] fun c g=>(DdUpA rows rows.length∧c=1∧g=[.l rows])∨(c=0∧∃ v,(∃ i,FirstBadA rows i v)∧g=[.i v]):=by
 refine (range_inv (σ:=Unit) (fun _ i=>[.l rows,.l rows,.i (rows.length:Int),.i (i:Int)]) rows (fun _=>(1,[.l rows])) (fun _ i=>DdUpA rows i) (fun c g=>c=0∧∃ v,(∃ i,FirstBadA rows i v)∧g=[.i v]) () (by omega) ⟨fun j h=>by omega,fun j h=>by omega⟩ ?_ ?_).mono ?_
 ·intro _ i x hI hi hx hm _
  unfold st_net_CheckDeeds_4
  (dsimp +instances only [Aa,Ab,Ac,Ad,Ae,Af,Ag])
  have ex:=(hr x hm).eta
  refine Ret.p (Ret.p ?_)
  simp only [Int.toNat_natCast,hx,ex]
  refine Ret.cE (formed_eqA (hr x hm)) ?_
  (dsimp +instances only [Aa,Ab,Ac,Ad,Ae,Af,Ag])
  refine Ret.test (fun h1=>Ret.some (.inr ⟨0,_,rfl,rfl,_,⟨i,hI,hi,.inl ⟨by rw [hx]; simpa using h1,by rw [hx]⟩⟩,rfl⟩)) fun h1=>?_
  have h1:faultDdA x=0:=by simpa using h1
  refine Ret.test (fun h2=>?_) fun h2=>?_
  ·have h2:0<i:=by
    rw [ltI_eq,decide_eq_true_eq] at h2
    omega
   have e1:((i:Int)-1).toNat=i-1:=by omega
   have hp:rows.getD (i-1) []∈rows:=getD_row (by omega)
   refine Ret.p (Ret.p ?_)
   simp only [e1,(hr _ hp).eta]
   refine Ret.cE (compareDd_eqA (hr _ hp) (hr x hm)) ?_
   (dsimp +instances only [Aa,Ab,Ac,Ad,Ae,Af,Ag])
   refine Ret.test (fun h3=>Ret.some (.inr ⟨0,_,rfl,rfl,7,⟨i,hI,hi,.inr ⟨by rw [hx]; exact h1,h2,by rw [leI_eq,decide_eq_true_eq] at h3; rw [hx]; omega,rfl⟩⟩,rfl⟩)) fun h3=>?_
   refine Ret.p (Ret.some (.inl ⟨(),rfl,fun j hj=>?_,fun j hj=>?_⟩))
   ·by_cases e : j = i
    ·rw [e,hx,h1]
    ·exact hI.1 j (by omega)
   ·by_cases e : j + 1 = i
    ·rw [leI_eq, decide_eq_false_iff_not] at h3
     rw [e,hx,show j=i-1 from by omega]
     omega
    ·exact hI.2 j (by omega)
  ·have h2:i=0:=by
    rw [ltI_eq,decide_eq_false_iff_not] at h2
    omega
   refine Ret.p (Ret.some (.inl ⟨(),rfl,fun j hj=>?_,fun j hj=>by omega⟩))
   rw [show j=i from by omega,hx,h1]
 ·intro _ _
  unfold st_net_CheckDeeds_4
  (dsimp +instances only [Aa,Ab,Ac,Ad,Ae,Af,Ag])
  refine Ret.n (Ret.some rfl)
 ·rintro c g (⟨_, h, rfl, rfl⟩ | h)
  ·exact .inl ⟨h,rfl,rfl⟩
  ·exact .inr h
theorem own_sameA {r s:List G} (hr:DedA r) (hs:DedA s):rowEq KOwn (gEta KOwn r) (gEta KOwn s)=sameD r s:=by
 obtain ⟨_,_,_,_,_,_,_,_,_,_,_,_,_,_,_,rfl,_⟩:=hr
 obtain ⟨_,_,_,_,_,_,_,_,_,_,_,_,_,_,_,rfl,_⟩:=hs
 simp only [rowEq,gEta,gEq,sameD,dRow]
 (dsimp +instances only [Aa,Ab,Ac,Ad,Ae,Af,Ag])
 simp [Bool.and_true,gNew,G.str,G.int]
def SeenDA (m rows:List (List G)) (i:Nat):Prop:=∀ r,DedA r→((gi (mget KOwn m (gEta KOwn r) [.t false]) 0).bool=true↔∃ j,j<i∧sameD (rows.getD j []) r=true)
theorem SeenDA.nil (rows:List (List G)):SeenDA [] rows 0:=fun r _=>by
 rw [mget_nil]
 constructor
 ·intro h; cases h
 ·rintro ⟨j,hj,_⟩; omega
theorem SeenDA.put {m rows:List (List G)} {i:Nat} {x:List G} (h:SeenDA m rows i) (hx:DedA x) (e:rows.getD i []=x) (c:Nat):SeenDA (mput KOwn m (gEta KOwn x) [.t true] c) rows (i+1):=fun r hr=>by
 rw [mget_mput,own_sameA hr hx,sameD_symm]
 cases hs:sameD x r with
 | true =>
  simp only [cond_true]
  exact ⟨fun _=>⟨i,by omega,by rw [e]; exact hs⟩,fun _=>rfl⟩
 | false =>
  simp only [cond_false]
  rw [h r hr]
  constructor
  ·rintro ⟨j,hj,h2⟩; exact ⟨j,by omega,h2⟩
  ·rintro ⟨j, hj, h2⟩
   by_cases ej:j=i
   ·rw [ej,e,hs] at h2; cases h2
   ·exact ⟨j,by omega,h2⟩
theorem loop_CheckDeeds14A (rows:List (List G)) (hr:∀ z∈rows,DedA z) (hn:rows.length≤2000) :
  RetL st_net_CheckDeeds_14 [.l [],.i 0,.l rows,.i (rows.length:Int),.i 0] fun c g=>(DdOnce rows rows.length∧c=1∧g=[])∨(c=0∧¬ DdOnce rows rows.length∧g=[.i 6]):=by
 refine (range_inv (σ:=List (List G) × Nat) (fun s i=>[.l s.1,.i (s.2:Int),.l rows,.i (rows.length:Int),.i (i:Int)]) rows (fun _=>(1,[])) (fun s i=>DdOnce rows i∧SeenDA s.1 rows i) (fun c g=>c=0∧¬ DdOnce rows rows.length∧g=[.i 6]) ([],0) (by omega) ⟨fun j h=>by omega,SeenDA.nil rows⟩ ?_ ?_).mono ?_
 ·rintro ⟨m, ck⟩ i x ⟨hI, hM⟩ hi hx hm _
  have hd:=hr x hm
  unfold st_net_CheckDeeds_14
  (dsimp +instances only [Aa,Ab,Ac,Ad,Ae,Af,Ag])
  refine Ret.p (Ret.p ?_)
  simp only [Int.toNat_natCast,hx]
  refine Ret.test (fun h1=>Ret.some (.inr ⟨0,_,rfl,rfl,fun h2=>?_,rfl⟩)) fun h1=>?_
  ·obtain ⟨j, hj, h3⟩ := (hM x hd).1 h1
   have:=h2 i hi j hj
   rw [hx,h3] at this
   cases this
  ·refine Ret.p (Ret.some (.inl ⟨(mput KOwn m (gEta KOwn x) [.t true] ck, mclk KOwn m (gEta KOwn x) ck), rfl, fun k hk j hj => ?_, hM.put hd hx ck⟩))
   by_cases e:k=i
   ·subst e
    rw [hx]
    cases h3:sameD (rows.getD j []) x with
    | false=>rfl
    | true =>
     rw [(hM x hd).2 ⟨j,hj,h3⟩] at h1
     cases h1
   ·exact hI k (by omega) j hj
 ·rintro ⟨m, ck⟩ _
  unfold st_net_CheckDeeds_14
  (dsimp +instances only [Aa,Ab,Ac,Ad,Ae,Af,Ag])
  exact Ret.n (Ret.some rfl)
 ·rintro c g (⟨_, h, rfl, rfl⟩ | h)
  ·exact .inl ⟨h.1,rfl,rfl⟩
  ·exact .inr h
theorem checkDeeds_eqA (rows:List (List G)) (hr:∀ z∈rows,DedA z) (hn:rows.length≤2000):F_net_CheckDeeds [.l rows]=some [.i (chkDdA rows)]∧ChkRA rows (chkDdA rows):=by
 have key:Ret (F_net_CheckDeeds [.l rows]) fun g=>∃ v:Int,g=[.i v]∧ChkRA rows v:=by
  unfold F_net_CheckDeeds
  (dsimp +instances only [Aa,Ab,Ac,Ad,Ae,Af,Ag])
  refine Ret.n ?_
  refine Ret.loop (loop_CheckDeeds4A rows hr hn) rfl ?_
  rintro c g (⟨h1,rfl,rfl⟩ | ⟨rfl,v,hv,rfl⟩)
  ·refine Ret.neg rfl ?_
   refine Ret.loop (loop_CheckDeeds14A rows hr hn) rfl ?_
   rintro c g (⟨h2,rfl,rfl⟩ | ⟨rfl,hv,rfl⟩)
   ·exact Ret.neg rfl (Ret.some ⟨0,rfl,.inr ⟨h1,.inl ⟨h2,rfl⟩⟩⟩)
   ·exact Ret.pos rfl (Ret.some ⟨6,rfl,.inr ⟨h1,.inr ⟨hv,rfl⟩⟩⟩)
  ·exact Ret.pos rfl (Ret.some ⟨v,rfl,.inl hv⟩)
 obtain ⟨_,h,v,rfl,hv⟩:=key
 have e:=hv.eq
 subst e
 exact ⟨h,hv⟩
def modeL:List (List UInt8):=[[],[99,111,100,101],[118,111,105,99,101],[100,97,116,97]]
def undL (l:List UInt8):List UInt8:=if l=[45] then [] else l
theorem undKit (l:List UInt8):F_kit_Undash [.s (byL l)]=some [.s (byL (undL l))]:=by
 refine Ret.toEq ?_
 unfold F_kit_Undash undL
 (dsimp +instances only [Aa,Ab,Ac,Ad,Ae,Af,Ag])
 rw [byL_list,Lib.toList_data]
 refine Ret.test (fun h=>?_) fun h=>?_
 ·rw [if_pos (by simpa using h)]
  exact Ret.some rfl
 ·rw [if_neg (by simpa using h)]
  exact Ret.some rfl
theorem undRef (l:List UInt8):F_r2_undash [.s (byL l)]=some [.s (byL (undL l))]:=by
 refine Ret.toEq ?_
 unfold F_r2_undash undL
 (dsimp +instances only [Aa,Ab,Ac,Ad,Ae,Af,Ag])
 rw [byL_list,Lib.toList_data]
 refine Ret.test (fun h=>?_) fun h=>?_
 ·rw [if_pos (by simpa using h)]
  exact Ret.some rfl
 ·rw [if_neg (by simpa using h)]
  exact Ret.some rfl
def pickW (W:List (List UInt8)):List (List UInt8):=[W.getD 0 [],W.getD 4 [],W.getD 6 []]
def conOk (W:List (List UInt8)):Bool:=W.length==8&&(okN (pickW W)&&ltI 0 (ixL modeL (W.getD 1 [])))
def conW (W:List (List UInt8)):List G:=[.i ((valN (pickW W)).getD 0 0),.i (ixL modeL (W.getD 1 [])),.s (byL (W.getD 2 [])),.s (byL (W.getD 3 [])),.i ((valN (pickW W)).getD 1 0),.i ((valN (pickW W)).getD 2 0),.s (byL (undL (W.getD 5 []))),.s (byL (undL (W.getD 7 [])))]
theorem pick_le {W:List (List UInt8)} (hy:∀ y∈W,y.length≤900000):∀ y∈pickW W,y.length≤900000:=by
 intro y h
 simp only [pickW,List.mem_cons,List.not_mem_nil,or_false] at h
 rcases h with rfl | rfl | rfl<;>exact getD_le hy
theorem not8 {W:List (List UInt8)} (h:(((W.length:Nat):Int) != 8)=true):(W.length==8)=false:=by
 rw [beq_eq_false_iff_ne]
 intro e
 rw [e] at h
 cases h
theorem is8 {W:List (List UInt8)} (h:(((W.length:Nat):Int) != 8)=false):W.length=8:=by
 have:((W.length:Nat):Int)=8:=by simpa using h
 omega
theorem readWordsAny (W:List (List UInt8)) (hy:∀ y∈W,y.length≤900000):Ret (F_log_ReadWords [.l (rowsW W)]) fun g=>∃ row,g=[.l [row],.t (conOk W)]∧(conOk W=true→row=conW W):=by
 unfold F_log_ReadWords conOk
 (dsimp +instances only [Aa,Ab,Ac,Ad,Ae,Af,Ag])
 rw [rowsW_len]
 refine Ret.test (fun h=>?_) fun h=>?_
 ·rw [not8 h]
  exact Ret.some ⟨_,rfl,fun h=>by cases h⟩
 have h8:=is8 h
 refine Ret.cE modeWords_eq ?_
 rw [h8]
 refine Ret.pos rfl ?_
 rw [rowsW_get W 1 (by omega)]
 refine Ret.cE (indexAny modeL (W.getD 1 []) (by decide)) ?_
 rw [rowsW_get W 0 (by omega),rowsW_get W 4 (by omega),rowsW_get W 6 (by omega)]
 refine Ret.pos rfl (Ret.pos rfl (Ret.pos rfl ?_))
 refine Ret.cE (numsAny (pickW W) (by simp [pickW]) (pick_le hy)) ?_
 cases h3:okN (pickW W) with
 | false=>exact Ret.pos rfl (Ret.some ⟨_,rfl,fun h=>by cases h⟩)
 | true =>
  have hV:(valN (pickW W)).length=3:=by simp [valN,pickW]
  refine Ret.neg rfl ?_
  simp only [cond_true]
  (dsimp +instances only [Aa,Ab,Ac,Ad,Ae,Af,Ag])
  refine Ret.test (fun h4=>?_) fun h4=>?_
  ·have h5:ltI 0 (ixL modeL (W.getD 1 []))=false:=by
    rw [ltI_eq,decide_eq_true_eq] at h4
    rw [ltI_eq,decide_eq_false_iff_not]
    omega
   rw [h5]
   exact Ret.some ⟨_,rfl,fun h=>by cases h⟩
  ·have h5:ltI 0 (ixL modeL (W.getD 1 []))=true:=by
    rw [ltI_eq,decide_eq_false_iff_not] at h4
    rw [ltI_eq,decide_eq_true_eq]
    omega
   rw [h5,rowsI_len,hV,rowsW_get W 2 (by omega),rowsW_get W 3 (by omega),rowsW_get W 5 (by omega),rowsW_get W 7 (by omega),rowsI_get _ 0 (by omega),rowsI_get _ 1 (by omega),rowsI_get _ 2 (by omega)]
   refine Ret.pos rfl (Ret.pos rfl (Ret.pos rfl (Ret.pos rfl (Ret.pos rfl ?_))))
   refine Ret.cE (undKit (W.getD 5 [])) ?_
   refine Ret.pos rfl (Ret.pos rfl ?_)
   refine Ret.cE (undKit (W.getD 7 [])) ?_
   exact Ret.some ⟨_,rfl,fun _=>rfl⟩
theorem contactInAny (W:List (List UInt8)) (hy:∀ y∈W,y.length≤900000):Ret (F_r2_ContactIn [.l (rowsW W)]) fun g=>∃ row,g=[.l [row],.t (conOk W)]∧(conOk W=true→row=conW W):=by
 unfold F_r2_ContactIn conOk
 (dsimp +instances only [Aa,Ab,Ac,Ad,Ae,Af,Ag])
 rw [rowsW_len]
 refine Ret.test (fun h=>?_) fun h=>?_
 ·rw [not8 h]
  exact Ret.some ⟨_,rfl,fun h=>by cases h⟩
 have h8:=is8 h
 rw [h8,rowsW_get W 0 (by omega),rowsW_get W 4 (by omega),rowsW_get W 6 (by omega)]
 refine Ret.pos rfl (Ret.pos rfl (Ret.pos rfl ?_))
 refine Ret.call (numsPlain (pickW W) (by simp [pickW]) (pick_le hy)) ?_
 rintro _ ⟨V,rfl,hV,hv⟩
 have hV:V.length=3:=by rw [hV]; simp [pickW]
 (dsimp +instances only [Aa,Ab,Ac,Ad,Ae,Af,Ag])
 rw [rowsI_len,hV]
 refine Ret.pos rfl ?_
 refine Ret.cE (show F_r2_plainModes []=some [.l (rowsW modeL)] from rfl) ?_
 rw [rowsW_get W 1 (by omega)]
 refine Ret.pos rfl ?_
 refine Ret.cE (indexAny modeL (W.getD 1 []) (by decide)) ?_
 rw [rowsW_get W 2 (by omega),rowsW_get W 3 (by omega),rowsW_get W 5 (by omega),rowsW_get W 7 (by omega)]
 refine Ret.pos rfl (Ret.pos rfl (Ret.pos rfl (Ret.pos rfl ?_)))
 refine Ret.cE (undRef (W.getD 5 [])) ?_
 refine Ret.pos rfl (Ret.pos rfl ?_)
 refine Ret.cE (undRef (W.getD 7 [])) ?_
 (dsimp +instances only [Aa,Ab,Ac,Ad,Ae,Af,Ag])
 rw [rowsI_get _ 0 (by omega),rowsI_get _ 1 (by omega),rowsI_get _ 2 (by omega)]
 refine Ret.test (fun h=>?_) fun h=>?_
 ·have h : okN (pickW W) = true := h
  rw [h]
  refine Ret.some ⟨_,rfl,fun _=>?_⟩
  rw [hv h]
  rfl
 ·have h : okN (pickW W) = false := h
  rw [h]
  exact Ret.some ⟨_,rfl,fun h=>by cases h⟩
theorem joinAny (ws:List ByteArray) (hn:ws.length≤1000) (hl:(lineL (ws.map (·.data.toList))).length≤1000000):F_strings_Join [.l (ws.map fun w=>[.s w]),.s (⟨#[32]⟩:ByteArray)]=some [.s (byL (Lib.join (ws.map (·.data.toList)) [32]))]:=by
 have e:joinB (ws.map fun w=>[G.s w]) (⟨#[32]⟩:ByteArray)=byL (Lib.join (ws.map (·.data.toList)) [32]):=by
  unfold joinB
  rw [strs_map]
  rfl
 have hl':(Lib.join (ws.map (·.data.toList)) [32]).length+1≤1000000:=by
  simpa [lineL] using hl
 refine Ret.toEq ?_
 unfold F_strings_Join joinF
 (dsimp +instances only [Aa,Ab,Ac,Ad,Ae,Af,Ag])
 rw [e,byL_size]
 refine Ret.pos ?_ (Ret.some rfl)
 rw [List.length_map,Bool.and_eq_true,Nat.ble_eq,Nat.ble_eq]
 omega
theorem numbersTwo (a b:Int) (ha:0≤a∧a≤345686399999) (hb:0≤b∧b≤345686399999):F_r2_Numbers [.l [[.i a],[.i b]]]=some [.s (byL (Lib.itoa a++32::Lib.itoa b))]:=by
 refine Ret.toEq ?_
 have la:=len_itoa ha.1 ha.2
 have lb:=len_itoa hb.1 hb.2
 unfold F_r2_Numbers
 (dsimp +instances only [Aa,Ab,Ac,Ad,Ae,Af,Ag])
 refine Ret.loop (P:=fun c g=>c=0∧g=[.l [[.s (itoaZ a)],[.s (itoaZ b)]]]) ?_ rfl ?_
 ·refine ((count_runs (σ:=Unit) (fun _ i=>[.l (([a,b].take i).map fun n=>[.s (itoaZ n)]),.l [[.i a],[.i b]],.i 2,.i (i:Int)]) 2 (fun _=>(0,[.l [[.s (itoaZ a)],[.s (itoaZ b)]]])) (fun _ i=>True)
   (fun c g=>False) ?_ ?_ 2 () 0 (by omega) trivial).to (by omega)).mono ?_
  ·rintro _ i _ hi
   have:i=0∨i=1:=by omega
   rcases this with rfl | rfl
   ·unfold st_r2_Numbers_3
    (dsimp +instances only [Aa,Ab,Ac,Ad,Ae,Af,Ag])
    refine Ret.pos rfl (Ret.pos rfl ?_)
    refine Ret.cE (itoaA a (by omega) (by omega)) ?_
    exact Ret.pos rfl (Ret.pos rfl (Ret.pos rfl (Ret.some (.inl ⟨(),rfl,trivial⟩))))
   ·unfold st_r2_Numbers_3
    (dsimp +instances only [Aa,Ab,Ac,Ad,Ae,Af,Ag])
    refine Ret.pos rfl (Ret.pos rfl ?_)
    refine Ret.cE (itoaA b (by omega) (by omega)) ?_
    exact Ret.pos rfl (Ret.pos rfl (Ret.pos rfl (Ret.some (.inl ⟨(),rfl,trivial⟩))))
  ·rintro _ _
   unfold st_r2_Numbers_3
   (dsimp +instances only [Aa,Ab,Ac,Ad,Ae,Af,Ag])
   exact Ret.neg rfl (Ret.pos rfl (Ret.some rfl))
  ·rintro c g (⟨_, _, rfl, rfl⟩ | h)
   ·exact ⟨rfl,rfl⟩
   ·exact h.elim
 ·rintro c g ⟨rfl, rfl⟩
  have hj:=joinAny [itoaZ a,itoaZ b] (by simp) (by
   show (lineL [Lib.itoa a,Lib.itoa b]).length≤1000000
   unfold lineL
   rw [join_two,Lib.join_one]
   simp
   omega)
  refine Ret.callb (Ret.eq hj) rfl ?_
  rintro _ rfl
  refine Ret.some ?_
  show [G.s (byL (Lib.join [Lib.itoa a,Lib.itoa b] [32]))]=_
  rw [join_two,Lib.join_one]
  rfl
theorem ascii_sub {s:ByteArray} (h:asciiB s=true) {w:List UInt8} (hw:∀ b∈w,b∈s.data.toList):asciiB (byL w)=true:=by
 unfold asciiB at h ⊢
 rw [byL_data,List.all_eq_true]
 exact fun b hb=>List.all_eq_true.1 h b (hw b hb)
theorem txt_mem:∀ (L:List (List UInt8)) (z:List UInt8),∀ p∈L,∀ b∈p,b∈txtL L z
 | q::L,z,p,hp,b,hb=>by
  rw [txtL_cons]
  rcases List.mem_cons.1 hp with rfl | hp
  ·exact List.mem_append_left _ hb
  ·exact List.mem_append_right _ (List.mem_cons_of_mem _ (txt_mem L z p hp b hb))
theorem und_sub (l:List UInt8):(∀ b∈undL l,b∈l)∧(undL l).length≤l.length:=by
 unfold undL
 split
 ·exact ⟨fun b hb=>(by cases hb),Nat.zero_le _⟩
 ·exact ⟨fun b hb=>hb,Nat.le_refl _⟩
/-! ### What is written -/
theorem dashRef (s:ByteArray):F_r2_dash [.s s]=some [.s (byL (dashL s.data.toList))]:=by
 refine Ret.toEq ?_
 unfold F_r2_dash
 (dsimp +instances only [Aa,Ab,Ac,Ad,Ae,Af,Ag])
 rw [Lib.toList_data,Lib.toList_data]
 cases hd:s.data.toList with
 | nil=>exact Ret.pos rfl (Ret.some rfl)
 | cons b r =>
  refine Ret.neg rfl (Ret.some ?_)
  show [G.s s]=[G.s (byL (b::r))]
  rw [←hd,byL_of]
theorem lineRef {r:List G} (h:ConW r):F_r2_ContactLine [.l [r]]=some [.s (byL (Lib.join (wordsC r) [32]))]:=by
 have hl:=wordsC_len h
 obtain ⟨t,m,b,c,s,h,x,y,rfl,ht,hm,hb,hc,hs,hh,hx,hy⟩:=h
 refine Ret.toEq ?_
 unfold F_r2_ContactLine
 (dsimp +instances only [Aa,Ab,Ac,Ad,Ae,Af,Ag])
 refine Ret.cE (itoaA t (by omega) (by omega)) ?_
 refine Ret.cE (show F_r2_plainModes []=some [.l modeRows] from rfl) ?_
 (dsimp +instances only [Aa,Ab,Ac,Ad,Ae,Af,Ag])
 refine Ret.pos ?_ ?_
 ·rw [show modeRows.length = 4 from rfl, Bool.and_eq_true, nnI_eq, ltI_eq, decide_eq_true_eq, decide_eq_true_eq]
  omega
 refine Ret.cE (itoaA s (by omega) (by omega)) ?_
 refine Ret.cE (dashRef x) ?_
 refine Ret.cE (itoaA h (by omega) (by omega)) ?_
 refine Ret.cE (dashRef y) ?_
 (dsimp +instances only [Aa,Ab,Ac,Ad,Ae,Af,Ag])
 rw [mode_at hm]
 have e:[itoaZ t,modeW m,b,c,itoaZ s,byL (dashL x.data.toList),itoaZ h,byL (dashL y.data.toList)].map (·.data.toList)=wordsC [.i t,.i m,.s b,.s c,.i s,.i h,.s x,.s y]:=by
  simp only [List.map_cons,List.map_nil,byL_data,itoa_byL]
  rfl
 refine Ret.cE (joinAny [itoaZ t,modeW m,b,c,itoaZ s,byL (dashL x.data.toList),itoaZ h,byL (dashL y.data.toList)] (by simp) (by rw [e]; omega)) ?_
 refine Ret.some ?_
 rw [e]
 rfl
def kindD:List (List UInt8):=[[],[108,111,103],[116,117,110,101],[104,101,108,100],[102,114,101,101],[117,110,100,111]]
theorem kindD_eq:F_net_kindWords []=some [.l (rowsW kindD)]:=rfl
theorem rowsW_drop (W:List (List UInt8)) (k:Nat):(rowsW W).drop k=rowsW (W.drop k):=by simp [rowsW]
theorem getD_drop (W:List (List UInt8)) (k i:Nat):(W.drop k).getD i []=W.getD (k+i) []:=by
 rw [List.getD_eq_getElem?_getD,List.getD_eq_getElem?_getD,List.getElem?_drop]
def kO (W:List (List UInt8)):Int:=ixL kindD (W.getD 3 [])
def nO (W:List (List UInt8)):List (List UInt8):=(W.drop 1).take 2
def isN (W:List (List UInt8)) (i:Nat):Bool:=(numL 15 (W.getD i [])).isSome
def numN (W:List (List UInt8)) (i:Nat):Int:=(numL 15 (W.getD i [])).getD 0
def restOk (W:List (List UInt8)) (k:Int):Bool :=
 bif k==1 then conOk (W.drop 4) else bif k==2 then W.length==5 else bif k==3 then (W.length==5&&isN W 4) else bif k==4 then (W.length==5&&isN W 4) else bif k==5 then (W.length==6&&isN W 5) else false
def deedOk (W:List (List UInt8)):Bool:=Nat.ble 5 W.length&&(okN (nO W)&&restOk W (kO W))
def eB:ByteArray:=⟨#[]⟩
def deedR (W:List (List UInt8)) (k:Int):List G :=
 bif k==1 then [.s (byL (W.getD 0 [])),.i ((valN (nO W)).getD 0 0),.i ((valN (nO W)).getD 1 0),.i k]++conW (W.drop 4)++[.s eB,.s eB,.i 0]
 else bif k==2 then dRow (byL (W.getD 0 [])) ((valN (nO W)).getD 0 0) ((valN (nO W)).getD 1 0) k 0 0 eB eB 0 0 eB eB (byL (W.getD 4 [])) eB 0
 else bif k==5 then dRow (byL (W.getD 0 [])) ((valN (nO W)).getD 0 0) ((valN (nO W)).getD 1 0) k 0 0 eB eB 0 0 eB eB eB (byL (W.getD 4 [])) (numN W 5)
 else dRow (byL (W.getD 0 [])) ((valN (nO W)).getD 0 0) ((valN (nO W)).getD 1 0) k 0 0 eB eB (numN W 4) 0 eB eB eB eB 0
theorem nO_len {W:List (List UInt8)} (h:5≤W.length):(nO W).length=2:=by
 unfold nO
 rw [List.length_take,List.length_drop]
 omega
theorem nO_le {W:List (List UInt8)} {n:Nat} (h:∀ y∈W,y.length≤n):∀ y∈nO W,y.length≤n:=fun y hy=>h y (List.mem_of_mem_drop (List.mem_of_mem_take hy))
theorem readDeedAny (p:List UInt8) (hp:p.length≤900000):Ret (F_net_readDeed [.s (byL p)]) fun g=>∃ row,g=[.l [row],.t (wordsOk (piecesL 32 p)&&deedOk (piecesL 32 p))]∧((wordsOk (piecesL 32 p)&&deedOk (piecesL 32 p))=true→row=deedR (piecesL 32 p) (kO (piecesL 32 p))):=by
 have hw:=wordsAny (byL p) (by rw [byL_size]; exact hp)
 rw [byL_data] at hw
 have hle:∀ y∈piecesL 32 p,y.length≤p.length:=fun y hy=>piece_le hy
 unfold F_net_readDeed
 (dsimp +instances only [Aa,Ab,Ac,Ad,Ae,Af,Ag])
 refine Ret.cE hw ?_
 generalize piecesL 32 p=W at hle
 have hle9:∀ y∈W,y.length≤900000:=fun y hy=>Nat.le_trans (hle y hy) hp
 cases h1:wordsOk W with
 | false=>exact Ret.pos rfl (Ret.some ⟨_,rfl,fun h=>by cases h⟩)
 | true =>
 rw [Bool.true_and]
 refine Ret.neg rfl ?_
 simp only [cond_true]
 (dsimp +instances only [Aa,Ab,Ac,Ad,Ae,Af,Ag])
 rw [rowsW_len]
 refine Ret.test (fun h=>?_) fun h=>?_
 ·rw [leI_eq, decide_eq_true_eq] at h
  have h5:Nat.ble 5 W.length=false:=by rw [Bool.eq_false_iff,ne_eq,Nat.ble_eq]; omega
  unfold deedOk
  rw [h5]
  exact Ret.some ⟨_,rfl,fun h=>by cases h⟩
 rw [leI_eq,decide_eq_false_iff_not] at h
 have h5:5≤W.length:=by omega
 have h5b:Nat.ble 5 W.length=true:=by rw [Nat.ble_eq]; exact h5
 have hl2:=nO_len h5
 rw [show ((rowsW W).drop 1).take (3-1)=rowsW (nO W) by rw [rowsW_drop,rowsW_take]; rfl]
 refine Ret.pos (by rw [leI_eq,decide_eq_true_eq]; omega) ?_
 refine Ret.cE (numsAny (nO W) (by omega) (nO_le hle9)) ?_
 unfold deedOk
 rw [h5b,Bool.true_and]
 cases h3:okN (nO W) with
 | false=>exact Ret.pos rfl (Ret.some ⟨_,rfl,fun h=>by cases h⟩)
 | true =>
 have hV:(valN (nO W)).length=2:=by unfold valN; rw [List.length_map,hl2]
 rw [Bool.true_and]
 refine Ret.neg rfl ?_
 simp only [cond_true]
 (dsimp +instances only [Aa,Ab,Ac,Ad,Ae,Af,Ag])
 rw [rowsI_len,hV,rowsW_get W 0 (by omega),rowsW_get W 3 (by omega),rowsI_get _ 0 (by omega),rowsI_get _ 1 (by omega),rowsW_drop,rowsW_len,List.length_drop]
 refine Ret.pos (by rw [ltI_eq,decide_eq_true_eq]; omega) (Ret.pos rfl (Ret.pos rfl ?_))
 refine Ret.cE kindD_eq ?_
 refine Ret.pos (by rw [ltI_eq,decide_eq_true_eq]; omega) ?_
 refine Ret.cE (indexAny kindD (W.getD 3 []) (by decide)) ?_
 refine Ret.pos (by rw [leI_eq,decide_eq_true_eq]; omega) ?_
 have ek:kO W=ixL kindD (W.getD 3 []):=rfl
 rw [←ek]
 generalize kO W=k
 (dsimp +instances only [Aa,Ab,Ac,Ad,Ae,Af,Ag])
 have g4:gi ((rowsW (W.drop 4)).getD 0 []) 0=.s (byL (W.getD 4 [])):=by
  rw [rowsW_get (W.drop 4) 0 (by rw [List.length_drop]; omega),getD_drop]
 have l4:(((W.length-4:Nat):Int)==1)=(W.length==5):=by
  rw [Bool.eq_iff_iff,beq_iff_eq,beq_iff_eq]
  omega
 have l5:(((W.length-4:Nat):Int)==2)=(W.length==6):=by
  rw [Bool.eq_iff_iff,beq_iff_eq,beq_iff_eq]
  omega
 have hw4:(W.getD 4 []).length≤900000:=getD_le hle9
 have hw5:(W.getD 5 []).length≤900000:=getD_le hle9
 have n4:=numKit (byL (W.getD 4 [])) (by rw [byL_size]; exact hw4)
 have n5:=numKit (byL (W.getD 5 [])) (by rw [byL_size]; exact hw5)
 rw [byL_data] at n4 n5
 refine Ret.test (fun k1=>?_) fun k1=>?_
 ·have k1 : k = 1 := by simpa using k1
  subst k1
  refine Ret.call (readWordsAny (W.drop 4) fun y hy=>hle9 y (List.mem_of_mem_drop hy)) ?_
  rintro _ ⟨row,rfl,hrow⟩
  refine Ret.some ⟨_,rfl,fun h=>?_⟩
  have h:conOk (W.drop 4)=true:=h
  rw [hrow h]
  rfl
 refine Ret.test (fun k2=>?_) fun k2=>?_
 ·have k2 : k = 2 := by simpa using k2
  subst k2
  have e2:restOk W 2=(W.length==5):=rfl
  rw [e2,l4]
  refine tailIn rfl ?_
  unfold tl_net_readDeed_13
  (dsimp +instances only [Aa,Ab,Ac,Ad,Ae,Af,Ag])
  rw [rowsW_len,List.length_drop,g4]
  cases h6:(W.length==5) with
  | true =>
   refine Ret.pos rfl (Ret.pos (by rw [ltI_eq,decide_eq_true_eq]; omega) (Ret.some ⟨0,rfl,?_⟩))
   exact Ret.pos rfl (Ret.some ⟨_,rfl,fun _=>rfl⟩)
  | false =>
   refine Ret.neg rfl (Ret.neg rfl (Ret.neg rfl ?_))
   refine tailIn rfl ?_
   unfold tl_net_readDeed_15
   (dsimp +instances only [Aa,Ab,Ac,Ad,Ae,Af,Ag])
   refine Ret.neg rfl (Ret.neg rfl (Ret.some ⟨1,rfl,?_⟩))
   refine Ret.neg rfl (Ret.some ⟨1,rfl,?_⟩)
   exact Ret.neg rfl (Ret.some ⟨_,rfl,fun h=>by cases h⟩)
 refine tailIn rfl ?_
 unfold tl_net_readDeed_13
 (dsimp +instances only [Aa,Ab,Ac,Ad,Ae,Af,Ag])
 refine Ret.neg rfl ?_
 have held:(k==3||k==4)=true→restOk W k=(W.length==5&&isN W 4)∧deedR W k=dRow (byL (W.getD 0 [])) ((valN (nO W)).getD 0 0) ((valN (nO W)).getD 1 0) k 0 0 eB eB (numN W 4) 0 eB eB eB eB 0:=fun h=>by
  rcases Bool.or_eq_true_iff.1 h with h | h
  ·have : k = 3 := by simpa using h
   subst this
   exact ⟨rfl,rfl⟩
  ·have : k = 4 := by simpa using h
   subst this
   exact ⟨rfl,rfl⟩
 refine Ret.test (fun k3=>?_) fun k3=>?_
 ·obtain ⟨q1, q2⟩ := held (by rw [k3]; rfl)
  have k3':k=3:=by simpa using k3
  rw [q1,q2,rowsW_len,List.length_drop,l4]
  refine tailIn rfl ?_
  unfold tl_net_readDeed_15
  (dsimp +instances only [Aa,Ab,Ac,Ad,Ae,Af,Ag])
  rw [rowsW_len,List.length_drop,g4]
  cases h6:(W.length==5) with
  | true =>
   refine Ret.pos rfl (Ret.pos (by rw [ltI_eq,decide_eq_true_eq]; omega) ?_)
   refine Ret.call n4 ?_
   rintro _ ⟨n,rfl,hn⟩
   refine Ret.some ⟨0,rfl,?_⟩
   refine Ret.pos rfl (Ret.some ⟨0,rfl,?_⟩)
   refine Ret.pos rfl (Ret.some ⟨_,rfl,fun h=>?_⟩)
   obtain ⟨v,hv⟩:=Option.isSome_iff_exists.1 (show (numL 15 (W.getD 4 [])).isSome=true from h)
   have:=hn v hv
   subst this
   unfold numN
   rw [hv]
   rfl
  | false =>
   refine Ret.neg rfl (Ret.neg (by rw [k3']; rfl) (Ret.some ⟨1,rfl,?_⟩))
   refine Ret.neg rfl (Ret.some ⟨1,rfl,?_⟩)
   exact Ret.neg rfl (Ret.some ⟨_,rfl,fun h=>by cases h⟩)
 refine Ret.test (fun k4=>?_) fun k4=>?_
 ·obtain ⟨q1, q2⟩ := held (by rw [k4, Bool.or_true])
  have k4':k=4:=by simpa using k4
  rw [q1,q2,rowsW_len,List.length_drop,l4]
  refine tailIn rfl ?_
  unfold tl_net_readDeed_15
  (dsimp +instances only [Aa,Ab,Ac,Ad,Ae,Af,Ag])
  rw [rowsW_len,List.length_drop,g4]
  cases h6:(W.length==5) with
  | true =>
   refine Ret.pos rfl (Ret.pos (by rw [ltI_eq,decide_eq_true_eq]; omega) ?_)
   refine Ret.call n4 ?_
   rintro _ ⟨n,rfl,hn⟩
   refine Ret.some ⟨0,rfl,?_⟩
   refine Ret.pos rfl (Ret.some ⟨0,rfl,?_⟩)
   refine Ret.pos rfl (Ret.some ⟨_,rfl,fun h=>?_⟩)
   obtain ⟨v,hv⟩:=Option.isSome_iff_exists.1 (show (numL 15 (W.getD 4 [])).isSome=true from h)
   have:=hn v hv
   subst this
   unfold numN
   rw [hv]
   rfl
  | false =>
   refine Ret.neg rfl (Ret.neg (by rw [k4']; rfl) (Ret.some ⟨1,rfl,?_⟩))
   refine Ret.neg rfl (Ret.some ⟨1,rfl,?_⟩)
   exact Ret.neg rfl (Ret.some ⟨_,rfl,fun h=>by cases h⟩)
 refine tailIn rfl ?_
 unfold tl_net_readDeed_15
 (dsimp +instances only [Aa,Ab,Ac,Ad,Ae,Af,Ag])
 refine Ret.neg rfl ?_
 rw [rowsW_len,List.length_drop,l5,g4]
 refine Ret.test (fun k5=>?_) fun k5=>?_
 ·have k5' : k = 5 := by simpa using k5
  subst k5'
  have e5:restOk W 5=(W.length==6&&isN W 5):=rfl
  rw [e5]
  cases h6:(W.length==6) with
  | true =>
   have h6':W.length=6:=by simpa using h6
   have g5:gi ((rowsW (W.drop 4)).getD 1 []) 0=.s (byL (W.getD 5 [])):=by
    rw [rowsW_get (W.drop 4) 1 (by rw [List.length_drop]; omega),getD_drop]
   rw [g5]
   refine Ret.pos rfl (Ret.pos (by rw [ltI_eq,decide_eq_true_eq]; omega) (Ret.pos (by rw [ltI_eq,decide_eq_true_eq]; omega) ?_))
   refine Ret.call n5 ?_
   rintro _ ⟨n,rfl,hn⟩
   refine Ret.some ⟨0,rfl,?_⟩
   refine Ret.pos rfl (Ret.some ⟨0,rfl,?_⟩)
   refine Ret.pos rfl (Ret.some ⟨_,rfl,fun h=>?_⟩)
   obtain ⟨v,hv⟩:=Option.isSome_iff_exists.1 (show (numL 15 (W.getD 5 [])).isSome=true from h)
   have:=hn v hv
   subst this
   show _=dRow (byL (W.getD 0 [])) ((valN (nO W)).getD 0 0) ((valN (nO W)).getD 1 0) 5 0 0 eB eB 0 0 eB eB eB (byL (W.getD 4 [])) (numN W 5)
   unfold numN
   rw [hv]
   rfl
  | false =>
   refine Ret.neg rfl (Ret.some ⟨1,rfl,?_⟩)
   refine Ret.neg rfl (Ret.some ⟨1,rfl,?_⟩)
   exact Ret.neg rfl (Ret.some ⟨_,rfl,fun h=>by cases h⟩)
 ·have e0:restOk W k=false:=by
   unfold restOk
   rw [k1,k2,k3,k4,k5]
   rfl
  rw [e0]
  refine Ret.some ⟨1,rfl,?_⟩
  refine Ret.neg rfl (Ret.some ⟨1,rfl,?_⟩)
  exact Ret.neg rfl (Ret.some ⟨_,rfl,fun h=>by cases h⟩)
def goodP (p:List UInt8):Bool:=wordsOk (piecesL 32 p)&&deedOk (piecesL 32 p)
def spotP (p:List UInt8):List G:=deedR (piecesL 32 p) (kO (piecesL 32 p))
def wantT (w:ByteArray):Int:=(gi (mget [.str] (mput [.str] (mput [.str] (mput [.str] (mput [.str] (mput [.str] [] [.s (⟨#[108,111,103]⟩:ByteArray)] [.i 12] 0) [.s (⟨#[116,117,110,101]⟩:ByteArray)] [.i 5] (mclk [.str] [] [.s (⟨#[108,111,103]⟩:ByteArray)] 0)) [.s (⟨#[104,101,108,100]⟩:ByteArray)] [.i 5] (mclk [.str] (mput [.str] [] [.s (⟨#[108,111,103]⟩:ByteArray)] [.i 12] 0) [.s (⟨#[116,117,110,101]⟩:ByteArray)] (mclk [.str] [] [.s (⟨#[108,111,103]⟩:ByteArray)] 0))) [.s (⟨#[102,114,101,101]⟩:ByteArray)] [.i 5] (mclk [.str] (mput [.str] (mput [.str] [] [.s (⟨#[108,111,103]⟩:ByteArray)] [.i 12] 0) [.s (⟨#[116,117,110,101]⟩:ByteArray)] [.i 5] (mclk [.str] [] [.s (⟨#[108,111,103]⟩:ByteArray)] 0)) [.s (⟨#[104,101,108,100]⟩:ByteArray)] (mclk [.str] (mput [.str] [] [.s (⟨#[108,111,103]⟩:ByteArray)] [.i 12] 0) [.s (⟨#[116,117,110,101]⟩:ByteArray)] (mclk [.str] [] [.s (⟨#[108,111,103]⟩:ByteArray)] 0)))) [.s (⟨#[117,110,100,111]⟩:ByteArray)] [.i 6] (mclk [.str] (mput [.str] (mput [.str] (mput [.str] [] [.s (⟨#[108,111,103]⟩:ByteArray)] [.i 12] 0) [.s (⟨#[116,117,110,101]⟩:ByteArray)] [.i 5] (mclk [.str] [] [.s (⟨#[108,111,103]⟩:ByteArray)] 0)) [.s (⟨#[104,101,108,100]⟩:ByteArray)] [.i 5] (mclk [.str] (mput [.str] [] [.s (⟨#[108,111,103]⟩:ByteArray)] [.i 12] 0) [.s (⟨#[116,117,110,101]⟩:ByteArray)] (mclk [.str] [] [.s (⟨#[108,111,103]⟩:ByteArray)] 0))) [.s (⟨#[102,114,101,101]⟩:ByteArray)] (mclk [.str] (mput [.str] (mput [.str] [] [.s (⟨#[108,111,103]⟩:ByteArray)] [.i 12] 0) [.s (⟨#[116,117,110,101]⟩:ByteArray)] [.i 5] (mclk [.str] [] [.s (⟨#[108,111,103]⟩:ByteArray)] 0)) [.s (⟨#[104,101,108,100]⟩:ByteArray)] (mclk [.str] (mput [.str] [] [.s (⟨#[108,111,103]⟩:ByteArray)] [.i 12] 0) [.s (⟨#[116,117,110,101]⟩:ByteArray)] (mclk [.str] [] [.s (⟨#[108,111,103]⟩:ByteArray)] 0))))) [.s w] [.i 0]) 0).int
theorem Ac (w:List UInt8) (x:ByteArray):rowEq [.str] [G.s (byL w)] [G.s x]=(w==x.data.toList):=by
 show ((byL w).toList==x.toList&&true)=_
 rw [byL_list,Lib.toList_data,Bool.and_true]
theorem wantT_eq (w:List UInt8):wantT (byL w)=bif w==[117,110,100,111] then 6 else bif w==[102,114,101,101] then 5 else bif w==[104,101,108,100] then 5 else bif w==[116,117,110,101] then 5 else bif w==[108,111,103] then 12 else 0:=by
 unfold wantT
 simp only [mget_mput,mget_nil,Ac]
 generalize (w==[117,110,100,111])=b1
 generalize (w==[102,114,101,101])=b2
 generalize (w==[104,101,108,100])=b3
 generalize (w==[116,117,110,101])=b4
 generalize (w==[108,111,103])=b5
 cases b1<;>cases b2<;>cases b3<;>cases b4<;>cases b5<;>rfl
theorem kO_of {W:List (List UInt8)} {w:List UInt8} {k:Int} (h:W.getD 3 []=w) (e:ixL kindD w=k):kO W=k:=by
 unfold kO
 rw [h,e]
theorem ix_log:ixL kindD [108,111,103]=1:=by kernel_rfl
theorem ix_tune:ixL kindD [116,117,110,101]=2:=by kernel_rfl
theorem ix_held:ixL kindD [104,101,108,100]=3:=by kernel_rfl
theorem ix_free:ixL kindD [102,114,101,101]=4:=by kernel_rfl
theorem ix_undo:ixL kindD [117,110,100,111]=5:=by kernel_rfl
theorem ix_none {w:List UInt8} (h1:w≠[108,111,103]) (h2:w≠[116,117,110,101]) (h3:w≠[104,101,108,100]) (h4:w≠[102,114,101,101]) (h5:w≠[117,110,100,111]):ixL kindD w=0∨ixL kindD w = -1:=by
 by_cases h0:w=[]
 ·subst h0
  left
  kernel_rfl
 ·right
  unfold ixL
  rw [if_neg]
  simp only [kindD,List.mem_cons,List.not_mem_nil,or_false]
  rintro (h | h | h | h | h | h)
  ·exact h0 h
  ·exact h1 h
  ·exact h2 h
  ·exact h3 h
  ·exact h4 h
  ·exact h5 h
theorem word_test (w:List UInt8) (x:ByteArray):((byL w).toList==x.toList)=(w==x.data.toList):=by
 rw [byL_list,Lib.toList_data]
theorem len_eq {W:List (List UInt8)} (n:Nat):(((W.length:Nat):Int) != ((n:Nat):Int)) = !(W.length==n):=by
 rw [Bool.eq_iff_iff,bne_iff_ne,Bool.not_eq_true',beq_eq_false_iff_ne]
 omega
theorem readPlain (rows:List (List G)) (p:List UInt8) (hr:rows.length≤900000) (hp:p.length≤900000):Ret (F_r2_DeedsRead_1 [.l rows,.s (byL p)]) fun g=>∃ rows',g=[.l rows',.t (goodP p)]∧rows'.length≤rows.length+1∧(goodP p=true→rows'=rows++[spotP p]):=by
 have hw:=wordsPlain (byL p) (by rw [byL_size]; exact hp)
 rw [byL_data] at hw
 have hle:∀ y∈piecesL 32 p,y.length≤p.length:=fun y hy=>piece_le hy
 unfold F_r2_DeedsRead_1
 (dsimp +instances only [Aa,Ab,Ac,Ad,Ae,Af,Ag])
 refine Ret.cE hw ?_
 (dsimp +instances only [Aa,Ab,Ac,Ad,Ae,Af,Ag])
 rw [rowsW_len]
 unfold goodP spotP
 generalize piecesL 32 p=W at hle
 have hle9:∀ y∈W,y.length≤900000:=fun y hy=>Nat.le_trans (hle y hy) hp
 have no:∀ {b:Bool},b=false→Ret (bif (Nat.beq rows.length rows.length&&true&&true)&&true then some [G.l rows,G.t false] else none) fun g=>∃ rows',g=[G.l rows',G.t b]∧rows'.length≤rows.length+1∧(b=true→rows'=rows++[deedR W (kO W)]):=fun e=>by
  rw [e]
  exact Ret.pos (by simp) (Ret.some ⟨rows,rfl,by omega,fun h=>by cases h⟩)
 refine Ret.test (fun h1=>?_) fun h1=>?_
 ·have h1 : wordsOk W = false := by simpa using h1
  exact no (by rw [h1,Bool.false_and])
 have h1:wordsOk W=true:=by simpa using h1
 rw [h1,Bool.true_and]
 refine Ret.test (fun h=>?_) fun h=>?_
 ·rw [ltI_eq, decide_eq_true_eq] at h
  have h5:Nat.ble 5 W.length=false:=by rw [Bool.eq_false_iff,ne_eq,Nat.ble_eq]; omega
  refine no ?_
  unfold deedOk
  rw [h5,Bool.false_and]
 rw [ltI_eq,decide_eq_false_iff_not] at h
 have h5:5≤W.length:=by omega
 have h5b:Nat.ble 5 W.length=true:=by rw [Nat.ble_eq]; exact h5
 have hok:deedOk W=(okN (nO W)&&restOk W (kO W)):=by
  unfold deedOk
  rw [h5b,Bool.true_and]
 have hl2:=nO_len h5
 have hnp:=numsPlain (nO W) (by omega) (nO_le hle9)
 rw [rowsW_get W 3 (by omega)]
 refine Ret.pos (by rw [ltI_eq,decide_eq_true_eq]; omega) ?_
 rw [show ((rowsW W).drop 1).take (3-1)=rowsW (nO W) by rw [rowsW_drop,rowsW_take]; rfl]
 show Ret (bif ((W.length:Nat):Int) != wantT (byL (W.getD 3 [])) then _ else _) _
 rw [wantT_eq,rowsW_drop]
 have ew:W.getD 3 []=W.getD 3 []:=rfl
 generalize hw3:W.getD 3 []=w at ew
 have hw4:(W.getD 4 []).length≤900000:=getD_le hle9
 have hw5:(W.getD 5 []).length≤900000:=getD_le hle9
 have n4:=numRef (byL (W.getD 4 [])) (by rw [byL_size]; exact hw4)
 have n5:=numRef (byL (W.getD 5 [])) (by rw [byL_size]; exact hw5)
 rw [byL_data] at n4 n5
 have fin:∀ {V:List Int} {b:Bool} (r:List G),V.length=2→(okN (nO W)=true→V=valN (nO W))→(okN (nO W)=true→b=true→r=deedR W (kO W))→restOk W (kO W)=b →
   Ret (bif okN (nO W) then (bif (Nat.beq (rows++[r]).length (rows++[r]).length&&true&&true)&&true then some [G.l (rows++[r]),G.t b] else none) else (bif (Nat.beq (rows++[r]).length (rows++[r]).length&&true&&true)&&true then some [G.l (rows++[r]),G.t false] else none))
    fun g=>∃ rows',g=[G.l rows',G.t (deedOk W)]∧rows'.length≤rows.length+1∧(deedOk W=true→rows'=rows++[deedR W (kO W)]):=fun {V b} r h1 h2 h3 h4=>by
  rw [hok,h4]
  refine Ret.test (fun h=>?_) fun h=>?_
  ·have h : okN (nO W) = true := h
   rw [h,Bool.true_and]
   exact Ret.pos (by simp) (Ret.some ⟨_,rfl,by simp,fun hb=>by rw [h3 h hb]⟩)
  ·have h : okN (nO W) = false := h
   rw [h,Bool.false_and]
   exact Ret.pos (by simp) (Ret.some ⟨_,rfl,by simp,fun hb=>by cases hb⟩)
 by_cases e1:w=[108,111,103]
 ·subst e1
  have hk:=kO_of hw3 ix_log
  refine Ret.test (fun h=>?_) fun h=>?_
  ·have h : (((W.length : Nat) : Int) != ((12 : Nat) : Int)) = true := h
   rw [len_eq,Bool.not_eq_true'] at h
   refine no ?_
   rw [hok,hk,Bool.and_eq_false_iff]
   right
   show conOk (W.drop 4)=false
   unfold conOk
   rw [List.length_drop,show (W.length-4==8)=false by rw [beq_eq_false_iff_ne] at h ⊢; omega,Bool.false_and]
  ·have h : (((W.length : Nat) : Int) != ((12 : Nat) : Int)) = false := h
   rw [len_eq,Bool.not_eq_false',beq_iff_eq] at h
   refine Ret.pos (by rw [leI_eq,decide_eq_true_eq]; omega) ?_
   refine Ret.call hnp ?_
   rintro _ ⟨V,rfl,hV,hv⟩
   have hV:V.length=2:=by rw [hV,hl2]
   (dsimp +instances only [Aa,Ab,Ac,Ad,Ae,Af,Ag])
   rw [rowsI_len,hV,word_test]
   refine Ret.pos (by rw [ltI_eq,decide_eq_true_eq]; omega) (Ret.pos rfl (Ret.pos rfl (Ret.pos (by rw [ltI_eq,decide_eq_true_eq]; omega) (Ret.pos rfl (Ret.pos (by rw [leI_eq,decide_eq_true_eq]; omega) ?_)))))
   refine Ret.call (contactInAny (W.drop 4) fun y hy=>hle9 y (List.mem_of_mem_drop hy)) ?_
   rintro _ ⟨row,rfl,hrow⟩
   (dsimp +instances only [Aa,Ab,Ac,Ad,Ae,Af,Ag])
   rw [rowsW_get W 0 (by omega),rowsI_get V 0 (by omega),rowsI_get V 1 (by omega)]
   refine Ret.p ?_
   refine fin (V:=V) (b:=conOk (W.drop 4)) _ hV hv (fun q1 q2=>?_) (by rw [hk]; rfl)
   rw [hrow q2,hv q1,hk]
   rfl
 by_cases e2:w=[116,117,110,101]
 ·subst e2
  have hk:=kO_of hw3 ix_tune
  refine Ret.test (fun h=>?_) fun h=>?_
  ·have h : (((W.length : Nat) : Int) != ((5 : Nat) : Int)) = true := h
   rw [len_eq,Bool.not_eq_true'] at h
   refine no ?_
   rw [hok,hk,Bool.and_eq_false_iff]
   exact .inr h
  ·have h : (((W.length : Nat) : Int) != ((5 : Nat) : Int)) = false := h
   rw [len_eq,Bool.not_eq_false'] at h
   have h':W.length=5:=by simpa using h
   refine Ret.pos (by rw [leI_eq,decide_eq_true_eq]; omega) ?_
   refine Ret.call hnp ?_
   rintro _ ⟨V,rfl,hV,hv⟩
   have hV:V.length=2:=by rw [hV,hl2]
   (dsimp +instances only [Aa,Ab,Ac,Ad,Ae,Af,Ag])
   rw [rowsI_len,hV,word_test,word_test]
   refine Ret.pos (by rw [ltI_eq,decide_eq_true_eq]; omega) (Ret.pos rfl (Ret.pos rfl (Ret.pos (by rw [ltI_eq,decide_eq_true_eq]; omega) (Ret.neg rfl (Ret.pos rfl (Ret.pos (by rw [ltI_eq,decide_eq_true_eq]; omega) (Ret.p ?_)))))))
   rw [rowsW_get W 0 (by omega),rowsW_get W 4 (by omega),rowsI_get V 0 (by omega),rowsI_get V 1 (by omega)]
   refine fin (V:=V) (b:=true) _ hV hv (fun q1 _=>?_) (by rw [hk]; exact h)
   rw [hv q1,hk]
   rfl
 by_cases e3:w=[104,101,108,100]
 ·subst e3
  have hk:=kO_of hw3 ix_held
  refine Ret.test (fun h=>?_) fun h=>?_
  ·have h : (((W.length : Nat) : Int) != ((5 : Nat) : Int)) = true := h
   rw [len_eq,Bool.not_eq_true'] at h
   refine no ?_
   rw [hok,hk,Bool.and_eq_false_iff]
   right
   show (W.length==5&&isN W 4)=false
   rw [h,Bool.false_and]
  ·have h : (((W.length : Nat) : Int) != ((5 : Nat) : Int)) = false := h
   rw [len_eq,Bool.not_eq_false'] at h
   have h':W.length=5:=by simpa using h
   refine Ret.pos (by rw [leI_eq,decide_eq_true_eq]; omega) ?_
   refine Ret.call hnp ?_
   rintro _ ⟨V,rfl,hV,hv⟩
   have hV:V.length=2:=by rw [hV,hl2]
   (dsimp +instances only [Aa,Ab,Ac,Ad,Ae,Af,Ag])
   rw [rowsI_len,hV,word_test,word_test,word_test]
   refine Ret.pos (by rw [ltI_eq,decide_eq_true_eq]; omega) (Ret.pos rfl (Ret.pos rfl (Ret.pos (by rw [ltI_eq,decide_eq_true_eq]; omega) (Ret.neg rfl (Ret.neg rfl (Ret.pos rfl (Ret.pos (by rw [ltI_eq,decide_eq_true_eq]; omega) ?_)))))))
   rw [rowsW_get W 0 (by omega),rowsW_get W 4 (by omega),rowsI_get V 0 (by omega),rowsI_get V 1 (by omega)]
   refine Ret.call n4 ?_
   rintro _ ⟨n,rfl,hn⟩
   (dsimp +instances only [Aa,Ab,Ac,Ad,Ae,Af,Ag])
   refine Ret.p ?_
   refine fin (V:=V) (b:=isN W 4) _ hV hv (fun q1 q2=>?_) (by rw [hk]; show (W.length==5&&isN W 4)=_; rw [h,Bool.true_and])
   obtain ⟨v,hv4⟩:=Option.isSome_iff_exists.1 (show (numL 15 (W.getD 4 [])).isSome=true from q2)
   have:=hn v hv4
   subst this
   rw [hv q1,hk]
   show _=dRow (byL (W.getD 0 [])) ((valN (nO W)).getD 0 0) ((valN (nO W)).getD 1 0) 3 0 0 eB eB (numN W 4) 0 eB eB eB eB 0
   unfold numN
   rw [hv4]
   rfl
 by_cases e4:w=[102,114,101,101]
 ·subst e4
  have hk:=kO_of hw3 ix_free
  refine Ret.test (fun h=>?_) fun h=>?_
  ·have h : (((W.length : Nat) : Int) != ((5 : Nat) : Int)) = true := h
   rw [len_eq,Bool.not_eq_true'] at h
   refine no ?_
   rw [hok,hk,Bool.and_eq_false_iff]
   right
   show (W.length==5&&isN W 4)=false
   rw [h,Bool.false_and]
  ·have h : (((W.length : Nat) : Int) != ((5 : Nat) : Int)) = false := h
   rw [len_eq,Bool.not_eq_false'] at h
   have h':W.length=5:=by simpa using h
   refine Ret.pos (by rw [leI_eq,decide_eq_true_eq]; omega) ?_
   refine Ret.call hnp ?_
   rintro _ ⟨V,rfl,hV,hv⟩
   have hV:V.length=2:=by rw [hV,hl2]
   (dsimp +instances only [Aa,Ab,Ac,Ad,Ae,Af,Ag])
   rw [rowsI_len,hV,word_test,word_test,word_test,word_test]
   refine Ret.pos (by rw [ltI_eq,decide_eq_true_eq]; omega) (Ret.pos rfl (Ret.pos rfl (Ret.pos (by rw [ltI_eq,decide_eq_true_eq]; omega) (Ret.neg rfl (Ret.neg rfl (Ret.neg rfl (Ret.pos rfl (Ret.pos (by rw [ltI_eq,decide_eq_true_eq]; omega) ?_))))))))
   rw [rowsW_get W 0 (by omega),rowsW_get W 4 (by omega),rowsI_get V 0 (by omega),rowsI_get V 1 (by omega)]
   refine Ret.call n4 ?_
   rintro _ ⟨n,rfl,hn⟩
   (dsimp +instances only [Aa,Ab,Ac,Ad,Ae,Af,Ag])
   refine Ret.p ?_
   refine fin (V:=V) (b:=isN W 4) _ hV hv (fun q1 q2=>?_) (by rw [hk]; show (W.length==5&&isN W 4)=_; rw [h,Bool.true_and])
   obtain ⟨v,hv4⟩:=Option.isSome_iff_exists.1 (show (numL 15 (W.getD 4 [])).isSome=true from q2)
   have:=hn v hv4
   subst this
   rw [hv q1,hk]
   show _=dRow (byL (W.getD 0 [])) ((valN (nO W)).getD 0 0) ((valN (nO W)).getD 1 0) 4 0 0 eB eB (numN W 4) 0 eB eB eB eB 0
   unfold numN
   rw [hv4]
   rfl
 by_cases e5:w=[117,110,100,111]
 ·subst e5
  have hk:=kO_of hw3 ix_undo
  refine Ret.test (fun h=>?_) fun h=>?_
  ·have h : (((W.length : Nat) : Int) != ((6 : Nat) : Int)) = true := h
   rw [len_eq,Bool.not_eq_true'] at h
   refine no ?_
   rw [hok,hk,Bool.and_eq_false_iff]
   right
   show (W.length==6&&isN W 5)=false
   rw [h,Bool.false_and]
  ·have h : (((W.length : Nat) : Int) != ((6 : Nat) : Int)) = false := h
   rw [len_eq,Bool.not_eq_false'] at h
   have h':W.length=6:=by simpa using h
   refine Ret.pos (by rw [leI_eq,decide_eq_true_eq]; omega) ?_
   refine Ret.call hnp ?_
   rintro _ ⟨V,rfl,hV,hv⟩
   have hV:V.length=2:=by rw [hV,hl2]
   (dsimp +instances only [Aa,Ab,Ac,Ad,Ae,Af,Ag])
   rw [rowsI_len,hV,word_test,word_test,word_test,word_test]
   refine Ret.pos (by rw [ltI_eq,decide_eq_true_eq]; omega) (Ret.pos rfl (Ret.pos rfl (Ret.pos (by rw [ltI_eq,decide_eq_true_eq]; omega) (Ret.neg rfl (Ret.neg rfl (Ret.neg rfl (Ret.neg rfl (Ret.pos (by rw [ltI_eq,decide_eq_true_eq]; omega) (Ret.pos (by rw [ltI_eq,decide_eq_true_eq]; omega) ?_)))))))))
   rw [rowsW_get W 0 (by omega),rowsW_get W 4 (by omega),rowsW_get W 5 (by omega),rowsI_get V 0 (by omega),rowsI_get V 1 (by omega)]
   refine Ret.call n5 ?_
   rintro _ ⟨n,rfl,hn⟩
   (dsimp +instances only [Aa,Ab,Ac,Ad,Ae,Af,Ag])
   refine Ret.p ?_
   refine fin (V:=V) (b:=isN W 5) _ hV hv (fun q1 q2=>?_) (by rw [hk]; show (W.length==6&&isN W 5)=_; rw [h,Bool.true_and])
   obtain ⟨v,hv5⟩:=Option.isSome_iff_exists.1 (show (numL 15 (W.getD 5 [])).isSome=true from q2)
   have:=hn v hv5
   subst this
   rw [hv q1,hk]
   show _=dRow (byL (W.getD 0 [])) ((valN (nO W)).getD 0 0) ((valN (nO W)).getD 1 0) 5 0 0 eB eB 0 0 eB eB eB (byL (W.getD 4 [])) (numN W 5)
   unfold numN
   rw [hv5]
   rfl
 ·have f1 : (w == [117, 110, 100, 111]) = false := by simpa using e5
  have f2:(w==[102,114,101,101])=false:=by simpa using e4
  have f3:(w==[104,101,108,100])=false:=by simpa using e3
  have f4:(w==[116,117,110,101])=false:=by simpa using e2
  have f5:(w==[108,111,103])=false:=by simpa using e1
  rw [f1,f2,f3,f4,f5]
  have hk:kO W=0∨kO W = -1:=by
   unfold kO
   rw [hw3]
   exact ix_none e1 e2 e3 e4 e5
  refine Ret.pos (by
   show (((W.length:Nat):Int) != 0)=true
   rw [bne_iff_ne]
   omega) (no ?_)
  rw [hok,Bool.and_eq_false_iff]
  right
  rcases hk with hk | hk<;>rw [hk]<;>rfl
def badAt (L:List (List UInt8)):Nat:=L.findIdx fun p => !goodP p
theorem badAt_here {L:List (List UInt8)} {i:Nat} (hi:i<L.length) (h:(L.take i).all goodP=true) (hb:goodP L[i]=false):badAt L=i:=by
 unfold badAt
 rw [List.findIdx_eq hi]
 refine ⟨by rw [hb]; rfl,fun j hj=>?_⟩
 have hj':j<(L.take i).length:=by rw [List.length_take]; omega
 have:=List.all_eq_true.1 h (L.take i)[j] (List.getElem_mem hj')
 rw [List.getElem_take] at this
 rw [this]
 rfl
theorem badAt_none {L:List (List UInt8)} (h:L.all goodP=true):badAt L=L.length:=by
 unfold badAt
 rw [List.findIdx_eq_length]
 intro p hp
 rw [List.all_eq_true.1 h p hp]
 rfl
theorem txt_drop:∀ (L:List (List UInt8)) (z:List UInt8) (i:Nat),(txtL (L.drop i) z).length≤(txtL L z).length
 | [],z,i=>by simp
 | p::L,z,0=>Nat.le_refl _
 | p::L,z,i+1=>by
  have:=txt_drop L z i
  rw [txtL_cons,List.drop_succ_cons,List.length_append,List.length_cons]
  omega
theorem linesPlain (L:List (List UInt8)) (z:List UInt8) (hL:∀ p∈L,(10:UInt8)∉p) (hz:(10:UInt8)∉z) (hl:(txtL L z).length≤900000) (hn:L.length≤900000) :
  Ret (F_r2_Lines [.l [],.s (byL (txtL L z))]) fun g=>∃ (rows:List (List G)) (k:Int),g=[.l rows,.i k,.t (L.all goodP&&z.isEmpty)]∧((L.all goodP&&z.isEmpty)=true→rows=L.map spotP)∧((L.all goodP&&z.isEmpty)=false→k=(badAt L:Int)):=by
 unfold F_r2_Lines
 (dsimp +instances only [Aa,Ab,Ac,Ad,Ae,Af,Ag])
 refine Ret.loop (P:=fun c g=>(c=1∧(L.all goodP&&z.isEmpty)=true∧g=[.l (L.map spotP)])∨(c=0∧(L.all goodP&&z.isEmpty)=false∧∃ rows:List (List G),g=[.l rows,.i (badAt L:Int),.t false])) ?_ rfl ?_
 ·refine ((count_runs (σ:=Unit) (fun _ i=>[.l ((L.take i).map spotP),.s (byL (txtL (L.drop i) z)),.i (i:Int)]) L.length
   (fun _=>bif z.isEmpty then (1,[.l (L.map spotP)]) else (0,[.l (L.map spotP),.i (L.length:Int),.t false]))
   (fun _ i=>(L.take i).all goodP=true)
   (fun c g=>c=0∧(L.all goodP&&z.isEmpty)=false∧∃ rows:List (List G),g=[.l rows,.i (badAt L:Int),.t false]) ?_ ?_ L.length () 0 (by omega) rfl).to (by omega)).mono ?_
  ·rintro _ i hp hi
   have ht:L.take (i+1)=L.take i++[L[i]]:=by rw [List.take_add_one,List.getElem?_eq_getElem hi]; rfl
   have hd:L.drop i=L[i]::L.drop (i+1):=List.drop_eq_getElem_cons hi
   have hm:L[i]∈L:=List.getElem_mem hi
   have hb:=fun h=>badAt_here hi hp h
   have hlen:(txtL (L.drop i) z).length≤900000:=Nat.le_trans (txt_drop L z i) hl
   rw [hd,txtL_cons] at hlen
   generalize L[i]=p at ht hd hm hb hlen
   unfold st_r2_Lines_2
   (dsimp +instances only [Aa,Ab,Ac,Ad,Ae,Af,Ag])
   rw [hd,emptyL_eq,txtL_cons]
   refine Ret.pos (by simp) ?_
   refine Ret.cE (cutHit p _ (hL p hm) hlen) ?_
   (dsimp +instances only [Aa,Ab,Ac,Ad,Ae,Af,Ag])
   refine Ret.neg rfl ?_
   have hpl:p.length≤900000:=by simp at hlen; omega
   have hml:((L.take i).map spotP).length=i:=by simp; omega
   refine Ret.callb (readPlain ((L.take i).map spotP) p (by omega) hpl) (by simp) ?_
   rintro _ ⟨rows',rfl,hr1,hr2⟩
   (dsimp +instances only [Aa,Ab,Ac,Ad,Ae,Af,Ag])
   refine Ret.test (fun hg=>?_) fun hg=>?_
   ·have hg : goodP p = false := by simpa using hg
    refine Ret.pos (by simp) (Ret.some (.inr ⟨0,_,rfl,rfl,?_,rows',?_⟩))
    ·cases hq : L.all goodP with
     | false=>rfl
     | true=>rw [List.all_eq_true.1 hq p hm] at hg; cases hg
    ·rw [hb hg]
   ·have hg : goodP p = true := by simpa using hg
    refine Ret.p (Ret.pos (by simp) (Ret.some (.inl ⟨(),?_,?_⟩)))
    ·rw [hr2 hg, ht]
     simp
    ·rw [ht, List.all_append, hp]
     simp [hg]
  ·rintro _ hp
   rw [List.take_length] at hp
   unfold st_r2_Lines_2
   (dsimp +instances only [Aa,Ab,Ac,Ad,Ae,Af,Ag])
   rw [List.take_length,List.drop_length,emptyL_eq]
   show Ret (bif !z.isEmpty then callF (F_strings_Cut [.s (byL z),_]) _ else _) _
   cases he:z.isEmpty with
   | true=>exact Ret.neg rfl (Ret.pos (by simp) (Ret.some rfl))
   | false =>
    refine Ret.pos rfl ?_
    refine Ret.cE (cutMiss z hz) ?_
    exact Ret.pos rfl (Ret.pos (by simp) (Ret.some rfl))
  ·rintro c g (⟨_, hp, hc, hg⟩ | h)
   ·rw [List.take_length] at hp
    cases he:z.isEmpty with
    | true =>
     rw [he] at hc hg
     exact .inl ⟨hc,by rw [hp]; rfl,hg⟩
    | false =>
     rw [he] at hc hg
     exact .inr ⟨hc,by rw [Bool.and_false],_,by rw [badAt_none hp]; exact hg⟩
   ·exact .inr h
 ·rintro c g (⟨rfl, hp, rfl⟩ | ⟨rfl, hp, rows, rfl⟩)
  ·rw [hp]
   exact Ret.neg rfl (Ret.pos (by simp) (Ret.some ⟨_,0,rfl,(fun _=>rfl),(fun h=>by cases h)⟩))
  ·rw [hp]
   exact Ret.pos rfl (Ret.pos (by simp) (Ret.some ⟨rows,(badAt L:Int),rfl,(fun h=>by cases h),(fun _=>rfl)⟩))
theorem seen_len (L:List (List UInt8)) (z:List UInt8):(seenL L z).length=bif z.isEmpty then L.length else L.length+1:=by
 unfold seenL
 cases z.isEmpty<;>simp
theorem seen_bad {L:List (List UInt8)} {z:List UInt8} {i:Nat} (hi:i<(seenL L z).length) (hp:((seenL L z).take i).all goodP=true)
  (h:goodP (seenL L z)[i]=false∨(z.isEmpty=false∧i+1=(seenL L z).length)):badAt L=i∧(L.all goodP&&z.isEmpty)=false:=by
 by_cases hiL:i<L.length
 ·have e1:(seenL L z)[i]=L[i]:=by
   have:(seenL L z)[i]? = L[i]? := by
    unfold seenL
    cases z.isEmpty with
    | true=>rfl
    | false=>exact List.getElem?_append_left hiL
   rw [List.getElem?_eq_getElem hi,List.getElem?_eq_getElem hiL] at this
   exact Option.some.inj this
  have e2:(seenL L z).take i=L.take i:=by
   unfold seenL
   cases z.isEmpty with
   | true=>rfl
   | false=>exact List.take_append_of_le_length (by omega)
  rw [e1] at h
  rw [e2] at hp
  have hb:goodP L[i]=false:=by
   rcases h with h | ⟨h1,h2⟩
   ·exact h
   ·rw [seen_len, h1] at h2
    have h2:i+1=L.length+1:=h2
    omega
  refine ⟨badAt_here hiL hp hb,?_⟩
  cases hq:L.all goodP with
  | false=>rfl
  | true =>
   rw [List.all_eq_true.1 hq _ (List.getElem_mem hiL)] at hb
   cases hb
 ·have hz:z.isEmpty=false:=by
   cases hz:z.isEmpty with
   | false=>rfl
   | true =>
    rw [seen_len,hz] at hi
    exact (hiL hi).elim
  have e2:i=L.length:=by
   rw [seen_len,hz] at hi
   have hi:i<L.length+1:=hi
   omega
  have e3:(seenL L z).take i=L:=by
   unfold seenL
   rw [hz,e2]
   simp
  rw [e3] at hp
  exact ⟨by rw [badAt_none hp,e2],by rw [hz,Bool.and_false]⟩
theorem deedR_eta (W:List (List UInt8)) (k:Int):gEta KDeed (deedR W k)=deedR W k:=by
 unfold deedR
 cases k==1
 ·cases k == 2
  ·cases k==5<;>rfl
  ·rfl
 ·rfl
theorem readLineD (p:List UInt8) (hp:p.length≤900000):Ret (F_net_readDeed [.s (byL p)]) fun g=>∃ row,g=[.l [row],.t (goodP p)]∧(goodP p=true→row=spotP p):=readDeedAny p hp
theorem readNetAny (L:List (List UInt8)) (z:List UInt8) (hL:∀ p∈L,(10:UInt8)∉p) (hz:(10:UInt8)∉z) (hl:(txtL L z).length≤200000) (hn:L.length≤200000) (e:Int) (he:F_net_CheckDeeds [.l (L.map spotP)]=some [.i e]) :
  F_net_Read [.s (byL (txtL L z))]=some (bif L.all goodP&&z.isEmpty then (bif e != 0 then [.l [],.i 0,.i e] else [.l (L.map spotP),.i 0,.i 0]) else [.l [],.i (badAt L:Int),.i 9]):=by
 have hle:=txt_len_le L z
 have hsl:=seen_len L z
 have hnn:(seenL L z).length≤200001:=by
  rw [hsl]
  cases z.isEmpty
  ·show L.length + 1 ≤ 200001
   omega
  ·show L.length ≤ 200001
   omega
 have hseen:∀ p∈seenL L z,p.length≤200000:=by
  intro p hp
  unfold seenL at hp
  have h1:p∈L→p.length≤200000:=fun h=>Nat.le_trans (hle.1 p h) hl
  cases hze:z.isEmpty with
  | true=>rw [hze] at hp; exact h1 hp
  | false =>
   rw [hze] at hp
   rcases List.mem_append.1 hp with hp | hp
   ·exact h1 hp
   ·rw [List.mem_singleton.1 hp]
    exact Nat.le_trans hle.2 hl
 refine Ret.toEq ?_
 unfold F_net_Read
 (dsimp +instances only [Aa,Ab,Ac,Ad,Ae,Af,Ag])
 refine Ret.neg (by rw [byL_size,ltI_eq,decide_eq_false_iff_not]; omega) ?_
 refine Ret.cE (linesAny L z hL hz (by omega)) ?_
 (dsimp +instances only [Aa,Ab,Ac,Ad,Ae,Af,Ag])
 rw [rowsW_len]
 refine Ret.loop (P:=fun c g=>(c=1∧(L.all goodP&&z.isEmpty)=true∧g=[.l (L.map spotP)])∨(c=0∧(L.all goodP&&z.isEmpty)=false∧g=[.l [],.i (badAt L:Int),.i 9])) ?_ rfl ?_
 ·have hI : z.isEmpty = false → 0 < (seenL L z).length := fun h => by rw [hsl, h]; exact Nat.succ_pos _
  have hfinal:(seenL L z).all goodP=true→(z.isEmpty=false→(seenL L z).length<(seenL L z).length)→(L.all goodP&&z.isEmpty)=true∧seenL L z=L:=fun h1 h2=>by
   cases hze:z.isEmpty with
   | false=>exact absurd (h2 hze) (Nat.lt_irrefl _)
   | true =>
    have e1:seenL L z=L:=by unfold seenL; rw [hze]; rfl
    rw [e1] at h1
    exact ⟨by rw [h1]; rfl,e1⟩
  have hbad:=@seen_bad L z
  generalize seenL L z=S at *
  refine ((count_runs (σ:=Unit) (fun _ i=>[.l ((S.take i).map spotP),.l (rowsW S),.t z.isEmpty,.l (rowsW S),.i (S.length:Int),.i (i:Int)]) S.length
   (fun _=>(1,[.l (S.map spotP)]))
   (fun _ i=>(S.take i).all goodP=true∧(z.isEmpty=false→i<S.length))
   (fun c g=>c=0∧(L.all goodP&&z.isEmpty)=false∧g=[.l [],.i (badAt L:Int),.i 9]) ?_ ?_ S.length () 0 (by omega) ⟨rfl,hI⟩).to (by omega)).mono ?_
  ·rintro _ i ⟨hp, hlast⟩ hi
   have ht:S.take (i+1)=S.take i++[S[i]]:=by rw [List.take_add_one,List.getElem?_eq_getElem hi]; rfl
   have hm:S[i]∈S:=List.getElem_mem hi
   have hb:=hbad hi hp
   have hg:=rowsW_at S i hi
   generalize S[i]=p at ht hm hb hg
   have hpl:=hseen p hm
   have hpl:p.length≤900000:=by omega
   have hml:((S.take i).map spotP).length=i:=by simp; omega
   have err:badAt L=i∧(L.all goodP&&z.isEmpty)=false→∀ {Q:Option Nat × List G→Prop},(∀ c g,(c=0∧(L.all goodP&&z.isEmpty)=false∧g=[.l [],.i (badAt L:Int),.i 9])→Q (some c,g))→Ret (some (some 0,[G.l [],G.i (i:Int),G.i 9])) Q:=fun h Q hQ =>
    Ret.some (hQ 0 _ ⟨rfl,h.2,by rw [h.1]⟩)
   have hrl:=readLineD p hpl
   unfold st_net_Read_6
   (dsimp +instances only [Aa,Ab,Ac,Ad,Ae,Af,Ag])
   rw [rowsW_len]
   refine Ret.p (Ret.p ?_)
   simp only [Int.toNat_natCast,hg]
   (dsimp +instances only [Aa,Ab,Ac,Ad,Ae,Af,Ag])
   refine Ret.call hrl ?_
   rintro _ ⟨row,rfl,hrow⟩
   cases h3:goodP p with
   | false=>exact Ret.pos rfl (err (hb (.inl h3)) fun c g h=>.inr ⟨c,g,rfl,h⟩)
   | true =>
    refine Ret.neg rfl ?_
    have step:(z.isEmpty=false→i+1<S.length)→((S.take i).map spotP++[gEta KDeed row])=(S.take (i+1)).map spotP∧((S.take (i+1)).all goodP=true∧(z.isEmpty=false→i+1<S.length)):=fun h2=>by
     refine ⟨?_,?_,h2⟩
     ·rw [ht, List.map_append, List.map_singleton, hrow h3]
      show _++[gEta KDeed (deedR _ _)]=_
      rw [deedR_eta]
      rfl
     ·rw [ht, List.all_append, hp, List.all_cons, h3]
      rfl
    cases hze:z.isEmpty with
    | true =>
     obtain ⟨s1,s2⟩:=step (fun h=>by rw [hze] at h; cases h)
     refine Ret.neg rfl (Ret.p (Ret.p (Ret.pos (by simp) (Ret.some (.inl ⟨(),?_,?_⟩)))))
     ·(dsimp +instances only [Aa,Ab,Ac,Ad,Ae,Af,Ag])
      rw [show (G.l [row]).row=row from rfl,s1]
      rfl
     ·rw [hze] at s2
      exact s2
    | false =>
     refine Ret.pos rfl (Ret.p ?_)
     cases h4:((i:Int)==(S.length:Int)-1) with
     | true =>
      have h4:(i:Int)=(S.length:Int)-1:=by simpa using h4
      exact Ret.pos rfl (err (hb (.inr ⟨hze,by omega⟩)) fun c g h=>.inr ⟨c,g,rfl,by rw [hze] at h; exact h⟩)
     | false =>
      have h4:(i:Int)≠(S.length:Int)-1:=by simpa using h4
      obtain ⟨s1,s2⟩:=step (fun _=>by omega)
      refine Ret.neg rfl (Ret.p (Ret.p (Ret.pos (by simp) (Ret.some (.inl ⟨(),?_,?_⟩)))))
      ·(dsimp +instances only [Aa,Ab,Ac,Ad,Ae,Af,Ag])
       rw [show (G.l [row]).row=row from rfl,s1]
       rfl
      ·rw [hze] at s2
       exact s2
  ·rintro _ ⟨hp, hlast⟩
   unfold st_net_Read_6
   (dsimp +instances only [Aa,Ab,Ac,Ad,Ae,Af,Ag])
   rw [rowsW_len,List.take_length]
   exact Ret.n (Ret.pos (by simp) (Ret.some rfl))
  ·rintro c g (⟨_, ⟨hp, hlast⟩, rfl, rfl⟩ | h)
   ·rw [List.take_length] at hp
    have h:=hfinal hp hlast
    exact .inl ⟨rfl,h.1,by rw [h.2]⟩
   ·exact .inr h
 ·rintro c g (⟨rfl, hp, rfl⟩ | ⟨rfl, hp, rfl⟩)
  ·rw [hp]
   (dsimp +instances only [Aa,Ab,Ac,Ad,Ae,Af,Ag])
   refine Ret.neg rfl ?_
   refine Ret.callb (Ret.eq he) (by simp) ?_
   rintro _ rfl
   (dsimp +instances only [Aa,Ab,Ac,Ad,Ae,Af,Ag])
   cases hq:(e != 0) with
   | true=>exact Ret.pos rfl (Ret.some rfl)
   | false=>exact Ret.neg rfl (Ret.pos (by simp) (Ret.some rfl))
  ·rw [hp]
   exact Ret.pos rfl (Ret.some rfl)
theorem ascii_app {a b:ByteArray} (ha:asciiB a=true) (hb:asciiB b=true):asciiB (a++b)=true:=by
 unfold asciiB at *
 rw [show (a++b).data.toList=a.data.toList++b.data.toList by simp,List.all_append,ha,hb]
 rfl
theorem rune_ascii (b:UInt8) (h:b.toNat<128):(Utf8.encode (IntKind.i32.wrap (b.toNat:Int))).data.toList=[b]:=by
 have:=all_bytes (fun b => !(Nat.blt b.toNat 128)||(Utf8.encode (IntKind.i32.wrap (b.toNat:Int))).data.toList==[b]) (by kernel_rfl) b
 have h':Nat.blt b.toNat 128=true:=by rw [Nat.blt_eq]; exact h
 rw [h'] at this
 simpa using this
theorem r_Changed (l:List (List G)) (a:Int) (t w:ByteArray) (ha:0≤a) (ha1:a≤900000) (ht:asciiB t=true) (hw:asciiB w=true) (ht1:t.size≤900000) (hw0:0<w.size) (hw1:w.size≤100) :
  Ret (F_mk_Changed [.l l,.i a,.s t,.s w]) fun g=>∃ b t',g=[.l l,.i b,.s t']∧a≤b∧b≤a+3∧asciiB t'=true∧t'.size≤t.size+100:=by
 unfold F_mk_Changed
 (dsimp +instances only [Aa,Ab,Ac,Ad,Ae,Af,Ag])
 have e0:∀ s:ByteArray,(s.toList==(⟨#[]⟩:ByteArray).toList)=Nat.beq s.size 0:=fun s=>by
  rw [←byL_of s,emptyL_eq,byL_size]
  cases s.data.toList<;>rfl
 rw [e0,e0]
 refine Ret.test (fun h0=>Ret.some ⟨a,w,rfl,by omega,by omega,hw,by omega⟩) fun h0=>?_
 have h0:0<t.size:=by
  rcases Nat.eq_zero_or_pos t.size with h | h
  ·rw [h] at h0; cases h0
  ·exact h
 refine Ret.neg (by cases hq:w.size with
  | zero=>omega
  | succ n=>rfl) ?_
 refine Ret.call (r_Next l a _ (by omega) (by omega) (by omega) (by omega)) ?_
 rintro _ ⟨i,rfl,hi0,hi1⟩
 (dsimp +instances only [Aa,Ab,Ac,Ad,Ae,Af,Ag])
 refine Ret.call (r_Next l _ _ (by omega) (by omega) (by omega) (by omega)) ?_
 rintro _ ⟨j,rfl,hj0,hj1⟩
 (dsimp +instances only [Aa,Ab,Ac,Ad,Ae,Af,Ag])
 refine Ret.p ?_
 refine Ret.call (r_Next l _ 3 (by omega) (by omega) (by omega) (by omega)) ?_
 rintro _ ⟨k,rfl,hk0,hk1⟩
 (dsimp +instances only [Aa,Ab,Ac,Ad,Ae,Af,Ag])
 obtain ⟨i,rfl⟩:=Int.eq_ofNat_of_zero_le hi0
 obtain ⟨j,rfl⟩:=Int.eq_ofNat_of_zero_le hj0
 simp only [Int.toNat_natCast,Int.ofNat_eq_natCast] at *
 have hc:=ascii_get hw (i:=j) (by omega)
 have hr:=rune_ascii _ hc
 generalize hu:Utf8.encode (IntKind.i32.wrap ((w.data.toList.getD j 0).toNat:Int))=u at hr
 have hua:asciiB u=true:=by
  unfold asciiB
  rw [hr]
  simp only [List.all_cons,List.all_nil,Bool.and_true,Nat.blt_eq]
  exact hc
 have hus:u.size=1:=by rw [Lib.size_eq,hr]; rfl
 have e1:((i:Int)+1).toNat=i+1:=by omega
 rw [e1]
 have s1:(t.extract 0 i).size=i:=by rw [ByteArray.size_extract]; omega
 have s2:(t.extract i t.size).size=t.size-i:=by rw [ByteArray.size_extract]; omega
 have s3:(t.extract (i+1) t.size).size=t.size-(i+1):=by rw [ByteArray.size_extract]; omega
 have a1:=ascii_front ht i
 have a2:=ascii_back ht i
 have a3:=ascii_back ht (i+1)
 simp only [ByteArray.size_append,s1,s2,s3,hus]
 refine Ret.test (fun _=>?_) fun _=>?_
 ·refine Ret.p (Ret.pos (by rw [Nat.ble_eq]; omega) (Ret.p (Ret.p (Ret.pos (by rw [Nat.ble_eq]; omega) (Ret.some ⟨_, _, rfl, by omega, by omega, ascii_app (ascii_app a1 hua) a3, ?_⟩)))))
  simp only [ByteArray.size_append,s1,s3,hus]
  omega
 refine Ret.test (fun _=>?_) fun _=>?_
 ·refine Ret.p (Ret.pos (by rw [Nat.ble_eq]; omega) (Ret.p (Ret.pos (by rw [Nat.ble_eq]; omega) (Ret.some ⟨_, _, rfl, by omega, by omega, ascii_app (ascii_app a1 hua) a2, ?_⟩))))
  simp only [ByteArray.size_append,s1,s2,hus]
  omega
 ·clear hu hr hua hc h0
  have hi2:i<t.size:=by omega
  refine Ret.pos (by rw [Bool.and_eq_true,nnI_eq,leI_eq,decide_eq_true_eq,decide_eq_true_eq]; omega) ?_
  refine Ret.pos (inI_iff.2 ⟨by omega,by omega⟩) ?_
  refine Ret.pos (by rw [Bool.and_eq_true,nnI_eq,leI_eq,decide_eq_true_eq,decide_eq_true_eq]; omega) ?_
  refine Ret.pos (by rw [Nat.ble_eq]; omega) ?_
  refine Ret.some ⟨_,_,rfl,by omega,by omega,ascii_app a1 a3,?_⟩
  simp only [ByteArray.size_append,s1,s3]
  omega
def AscL (l:List UInt8):Prop:=∀ b∈l,b.toNat<128
theorem ascL_byL {l:List UInt8} (h:AscL l):asciiB (byL l)=true:=by
 unfold asciiB
 rw [byL_data,List.all_eq_true]
 exact fun b hb=>by rw [Nat.blt_eq]; exact h b hb
theorem calls_ascii:(calls.all asciiB)=true:=by kernel_rfl
theorem ascL_call {c:ByteArray} (h:c∈calls):AscL c.data.toList:=fun b hb=>by
 have:=List.all_eq_true.1 (List.all_eq_true.1 calls_ascii c h) b hb
 simpa [Nat.blt_eq] using this
theorem ascL_itoa {n:Int} (h:0≤n):AscL (Lib.itoa n):=fun b hb=>by
 unfold Lib.itoa at hb
 rw [if_neg (by omega)] at hb
 have:=dec_mem _ b hb
 omega
theorem bands_ascii:(bands.all asciiB)=true:=by kernel_rfl
theorem names_ascii:(names.all asciiB)=true:=by kernel_rfl
theorem ascL_of {s:ByteArray} (h:asciiB s=true):AscL s.data.toList:=fun b hb=>by
 have:=List.all_eq_true.1 h b hb
 simpa [Nat.blt_eq] using this
theorem ascL_joinW:∀ (x:List UInt8) (xs:List (List UInt8)),(∀ w∈x::xs,AscL w)→AscL (Lib.join (x::xs) [32])
 | x,[],h=>by
  rw [Lib.join_one]
  exact h x List.mem_cons_self
 | x,y::ys,h=>by
  have ih:=ascL_joinW y ys fun w hw=>h w (List.mem_cons_of_mem x hw)
  rw [join_two]
  intro b hb
  rcases List.mem_append.1 hb with hb | hb
  ·exact h x List.mem_cons_self b hb
  ·rcases List.mem_cons.1 hb with rfl | hb
   ·decide
   ·exact ih b hb
theorem ascL_lineW {x:List UInt8} {xs:List (List UInt8)} (h:∀ w∈x::xs,AscL w):AscL (lineL (x::xs)):=by
 intro b hb
 unfold lineL at hb
 rcases List.mem_append.1 hb with hb | hb
 ·exact ascL_joinW x xs h b hb
 ·rw [List.mem_singleton.1 hb]
  decide
theorem ascL_dash {l:List UInt8} (h:AscL l):AscL (dashL l):=by
 cases l with
 | nil =>
  intro b hb
  have hb:b∈[(45:UInt8)]:=hb
  rw [List.mem_singleton.1 hb]
  decide
 | cons x r=>exact h
theorem ascL_mode {m:Int} (h:m=1∨m=2∨m=3):AscL (modeW m).data.toList:=by
 rcases h with rfl | rfl | rfl
 ·exact ascL_of (show asciiB (⟨#[99,111,100,101]⟩:ByteArray)=true from by kernel_rfl)
 ·exact ascL_of (show asciiB (⟨#[118,111,105,99,101]⟩:ByteArray)=true from by kernel_rfl)
 ·exact ascL_of (show asciiB (⟨#[100,97,116,97]⟩:ByteArray)=true from by kernel_rfl)
theorem deedP_A {s:ByteArray} (h:asciiB s=true) {p:List UInt8} (hp:∀ b∈p,b∈s.data.toList) (hl:p.length≤200000):DedA (spotP p):=by
 unfold spotP
 have hWm:∀ y∈piecesL 32 p,(∀ b∈y,b∈s.data.toList)∧y.length≤200000:=fun y hy=>⟨fun b hb=>hp b (pieces_mem hy b hb),Nat.le_trans (piece_le hy) hl⟩
 generalize piecesL 32 p=W at hWm
 have hsub:∀ (V:List (List UInt8)),(∀ y∈V,y∈W)→∀ i (w:List UInt8),(∀ b∈w,b∈V.getD i [])→w.length≤(V.getD i []).length→StrA (byL w):=fun V hV i w h1 h2=>by
  refine ⟨ascii_sub h fun b hb=>?_,?_⟩
  ·obtain ⟨y, hy, hb⟩ := getD_mem (h1 b hb)
   exact (hWm y (hV y hy)).1 b hb
  ·rw [byL_size]
   have:=getD_le (W:=V) (i:=i) fun y hy=>(hWm y (hV y hy)).2
   omega
 have hw:∀ i,StrA (byL (W.getD i [])):=fun i=>hsub W (fun _ h=>h) i _ (fun _ h=>h) (Nat.le_refl _)
 have hd:∀ y∈W.drop 4,y∈W:=fun y hy=>List.mem_of_mem_drop hy
 have hk:smallA (kO W):=(ix_small _ _ (by decide)).1
 have z:smallA 0:=⟨by omega,by omega⟩
 have ze:StrA eB:=⟨by rfl,by show 0≤900000; omega⟩
 generalize kO W=k at hk
 unfold deedR
 cases k==1 with
 | true=>exact ⟨_,_,_,_,_,_,_,_,_,_,_,_,_,_,_,rfl,hw 0,val_small _ 0,val_small _ 1,hk,⟨val_small _ 0,(ix_small _ _ (by decide)).1,hsub _ hd 2 _ (fun _ h=>h) (Nat.le_refl _),hsub _ hd 3 _ (fun _ h=>h) (Nat.le_refl _),val_small _ 1,val_small _ 2,hsub _ hd 5 _ (und_sub _).1 (und_sub _).2,hsub _ hd 7 _ (und_sub _).1 (und_sub _).2⟩,ze,ze,z⟩
 | false =>
 cases k==2 with
 | true=>exact ⟨_,_,_,_,_,_,_,_,_,_,_,_,_,_,_,rfl,hw 0,val_small _ 0,val_small _ 1,hk,⟨z,z,ze,ze,z,z,ze,ze⟩,hw 4,ze,z⟩
 | false =>
 cases k==5 with
 | true=>exact ⟨_,_,_,_,_,_,_,_,_,_,_,_,_,_,_,rfl,hw 0,val_small _ 0,val_small _ 1,hk,⟨z,z,ze,ze,z,z,ze,ze⟩,ze,hw 4,num_small⟩
 | false=>exact ⟨_,_,_,_,_,_,_,_,_,_,_,_,_,_,_,rfl,hw 0,val_small _ 0,val_small _ 1,hk,⟨z,z,ze,ze,num_small,z,ze,ze⟩,ze,ze,z⟩
theorem bothD {s:ByteArray} (ha:asciiB s=true) {L:List (List UInt8)} {z:List UInt8} (ht:s.data.toList=txtL L z) (hL:∀ p∈L,(10:UInt8)∉p) (hz:(10:UInt8)∉z) (hl:(txtL L z).length≤200000) (hn:L.length≤200000)
  (hsp:∀ r∈L.map spotP,DedA r) (e:Int) (hc:F_net_CheckDeeds [.l (L.map spotP)]=some [.i e]) (hf:F_r2_DeedsFault [.l (L.map spotP)]=some [.i e]) (he:e=0→(L.map spotP).length≤2000) :
  ∃ (rows:List (List G)) (k e:Int),(∀ z∈rows,DedA z)∧rows.length≤2000∧F_net_Read [.s s]=some [.l rows,.i k,.i e]∧F_r2_DeedsRead [.s s]=some [.l rows,.i k,.i e]:=by
 have hz':=Lib.size_eq s
 rw [ht] at hz'
 have h1:=readNetAny L z hL hz hl hn _ hc
 have hb:byL (txtL L z)=s:=by rw [←ht]; exact byL_of s
 rw [hb] at h1
 have h2:F_r2_DeedsRead [.s s]=some (bif L.all goodP&&z.isEmpty then (bif e != 0 then [.l [],.i 0,.i e] else [.l (L.map spotP),.i 0,.i 0]) else [.l [],.i (badAt L:Int),.i 9]):=by
  refine Ret.toEq ?_
  unfold F_r2_DeedsRead
  (dsimp +instances only [Aa,Ab,Ac,Ad,Ae,Af,Ag])
  refine Ret.neg (by rw [ltI_eq,decide_eq_false_iff_not]; omega) ?_
  have h3:=linesPlain L z hL hz (by omega) (by omega)
  rw [hb] at h3
  refine Ret.call h3 ?_
  rintro _ ⟨rows,k,rfl,h4,h5⟩
  (dsimp +instances only [Aa,Ab,Ac,Ad,Ae,Af,Ag])
  cases hok:(L.all goodP&&z.isEmpty) with
  | false =>
   rw [h5 hok]
   exact Ret.pos rfl (Ret.some rfl)
  | true =>
   have h4:=h4 hok
   subst h4
   refine Ret.neg rfl ?_
   refine Ret.callb (Ret.eq hf) (by simp) ?_
   rintro _ rfl
   (dsimp +instances only [Aa,Ab,Ac,Ad,Ae,Af,Ag])
   cases hq:(e != 0) with
   | true=>exact Ret.pos rfl (Ret.some rfl)
   | false=>exact Ret.neg rfl (Ret.pos (by simp) (Ret.some rfl))
 cases hok:(L.all goodP&&z.isEmpty) with
 | false =>
  rw [hok] at h1 h2
  exact ⟨[],_,9,(fun z hz=>by cases hz),Nat.zero_le _,h1,h2⟩
 | true =>
  rw [hok] at h1 h2
  cases hq:(e != 0) with
  | true =>
   rw [hq] at h1 h2
   exact ⟨[],0,_,(fun z hz=>by cases hz),Nat.zero_le _,h1,h2⟩
  | false =>
   rw [hq] at h1 h2
   exact ⟨L.map spotP,0,0,hsp,he (by simpa using hq),h1,h2⟩
theorem readBothD (s:ByteArray) (ha:asciiB s=true):∃ (rows:List (List G)) (k e:Int),(∀ z∈rows,DedA z)∧rows.length≤2000∧F_net_Read [.s s]=some [.l rows,.i k,.i e]∧F_r2_DeedsRead [.s s]=some [.l rows,.i k,.i e]:=by
 by_cases hs:200000<s.size
 ·refine ⟨[], 0, 2, (fun z hz => by cases hz), Nat.zero_le _, ?_, ?_⟩
  ·refine Ret.toEq ?_
   unfold F_net_Read
   (dsimp +instances only [Aa,Ab,Ac,Ad,Ae,Af,Ag])
   exact Ret.pos (by rw [ltI_eq,decide_eq_true_eq]; omega) (Ret.some rfl)
  ·refine Ret.toEq ?_
   unfold F_r2_DeedsRead
   (dsimp +instances only [Aa,Ab,Ac,Ad,Ae,Af,Ag])
   exact Ret.pos (by rw [ltI_eq,decide_eq_true_eq]; omega) (Ret.some rfl)
 obtain ⟨L,z,ht,hL,hz,hn⟩:=txt_of s.data.toList
 have hz':=Lib.size_eq s
 have hl:(txtL L z).length≤200000:=by rw [←ht]; omega
 have hle:=txt_len_le L z
 have hsp:∀ r∈L.map spotP,DedA r:=fun r hr=>by
  obtain ⟨p,hp,rfl⟩:=List.mem_map.1 hr
  exact deedP_A ha (fun b hb=>by rw [ht]; exact txt_mem L z p hp b hb) (Nat.le_trans (hle.1 p hp) hl)
 by_cases hbig:2000<L.length
 ·have hc:F_net_CheckDeeds [.l (L.map spotP)]=some [.i 2]:=by
   refine Ret.toEq ?_
   unfold F_net_CheckDeeds
   (dsimp +instances only [Aa,Ab,Ac,Ad,Ae,Af,Ag])
   exact Ret.pos (by rw [List.length_map,ltI_eq,decide_eq_true_eq]; omega) (Ret.some rfl)
  have hf:F_r2_DeedsFault [.l (L.map spotP)]=some [.i 2]:=by
   refine Ret.toEq ?_
   unfold F_r2_DeedsFault
   (dsimp +instances only [Aa,Ab,Ac,Ad,Ae,Af,Ag])
   exact Ret.pos (by rw [List.length_map,ltI_eq,decide_eq_true_eq]; omega) (Ret.some rfl)
  exact bothD ha ht hL hz hl (by omega) hsp 2 hc hf (fun h=>by cases h)
 ·exact bothD ha ht hL hz hl (by omega) hsp _ ((checkDeeds_eqA _ hsp (by rw [List.length_map]; omega)).1) ((deedsFault_eqA _ hsp (by rw [List.length_map]; omega)).1) (fun _=>by rw [List.length_map]; omega)
/-! ### What the plain form writes -/
theorem numbersT (a b:Int) (ha:0≤a∧a≤345686399999) (hb:0≤b∧b≤345686399999):F_r2_Numbers [.l [[.i a],[.i b]]]=some [.s (byL (Lib.itoa a++32::Lib.itoa b))]:=numbersTwo a b ha hb
theorem linesD (x:List (List G)) (hx:∀ z∈x,Ded z) (hW:∀ z∈x,DedW z) (hn:x.length≤20):F_r2_DeedLines [.l x]=some [.s (byL (textL (x.map wordsD)))]:=by
 refine Ret.toEq ?_
 unfold F_r2_DeedLines
 (dsimp +instances only [Aa,Ab,Ac,Ad,Ae,Af,Ag])
 have r:=range_all (st:=st_r2_DeedLines_3) (σ:=Unit) (fun _ i=>[.s (byL (textL ((x.take i).map wordsD))),.l x,.i (x.length:Int),.i (i:Int)]) x (fun _=>(0,[.s (byL (textL (x.map wordsD)))])) (fun _ _=>True) () (by omega) trivial
  (fun _ i z _ hi hz hm ht => by
   have hl:=wordsD_len (hW z hm)
   have ht1:(textL ((x.take i).map wordsD)).length≤300*(x.take i).length:=textL_len fun w hw=>wordsD_len (hW w (List.mem_of_mem_take hw))
   have ht2:(x.take i).length≤20:=by rw [List.length_take]; omega
   obtain ⟨si,no,at_,kd,t,m,b,c,s,h,u,y,bd,of_,ot,rfl,hsi,hno,hat,htl⟩:=hW z hm
   have e:wordsD (dRow si no at_ kd t m b c s h u y bd of_ ot)=si.data.toList::Lib.itoa no::Lib.itoa at_::kindL kd::tailD kd t m b c s h u y bd of_ ot:=rfl
   obtain ⟨q1,q2,q3,q4⟩:=htl.tail
   have l1:=len_itoa (n:=no) (by omega) (by omega)
   have l2:=len_itoa hat.1 hat.2
   have hk:=htl.kind
   have l4:=hsi.2
   have ht':textL ((x.take (i+1)).map wordsD)=textL ((x.take i).map wordsD)++(si.data.toList++([32]++(Lib.itoa no++([32]++(Lib.itoa at_++([32]++(kindL kd++([32]++lineL (tailD kd t m b c s h u y bd of_ ot))))))))):=by
    rw [ht,List.map_append,List.map_singleton,textL_snoc,e,line_cons _ (by simp),line_cons _ (by simp),line_cons _ (by simp),line_cons _ q1]
   generalize textL ((x.take i).map wordsD)=A at ht' ht1
   obtain ⟨S,rfl⟩:∃ S,si=byL S:=⟨_,(byL_of si).symm⟩
   rw [byL_data] at ht' l4
   have one:(⟨#[10]⟩:ByteArray)=byL [10]:=rfl
   unfold st_r2_DeedLines_3
   (dsimp +instances only [Aa,Ab,Ac,Ad,Ae,Af,Ag])
   simp only [Int.toNat_natCast,hz]
   refine Ret.p (Ret.p ?_)
   unfold dRow
   (dsimp +instances only [Aa,Ab,Ac,Ad,Ae,Af,Ag])
   simp only [spaceB,one,byL_append,byL_size,List.length_append,List.length_cons,List.length_nil]
   refine Ret.pos (by rw [Nat.ble_eq]; omega) ?_
   refine Ret.cE (numbersT no at_ (by omega) hat) ?_
   (dsimp +instances only [Aa,Ab,Ac,Ad,Ae,Af,Ag])
   simp only [byL_append,byL_size,List.length_append,List.length_cons,List.length_nil]
   refine Ret.pos (by rw [Nat.ble_eq]; omega) (Ret.pos (by rw [Nat.ble_eq]; omega) (Ret.pos (by rw [Nat.ble_eq]; omega) ?_))
   have last:∀ {B:List UInt8},B=A++(S++([32]++(Lib.itoa no++([32]++(Lib.itoa at_++([32]++(kindL kd++([32]++lineL (tailD kd t m b c s h u y bd of_ ot))))))))) →
     Ret (some ((none:Option Nat),[G.s (byL B),G.l x,G.i (x.length:Int),G.i ((i:Int)+1)])) fun o=>∃ s',o=(none,(fun (_:Unit) i=>[G.s (byL (textL ((x.take i).map wordsD))),.l x,.i (x.length:Int),.i (i:Int)]) s' (i+1))∧True:=fun hB=>by
    refine Ret.some ⟨(),?_,trivial⟩
    rw [hB,←ht']
    rfl
   rcases htl with ⟨rfl,w,rfl,rfl,rfl⟩ | ⟨rfl,rfl,rfl,rfl,rfl,rfl,rfl,rfl,rfl,w,rfl,rfl⟩ | ⟨rfl,rfl,rfl,rfl,rfl,rfl,rfl,rfl,rfl,rfl,w,w2⟩ | ⟨hk2,rfl,rfl,rfl,rfl,w,rfl,rfl,rfl,rfl,rfl,rfl⟩
   ·refine Ret.pos rfl ?_
    have l5:=wordsC_len w
    have l6:(Lib.join (wordsC [G.i t,G.i m,G.s b,G.s c,G.i s,G.i h,G.s u,G.s y]) [32]).length+1≤160:=by simpa [lineL] using l5
    refine Ret.cE (lineRef w) ?_
    (dsimp +instances only [Aa,Ab,Ac,Ad,Ae,Af,Ag])
    rw [show (⟨#[108,111,103,32]⟩:ByteArray)=byL [108,111,103,32] from rfl]
    simp only [byL_append,byL_size,List.length_append,List.length_cons,List.length_nil]
    refine Ret.pos (by rw [Nat.ble_eq]; omega) (Ret.pos (by rw [Nat.ble_eq]; omega) (Ret.pos (by rw [Nat.ble_eq]; omega) (Ret.p (last ?_))))
    have e1:tailD 1 t m b c s h u y e0 e0 0=wordsC [.i t,.i m,.s b,.s c,.i s,.i h,.s u,.s y]:=rfl
    rw [e1]
    unfold lineL
    simp only [kindL,List.append_assoc,List.cons_append,List.nil_append,if_true]
   ·refine Ret.neg rfl (Ret.pos rfl ?_)
    have lb:=w.2
    obtain ⟨D,rfl⟩:∃ D,bd=byL D:=⟨_,(byL_of bd).symm⟩
    rw [byL_data] at lb
    rw [show (⟨#[116,117,110,101,32]⟩:ByteArray)=byL [116,117,110,101,32] from rfl]
    simp only [byL_append,byL_size,List.length_append,List.length_cons,List.length_nil]
    refine Ret.pos (by rw [Nat.ble_eq]; omega) (Ret.pos (by rw [Nat.ble_eq]; omega) (Ret.pos (by rw [Nat.ble_eq]; omega) (Ret.p (last ?_))))
    have e1:tailD 2 0 0 e0 e0 0 0 e0 e0 (byL D) e0 0=[D]:=by
     show [(byL D).data.toList]=[D]
     rw [byL_data]
    rw [e1]
    unfold lineL
    rw [Lib.join_one]
    simp [kindL]
   ·refine Ret.neg rfl (Ret.neg rfl (Ret.neg rfl (Ret.neg rfl ?_)))
    have lb:=w.2
    have lo:=len_itoa (n:=ot) (by omega) (by omega)
    obtain ⟨D,rfl⟩:∃ D,of_=byL D:=⟨_,(byL_of of_).symm⟩
    rw [byL_data] at lb
    rw [show (⟨#[117,110,100,111,32]⟩:ByteArray)=byL [117,110,100,111,32] from rfl]
    simp only [byL_append,byL_size,List.length_append,List.length_cons,List.length_nil]
    refine Ret.pos (by rw [Nat.ble_eq]; omega) (Ret.pos (by rw [Nat.ble_eq]; omega) ?_)
    refine Ret.cE (itoaA ot (by omega) (by omega)) ?_
    (dsimp +instances only [Aa,Ab,Ac,Ad,Ae,Af,Ag])
    simp only [itoa_byL,byL_append,byL_size,List.length_append,List.length_cons,List.length_nil]
    refine Ret.pos (by rw [Nat.ble_eq]; omega) (Ret.pos (by rw [Nat.ble_eq]; omega) (Ret.pos (by rw [Nat.ble_eq]; omega) (Ret.p (last ?_))))
    have e1:tailD 5 0 0 e0 e0 0 0 e0 e0 e0 (byL D) ot=[D,Lib.itoa ot]:=by
     show [(byL D).data.toList,Lib.itoa ot]=_
     rw [byL_data]
    rw [e1]
    unfold lineL
    rw [join_two,Lib.join_one]
    simp [kindL]
   ·have ls := len_itoa (n := s) (by omega) (by omega)
    have e1:tailD kd 0 0 e0 e0 s 0 e0 e0 e0 e0 0=[Lib.itoa s]:=by
     rcases hk2 with rfl | rfl<;>rfl
    rw [e1] at last
    have e2:lineL [Lib.itoa s]=Lib.itoa s++[10]:=by
     unfold lineL
     rw [Lib.join_one]
    rw [e2] at last
    rcases hk2 with rfl | rfl
    ·refine Ret.neg rfl (Ret.neg rfl (Ret.pos rfl ?_))
     refine Ret.cE (itoaA s (by omega) (by omega)) ?_
     (dsimp +instances only [Aa,Ab,Ac,Ad,Ae,Af,Ag])
     rw [show (⟨#[104,101,108,100,32]⟩:ByteArray)=byL [104,101,108,100,32] from rfl]
     simp only [itoa_byL,byL_append,byL_size,List.length_append,List.length_cons,List.length_nil]
     refine Ret.pos (by rw [Nat.ble_eq]; omega) (Ret.pos (by rw [Nat.ble_eq]; omega) (Ret.pos (by rw [Nat.ble_eq]; omega) (Ret.p (last ?_))))
     simp [kindL]
    ·refine Ret.neg rfl (Ret.neg rfl (Ret.neg rfl (Ret.pos rfl ?_)))
     refine Ret.cE (itoaA s (by omega) (by omega)) ?_
     (dsimp +instances only [Aa,Ab,Ac,Ad,Ae,Af,Ag])
     rw [show (⟨#[102,114,101,101,32]⟩:ByteArray)=byL [102,114,101,101,32] from rfl]
     simp only [itoa_byL,byL_append,byL_size,List.length_append,List.length_cons,List.length_nil]
     refine Ret.pos (by rw [Nat.ble_eq]; omega) (Ret.pos (by rw [Nat.ble_eq]; omega) (Ret.pos (by rw [Nat.ble_eq]; omega) (Ret.p (last ?_))))
     simp [kindL])
  (fun _ _ => by
   unfold st_r2_DeedLines_3
   (dsimp +instances only [Aa,Ab,Ac,Ad,Ae,Af,Ag])
   rw [List.take_length]
   exact Ret.n (Ret.some rfl))
 refine Ret.loop r (by simp) ?_
 rintro _ _ ⟨_,_,rfl,rfl⟩
 exact Ret.some rfl
theorem sites_ascii:(sitesL.all asciiB)=true:=by kernel_rfl
theorem ascL_kind {k:Int} (h:IsK k):AscL (kindL k):=by
 rcases h with rfl | rfl | rfl | rfl | rfl
 ·exact fun b hb=>by revert b; decide
 ·exact fun b hb=>by revert b; decide
 ·exact fun b hb=>by revert b; decide
 ·exact fun b hb=>by revert b; decide
 ·exact fun b hb=>by revert b; decide
theorem ascL_wordsC {t m:Int} {b c:ByteArray} {s h:Int} {x y:ByteArray} (w:ConW [.i t,.i m,.s b,.s c,.i s,.i h,.s x,.s y]) (hb:b∈bands) (hc:c∈calls) (hx:x∈names) (hy:y∈names):∀ v∈wordsC [.i t,.i m,.s b,.s c,.i s,.i h,.s x,.s y],AscL v:=by
 obtain ⟨t',m',b',c',s',h',x',y',e,ht,hm,_,_,hs,hh,_⟩:=w
 cases e
 intro v hv
 have hv:v∈[Lib.itoa t,(modeW m).data.toList,b.data.toList,c.data.toList,Lib.itoa s,dashL x.data.toList,Lib.itoa h,dashL y.data.toList]:=hv
 simp only [List.mem_cons,List.not_mem_nil,or_false] at hv
 rcases hv with rfl | rfl | rfl | rfl | rfl | rfl | rfl | rfl
 ·exact ascL_itoa ht.1
 ·exact ascL_mode hm
 ·exact ascL_of (List.all_eq_true.1 bands_ascii b hb)
 ·exact ascL_call hc
 ·exact ascL_itoa hs.1
 ·exact ascL_dash (ascL_of (List.all_eq_true.1 names_ascii x hx))
 ·exact ascL_itoa hh.1
 ·exact ascL_dash (ascL_of (List.all_eq_true.1 names_ascii y hy))
theorem ascL_lineD {r:List G} (h:Ded r) (hf:faultDd r=0):AscL (lineL (wordsD r)):=by
 obtain ⟨si',no',at',kd',t',m',b',c',s',h',x',y',bd',of',ot',e,hsi,hno,hat,htl⟩:=dedW_of h hf
 obtain ⟨si,no,at_,kd,t,m,b,c,s,h,x,y,bd,of_,ot,rfl,d1,_,_,_,⟨_,_,c3,c4,_,_,c7,c8⟩,d6,d7,_⟩:=h
 unfold dRow at e
 cases e
 have hk:=htl.kind
 have ew:wordsD (dRow si' no' at' kd' t' m' b' c' s' h' x' y' bd' of' ot')=si'.data.toList::(Lib.itoa no'::Lib.itoa at'::kindL kd'::tailD kd' t' m' b' c' s' h' x' y' bd' of' ot'):=rfl
 rw [ew]
 refine ascL_lineW fun w hw=>?_
 simp only [List.mem_cons] at hw
 rcases hw with rfl | rfl | rfl | rfl | hw
 ·exact ascL_of (List.all_eq_true.1 sites_ascii si' d1)
 ·exact ascL_itoa (by omega)
 ·exact ascL_itoa hat.1
 ·exact ascL_kind hk
 ·rcases htl with ⟨rfl, w1, rfl, rfl, rfl⟩ | ⟨rfl, rfl, rfl, rfl, rfl, rfl, rfl, rfl, rfl, w1, rfl, rfl⟩ | ⟨rfl, rfl, rfl, rfl, rfl, rfl, rfl, rfl, rfl, rfl, w1, w2⟩ | ⟨hk2, rfl, rfl, rfl, rfl, w1, rfl, rfl, rfl, rfl, rfl, rfl⟩
  ·exact ascL_wordsC w1 c3 c4 c7 c8 w hw
  ·have hw : w ∈ [bd'.data.toList] := hw
   rw [List.mem_singleton.1 hw]
   exact ascL_of (List.all_eq_true.1 bands_ascii bd' d6)
  ·have hw : w ∈ [of'.data.toList, Lib.itoa ot'] := hw
   simp only [List.mem_cons,List.not_mem_nil,or_false] at hw
   rcases hw with rfl | rfl
   ·exact ascL_of (List.all_eq_true.1 sites_ascii of' d7)
   ·exact ascL_itoa (by omega)
  ·have hw:w∈[Lib.itoa s']:=by
    rcases hk2 with rfl | rfl<;>exact hw
   rw [List.mem_singleton.1 hw]
   exact ascL_itoa (by omega)
theorem ascL_textD {x:List (List G)} (hx:∀ z∈x,Ded z) (hf:∀ z∈x,faultDd z=0):AscL (textL (x.map wordsD)):=by
 intro b hb
 unfold textL at hb
 rw [List.map_map,List.mem_flatten] at hb
 obtain ⟨l,hl,hb⟩:=hb
 obtain ⟨z,hz,rfl⟩:=List.mem_map.1 hl
 exact ascL_lineD (hx z hz) (hf z hz) b hb
theorem ddOK_all {x:List (List G)} (h:DdOK x):∀ z∈x,faultDd z=0:=fun z hz=>by
 obtain ⟨i,hi,rfl⟩:=List.getElem_of_mem hz
 have:=h.1.1 i hi
 rwa [List.getD_eq_getElem?_getD,List.getElem?_eq_getElem hi] at this
theorem r_DeedText (l:List (List G)) (a:Int) (ha:0≤a) (ha1:a≤400000) :
  Ret (F_mk_DeedText [.l l,.i a]) fun g=>∃ b s,g=[.l l,.i b,.s s]∧asciiB s=true:=by
 unfold F_mk_DeedText
 (dsimp +instances only [Aa,Ab,Ac,Ad,Ae,Af,Ag])
 refine Ret.call (r_Range l a 0 4 (by omega) (by omega) (by omega) (by omega) (by omega)) ?_
 rintro _ ⟨n,rfl,hn0,hn1⟩
 (dsimp +instances only [Aa,Ab,Ac,Ad,Ae,Af,Ag])
 refine Ret.call (r_RightDeeds' l _ n (by omega) (by omega) hn0 (by omega)) ?_
 rintro _ ⟨p1,x,rfl,hp1,hp1',hx,hxl,hf⟩
 (dsimp +instances only [Aa,Ab,Ac,Ad,Ae,Af,Ag])
 have hf0:=ddOK_all hf
 have hW:∀ z∈x,DedW z:=fun z hz=>dedW_of (hx z hz) (hf0 z hz)
 have hl:(textL (x.map wordsD)).length≤300*x.length:=textL_len fun w hw=>wordsD_len (hW w hw)
 refine Ret.cE (linesD x hx hW (by omega)) ?_
 (dsimp +instances only [Aa,Ab,Ac,Ad,Ae,Af,Ag])
 refine Ret.call (r_PickB 0 2 l p1 _ (by omega) (by omega) (by rfl) (by rfl)) ?_
 rintro _ ⟨m,rfl,hm0,hm1⟩
 (dsimp +instances only [Aa,Ab,Ac,Ad,Ae,Af,Ag])
 obtain ⟨m,rfl⟩:=Int.eq_ofNat_of_zero_le hm0
 have hA:=ascL_byL (ascL_textD hx hf0)
 refine Ret.loop (P:=fun c g=>c=0∧∃ (b:Int) (s:ByteArray),g=[.l l,.i b,.s s]∧asciiB s=true) ?_ rfl ?_
 ·refine ((count_runs (σ:=Int × ByteArray) (fun q i=>[.l l,.i q.1,.s q.2,.i (m:Int),.i (i:Int)]) m (fun q=>(0,[.l l,.i q.1,.s q.2])) (fun q i=>0≤q.1∧q.1≤800000+3*i∧asciiB q.2=true∧q.2.size≤6000+100*i)
   (fun c g=>False) ?_ ?_ m (p1+1,byL (textL (x.map wordsD))) 0 (by omega) ⟨by simp only; omega,by simp only; omega,hA,by rw [byL_size]; omega⟩).to (by omega)).mono ?_
  ·rintro ⟨b, s⟩ i ⟨h1, h2, h3, h4⟩ hi
   simp only at h1 h2 h3 h4
   unfold st_mk_DeedText_3
   (dsimp +instances only [Aa,Ab,Ac,Ad,Ae,Af,Ag])
   refine Ret.p ?_
   refine Ret.call (r_Changed l b s _ h1 (by omega) h3 (by rfl) (by omega) (by decide) (by decide)) ?_
   rintro _ ⟨b',s',rfl,h5,h6,h7,h8⟩
   (dsimp +instances only [Aa,Ab,Ac,Ad,Ae,Af,Ag])
   refine Ret.pos (inI_iff.2 ⟨by omega,by omega⟩) (Ret.some (.inl ⟨(b',s'),rfl,?_⟩))
   exact ⟨by simp only; omega,by simp only; omega,h7,by simp only; omega⟩
  ·rintro ⟨b, s⟩ _
   unfold st_mk_DeedText_3
   (dsimp +instances only [Aa,Ab,Ac,Ad,Ae,Af,Ag])
   exact Ret.n (Ret.some rfl)
  ·rintro c g (⟨⟨b, s⟩, h, rfl, rfl⟩ | h)
   ·exact ⟨rfl,b,s,rfl,h.2.2.1⟩
   ·exact h.elim
 ·rintro c g ⟨rfl, b, s, rfl, hs⟩
  exact Ret.some ⟨b,s,rfl,hs⟩
theorem kdsDedA:Kds KDeed DedA:=⟨fun _ h=>h.eta⟩
theorem equalDA_refl (a:List (List G)) (ha:∀ z∈a,DedA z) (hn:a.length<100000):F_sl_Equal_Deed [.l a,.l a]=some [.t true]:=by
 have h:=equalF_eq kdsDedA a a ha ha hn
 rw [eqlA_refl (by rfl)] at h
 exact h
theorem deedTexts_data (rows:List (List G)):F_l2_DeedTexts [.l rows]=some [.t true]:=by
 refine Ret.toEq ?_
 unfold F_l2_DeedTexts
 (dsimp +instances only [Aa,Ab,Ac,Ad,Ae,Af,Ag])
 refine Ret.call (r_Range rows 0 0 6 (by omega) (by omega) (by omega) (by omega) (by omega)) ?_
 rintro _ ⟨n,rfl,hn0,hn1⟩
 (dsimp +instances only [Aa,Ab,Ac,Ad,Ae,Af,Ag])
 refine Ret.call (r_Deeds rows _ n (by omega) (by omega) hn0 (by omega)) ?_
 rintro _ ⟨p1,x,rfl,hp1,hp1',hx,hxl⟩
 (dsimp +instances only [Aa,Ab,Ac,Ad,Ae,Af,Ag])
 refine Ret.call (r_DeedText rows p1 (by omega) (by omega)) ?_
 rintro _ ⟨p2,s,rfl,hs⟩
 (dsimp +instances only [Aa,Ab,Ac,Ad,Ae,Af,Ag])
 obtain ⟨R,k,e,hR,hRl,h1,h2⟩:=readBothD s hs
 have eq:=equalDA_refl R hR (by omega)
 obtain ⟨f1,f2⟩:=deedsFault_eq x hx (by omega)
 obtain ⟨g1,g2⟩:=checkDeeds_eq x hx (by omega)
 by_cases hf:chkDd x=0
 ·have hok:DdOK x:=by
   rw [hf] at f2
   exact f2.zero
  have hf0:=ddOK_all hok
  have hW:∀ z∈x,DedW z:=fun z hz=>dedW_of (hx z hz) (hf0 z hz)
  refine Ret.cE (textNet x hx hok (by omega)) ?_
  refine Ret.cE f1 ?_
  (dsimp +instances only [Aa,Ab,Ac,Ad,Ae,Af,Ag])
  rw [hf]
  refine Ret.pos rfl ?_
  refine Ret.cE (linesD x hx hW (by omega)) ?_
  refine Ret.cE h1 ?_
  refine Ret.cE h2 ?_
  (dsimp +instances only [Aa,Ab,Ac,Ad,Ae,Af,Ag])
  refine Ret.pos rfl (Ret.pos (by simp) ?_)
  refine Ret.cE eq ?_
  refine Ret.pos rfl (Ret.pos (by simp) (Ret.pos (by simp) ?_))
  refine Ret.cE (rfl:F_l2_netted []=some [.t true]) ?_
  exact Ret.some rfl
 ·have tx:F_net_Text [.l x]=some [.s (⟨#[]⟩:ByteArray),.i (chkDd x)]:=by
   refine Ret.toEq ?_
   unfold F_net_Text
   (dsimp +instances only [Aa,Ab,Ac,Ad,Ae,Af,Ag])
   refine Ret.cE g1 ?_
   (dsimp +instances only [Aa,Ab,Ac,Ad,Ae,Af,Ag])
   exact Ret.pos (by simpa using hf) (Ret.some rfl)
  refine Ret.cE tx ?_
  refine Ret.cE f1 ?_
  (dsimp +instances only [Aa,Ab,Ac,Ad,Ae,Af,Ag])
  refine Ret.neg (by simpa using hf) ?_
  refine Ret.cE h1 ?_
  refine Ret.cE h2 ?_
  (dsimp +instances only [Aa,Ab,Ac,Ad,Ae,Af,Ag])
  refine Ret.pos (by simp) (Ret.pos (by simp) ?_)
  refine Ret.cE eq ?_
  refine Ret.pos rfl (Ret.pos (by simp) (Ret.pos (by simp) ?_))
  refine Ret.cE (rfl:F_l2_netted []=some [.t true]) ?_
  exact Ret.some rfl
end
end Go.Proofs.SYtbnjbajipjjbgaaGreatDoor
