/-
 What is proved here: functions of the program as functions on data. No condition.
-/
import Derived.Test.YtelglbbhbgjagaaGreatDoorML2
set_option linter.all false
namespace Go.Proofs.SYtelglbbhbgjagaaGreatDoor
open Go Go.AL Go.Proofs
noncomputable section
def st_insS_Card_4 (d:List G):Option (Option Nat × List G) :=
 (bif (ltI (gi d 1).int (gi d 4).int) then (bif ((nnI (gi d 4).int)&&(ltI (gi d 4).int (((gi d 0).rows.length:Nat):Int))) then (bif (decide ((0+((gi d 4).int).toNat)<(gi d 0).rows.length)) then (bif (inI ((gi d 4).int-1)) then (bif ((nnI ((gi d 4).int-1))&&(ltI ((gi d 4).int-1) (((gi d 0).rows.length:Nat):Int))) then (bif (decide ((0+((gi d 4).int-1).toNat)<(gi d 0).rows.length)) then (callF (F_r2_CardOrder [.l [(gEta KCard ((gi d 0).rows.getD (0+((gi d 4).int).toNat) []))],.l [(gEta KCard ((gi d 0).rows.getD (0+((gi d 4).int-1).toNat) []))]]) fun g1=>(bif (ltI (gi g1 0).int 0) then (bif (inI ((gi d 4).int-1)) then (bif (inI ((gi d 4).int-1)) then (bif ((nnI ((gi d 4).int-1))&&(ltI ((gi d 4).int-1) (((gi d 0).rows.length:Nat):Int))) then (bif (decide ((0+((gi d 4).int-1).toNat)<(gi d 0).rows.length)) then (bif ((nnI (gi d 4).int)&&(ltI (gi d 4).int (((gi d 0).rows.length:Nat):Int))) then (bif (decide ((0+((gi d 4).int).toNat)<(gi d 0).rows.length)) then (bif ((nnI (gi d 4).int)&&(ltI (gi d 4).int (((gi d 0).rows.length:Nat):Int))) then (bif (decide ((0+((gi d 4).int).toNat)<(gi d 0).rows.length)) then (bif ((nnI ((gi d 4).int-1))&&(ltI ((gi d 4).int-1) (((gi d 0).rows.length:Nat):Int))) then (bif (decide ((0+((gi d 4).int-1).toNat)<((gi d 0).rows.set (0+((gi d 4).int).toNat) (putG KCard ((gi d 0).rows.getD (0+((gi d 4).int).toNat) []) 0 (gEta KCard ((gi d 0).rows.getD (0+((gi d 4).int-1).toNat) [])))).length)) then (bif (inI ((gi d 4).int-1)) then (bif ((Nat.beq (gi d 0).rows.length (((gi d 0).rows.set (0+((gi d 4).int).toNat) (putG KCard ((gi d 0).rows.getD (0+((gi d 4).int).toNat) []) 0 (gEta KCard ((gi d 0).rows.getD (0+((gi d 4).int-1).toNat) [])))).set (0+((gi d 4).int-1).toNat) (putG KCard (((gi d 0).rows.set (0+((gi d 4).int).toNat) (putG KCard ((gi d 0).rows.getD (0+((gi d 4).int).toNat) []) 0 (gEta KCard ((gi d 0).rows.getD (0+((gi d 4).int-1).toNat) [])))).getD (0+((gi d 4).int-1).toNat) []) 0 (gEta KCard ((gi d 0).rows.getD (0+((gi d 4).int).toNat) [])))).length)&&true) then some (none,[.l (((gi d 0).rows.set (0+((gi d 4).int).toNat) (putG KCard ((gi d 0).rows.getD (0+((gi d 4).int).toNat) []) 0 (gEta KCard ((gi d 0).rows.getD (0+((gi d 4).int-1).toNat) [])))).set (0+((gi d 4).int-1).toNat) (putG KCard (((gi d 0).rows.set (0+((gi d 4).int).toNat) (putG KCard ((gi d 0).rows.getD (0+((gi d 4).int).toNat) []) 0 (gEta KCard ((gi d 0).rows.getD (0+((gi d 4).int-1).toNat) [])))).getD (0+((gi d 4).int-1).toNat) []) 0 (gEta KCard ((gi d 0).rows.getD (0+((gi d 4).int).toNat) [])))),.i (gi d 1).int,.i (gi d 2).int,.i (gi d 3).int,.i ((gi d 4).int-1)]) else none) else none) else none) else none) else none) else none) else none) else none) else none) else none) else none) else none) else (bif ((Nat.beq (gi d 0).rows.length (gi d 0).rows.length)&&true) then some (some 0,[.l (gi d 0).rows,.i (gi d 1).int,.i (gi d 2).int,.i (gi d 3).int]) else none))) else none) else none) else none) else none) else none) else (bif ((Nat.beq (gi d 0).rows.length (gi d 0).rows.length)&&true) then some (some 0,[.l (gi d 0).rows,.i (gi d 1).int,.i (gi d 2).int,.i (gi d 3).int]) else none))
def l_insS_Card_4:LSpec:=⟨4,[],⟨53,[(0,.s (.vec 0 5)),(1,.s (.int .i64)),(2,.s (.int .i64)),(3,.s (.fn 108)),(8,.s (.int .i64)),(9,.s (.int .i64))],[.vec KCard 0]⟩,[.fix 0],[⟨.exit 2,⟨53,[(0,.s (.vec 0 5)),(1,.s (.int .i64)),(2,.s (.int .i64)),(3,.s (.fn 108)),(8,.s (.int .i64))],[.vec KCard 0]⟩,[.fix 0]⟩],st_insS_Card_4⟩
theorem r_insS_Card_4:RoundOK P t47 nL0 1 (loopAt Tryz.f163 4) l_insS_Card_4:=fun d=>by kernel_rfl
def L_insS_Card_4:LT:=nL0.add 1 l_insS_Card_4
theorem L_insS_Card_4_ok:LpK P 1 L_insS_Card_4 (bodyOf Tryz.f163):=LpK.a hm t47_ok (nLk _ _ _) r_insS_Card_4
def st_insS_Card_1 (d:List G):Option (Option Nat × List G) :=
 (bif (ltI (gi d 3).int (gi d 2).int) then (loopB ((Nat.beq (gi d 0).rows.length (gi d 0).rows.length)&&true) (LRun st_insS_Card_4 [.l (gi d 0).rows,.i (gi d 1).int,.i (gi d 2).int,.i (gi d 3).int,.i (gi d 3).int]) fun cg2 g2=>(bif (inI ((gi g2 3).int+1)) then (bif ((Nat.beq (gi g2 0).rows.length (gi g2 0).rows.length)&&true) then some (none,[.l (gi g2 0).rows,.i (gi g2 1).int,.i (gi g2 2).int,.i ((gi g2 3).int+1)]) else none) else none)) else some (some 0,[.l (gi d 0).rows]))
def l_insS_Card_1:LSpec:=⟨1,[],⟨53,[(0,.s (.vec 0 5)),(1,.s (.int .i64)),(2,.s (.int .i64)),(3,.s (.fn 108)),(8,.s (.int .i64))],[.vec KCard 0]⟩,[.fix 0],[⟨.exit 0,⟨53,[],[.vec KCard 0]⟩,[.fix 0]⟩],st_insS_Card_1⟩
theorem r_insS_Card_1:RoundOK P t47 L_insS_Card_4 1 (loopAt Tryz.f163 1) l_insS_Card_1:=fun d=>by kernel_rfl
def L_insS_Card_1:LT:=L_insS_Card_4.add 1 l_insS_Card_1
theorem L_insS_Card_1_ok:LpK P 1 L_insS_Card_1 (bodyOf Tryz.f163):=LpK.a hm t47_ok L_insS_Card_4_ok r_insS_Card_1
def F_insS_Card (d:List G):Option (List G) :=
 (bif (inI ((gi d 1).int+1)) then (loopB ((Nat.beq (gi d 0).rows.length (gi d 0).rows.length)&&true) (LRun st_insS_Card_1 [.l (gi d 0).rows,.i (gi d 1).int,.i (gi d 2).int,.i ((gi d 1).int+1)]) fun cg3 g3=>some [.l (gi g3 0).rows]) else none)
def s_insS_Card:FSpec:=⟨163,[.s (.vec 0 5),.s (.int .i64),.s (.int .i64),.s (.fn 108)],[.vec KCard 0],[.slot 0],[],[.vec KCard 0],[.fix 0],[],F_insS_Card⟩
theorem b_insS_Card:BodyOK P t47 L_insS_Card_1 Tryz.f163 s_insS_Card:=fun d=>by kernel_rfl
theorem c_insS_Card:COK P s_insS_Card:=bdC hm t47_ok Tryz.func163 L_insS_Card_1_ok b_insS_Card
def t48:Tab:=t47.addW s_insS_Card
theorem t48_ok:TabOK P t48:=t47_ok.aW c_insS_Card

def st_stbS_Card_2 (d:List G):Option (Option Nat × List G) :=
 (bif (leI (gi d 4).int (gi d 1).int) then (callB (((Nat.beq (gi d 0).rows.length (gi d 0).rows.length)&&true)&&(F_insS_Card [.l (gi d 0).rows,.i (gi d 3).int,.i (gi d 4).int]).isSome) (F_insS_Card [.l (gi d 0).rows,.i (gi d 3).int,.i (gi d 4).int]) fun g1=>(bif (inI ((gi d 4).int+(gi d 2).int)) then (bif ((Nat.beq (gi d 0).rows.length (gi g1 0).rows.length)&&true) then some (none,[.l (gi g1 0).rows,.i (gi d 1).int,.i (gi d 2).int,.i (gi d 4).int,.i ((gi d 4).int+(gi d 2).int)]) else none) else none)) else (bif ((Nat.beq (gi d 0).rows.length (gi d 0).rows.length)&&true) then some (some 0,[.l (gi d 0).rows,.i (gi d 1).int,.i (gi d 2).int,.i (gi d 3).int]) else none))
def l_stbS_Card_2:LSpec:=⟨2,[],⟨63,[(0,.s (.vec 0 5)),(1,.s (.int .i64)),(2,.s (.fn 108)),(6,.s (.int .i64)),(7,.s (.int .i64)),(8,.s (.int .i64))],[.vec KCard 0]⟩,[.fix 0],[⟨.exit 0,⟨63,[(0,.s (.vec 0 5)),(1,.s (.int .i64)),(2,.s (.fn 108)),(6,.s (.int .i64)),(7,.s (.int .i64))],[.vec KCard 0]⟩,[.fix 0]⟩],st_stbS_Card_2⟩
theorem r_stbS_Card_2:RoundOK P t48 nL0 1 (loopAt Tryz.f162 2) l_stbS_Card_2:=fun d=>by kernel_rfl
def L_stbS_Card_2:LT:=nL0.add 1 l_stbS_Card_2
theorem L_stbS_Card_2_ok:LpK P 1 L_stbS_Card_2 (bodyOf Tryz.f162):=LpK.a hm t48_ok (nLk _ _ _) r_stbS_Card_2
def st_stbS_Card_9 (d:List G):Option (Option Nat × List G) :=
 (bif (leI (gi d 4).int (gi d 1).int) then (bif (inI ((gi d 3).int+(gi d 2).int)) then none else none) else (bif ((Nat.beq (gi d 0).rows.length (gi d 0).rows.length)&&true) then some (some 0,[.l (gi d 0).rows,.i (gi d 1).int,.i (gi d 2).int,.i (gi d 3).int]) else none))
def l_stbS_Card_9:LSpec:=⟨9,[],⟨63,[(0,.s (.vec 0 5)),(1,.s (.int .i64)),(2,.s (.fn 108)),(6,.s (.int .i64)),(7,.s (.int .i64)),(8,.s (.int .i64))],[.vec KCard 0]⟩,[.fix 0],[⟨.exit 4,⟨63,[(0,.s (.vec 0 5)),(1,.s (.int .i64)),(2,.s (.fn 108)),(6,.s (.int .i64)),(7,.s (.int .i64))],[.vec KCard 0]⟩,[.fix 0]⟩],st_stbS_Card_9⟩
theorem r_stbS_Card_9:RoundOK P t48 L_stbS_Card_2 1 (loopAt Tryz.f162 9) l_stbS_Card_9:=fun d=>by kernel_rfl
def L_stbS_Card_9:LT:=L_stbS_Card_2.add 1 l_stbS_Card_9
theorem L_stbS_Card_9_ok:LpK P 1 L_stbS_Card_9 (bodyOf Tryz.f162):=LpK.a hm t48_ok L_stbS_Card_2_ok r_stbS_Card_9
def st_stbS_Card_7 (d:List G):Option (Option Nat × List G) :=
 (bif (ltI (gi d 2).int (gi d 1).int) then (bif (inI (2*(gi d 2).int)) then (loopB ((Nat.beq (gi d 0).rows.length (gi d 0).rows.length)&&true) (LRun st_stbS_Card_9 [.l (gi d 0).rows,.i (gi d 1).int,.i (gi d 2).int,.i 0,.i (2*(gi d 2).int)]) fun cg4 g4=>(bif (inI ((gi g4 3).int+(gi g4 2).int)) then (bif (ltI ((gi g4 3).int+(gi g4 2).int) (gi g4 1).int) then none else (bif (inI ((gi g4 2).int*2)) then (bif ((Nat.beq (gi g4 0).rows.length (gi g4 0).rows.length)&&true) then some (none,[.l (gi g4 0).rows,.i (gi g4 1).int,.i ((gi g4 2).int*2)]) else none) else none)) else none)) else none) else some (some 0,[.l (gi d 0).rows]))
def l_stbS_Card_7:LSpec:=⟨7,[],⟨63,[(0,.s (.vec 0 5)),(1,.s (.int .i64)),(2,.s (.fn 108)),(6,.s (.int .i64))],[.vec KCard 0]⟩,[.fix 0],[⟨.exit 2,⟨63,[],[.vec KCard 0]⟩,[.fix 0]⟩],st_stbS_Card_7⟩
theorem r_stbS_Card_7:RoundOK P t48 L_stbS_Card_9 1 (loopAt Tryz.f162 7) l_stbS_Card_7:=fun d=>by kernel_rfl
def L_stbS_Card_7:LT:=L_stbS_Card_9.add 1 l_stbS_Card_7
theorem L_stbS_Card_7_ok:LpK P 1 L_stbS_Card_7 (bodyOf Tryz.f162):=LpK.a hm t48_ok L_stbS_Card_9_ok r_stbS_Card_7
def F_stbS_Card (d:List G):Option (List G) :=
 (loopB ((Nat.beq (gi d 0).rows.length (gi d 0).rows.length)&&true) (LRun st_stbS_Card_2 [.l (gi d 0).rows,.i (gi d 1).int,.i 20,.i 0,.i 20]) fun cg2 g2=>(callB (((Nat.beq (gi g2 0).rows.length (gi g2 0).rows.length)&&true)&&(F_insS_Card [.l (gi g2 0).rows,.i (gi g2 3).int,.i (gi g2 1).int]).isSome) (F_insS_Card [.l (gi g2 0).rows,.i (gi g2 3).int,.i (gi g2 1).int]) fun g3=>(loopB ((Nat.beq (gi g2 0).rows.length (gi g3 0).rows.length)&&true) (LRun st_stbS_Card_7 [.l (gi g3 0).rows,.i (gi g2 1).int,.i (gi g2 2).int]) fun cg5 g5=>some [.l (gi g5 0).rows])))
def s_stbS_Card:FSpec:=⟨162,[.s (.vec 0 5),.s (.int .i64),.s (.fn 108)],[.vec KCard 0],[.slot 0],[],[.vec KCard 0],[.fix 0],[],F_stbS_Card⟩
theorem b_stbS_Card:BodyOK P t48 L_stbS_Card_7 Tryz.f162 s_stbS_Card:=fun d=>by kernel_rfl
theorem c_stbS_Card:COK P s_stbS_Card:=bdC hm t48_ok Tryz.func162 L_stbS_Card_7_ok b_stbS_Card
def t49:Tab:=t48.addW s_stbS_Card
theorem t49_ok:TabOK P t49:=t48_ok.aW c_stbS_Card

def F_srtS_Card (d:List G):Option (List G) :=
 (callB (((Nat.beq (gi d 0).rows.length (gi d 0).rows.length)&&true)&&(F_stbS_Card [.l (gi d 0).rows,.i (((gi d 0).rows.length:Nat):Int)]).isSome) (F_stbS_Card [.l (gi d 0).rows,.i (((gi d 0).rows.length:Nat):Int)]) fun g1=>some [.l (gi g1 0).rows])
def s_srtS_Card:FSpec:=⟨107,[.s (.vec 0 5),.s (.fn 108)],[.vec KCard 0],[.slot 0],[],[.vec KCard 0],[.fix 0],[],F_srtS_Card⟩
theorem b_srtS_Card:BodyOK P t49 nL0 Tryz.f107 s_srtS_Card:=fun d=>by kernel_rfl
theorem c_srtS_Card:COK P s_srtS_Card:=bdC hm t49_ok Tryz.func107 (nLk _ _ _) b_srtS_Card
def t50:Tab:=t49.addW s_srtS_Card
theorem t50_ok:TabOK P t50:=t49_ok.aW c_srtS_Card

def st_sl_Compact_Card_9 (d:List G):Option (Option Nat × List G) :=
 (bif (ltI (gi d 4).int (((gi d 3).int.toNat:Nat):Int)) then (bif ((nnI (gi d 4).int)&&(ltI (gi d 4).int (((gi d 3).int.toNat:Nat):Int))) then (bif (decide (((gi d 2).int.toNat+((gi d 4).int).toNat)<(gi d 0).rows.length)) then (bif (inI ((gi d 4).int-1)) then (bif ((nnI ((gi d 4).int-1))&&(ltI ((gi d 4).int-1) (((gi d 3).int.toNat:Nat):Int))) then (bif (decide (((gi d 2).int.toNat+((gi d 4).int-1).toNat)<(gi d 0).rows.length)) then (bif (!(rowEq KCard (gEta KCard ((gi d 0).rows.getD ((gi d 2).int.toNat+((gi d 4).int).toNat) [])) (gEta KCard ((gi d 0).rows.getD ((gi d 2).int.toNat+((gi d 4).int-1).toNat) [])))) then (bif ((nnI (gi d 4).int)&&(ltI (gi d 4).int (((gi d 3).int.toNat:Nat):Int))) then (bif (decide (((gi d 2).int.toNat+((gi d 4).int).toNat)<(gi d 0).rows.length)) then (bif ((nnI (gi d 1).int)&&(ltI (gi d 1).int (((gi d 0).rows.length:Nat):Int))) then (bif (decide ((0+((gi d 1).int).toNat)<(gi d 0).rows.length)) then (bif (inI ((gi d 1).int+1)) then (bif (inI ((gi d 4).int+1)) then (bif ((Nat.beq (gi d 0).rows.length ((gi d 0).rows.set (0+((gi d 1).int).toNat) (putG KCard ((gi d 0).rows.getD (0+((gi d 1).int).toNat) []) 0 (gEta KCard ((gi d 0).rows.getD ((gi d 2).int.toNat+((gi d 4).int).toNat) [])))).length)&&true) then some (none,[.l ((gi d 0).rows.set (0+((gi d 1).int).toNat) (putG KCard ((gi d 0).rows.getD (0+((gi d 1).int).toNat) []) 0 (gEta KCard ((gi d 0).rows.getD ((gi d 2).int.toNat+((gi d 4).int).toNat) [])))),.i ((gi d 1).int+1),.i (((gi d 2).int.toNat:Nat):Int),.i (((gi d 3).int.toNat:Nat):Int),.i ((gi d 4).int+1)]) else none) else none) else none) else none) else none) else none) else none) else (bif (inI ((gi d 4).int+1)) then (bif ((Nat.beq (gi d 0).rows.length (gi d 0).rows.length)&&true) then some (none,[.l (gi d 0).rows,.i (gi d 1).int,.i (((gi d 2).int.toNat:Nat):Int),.i (((gi d 3).int.toNat:Nat):Int),.i ((gi d 4).int+1)]) else none) else none)) else none) else none) else none) else none) else none) else (bif ((Nat.beq (gi d 0).rows.length (gi d 0).rows.length)&&true) then some (some 0,[.l (gi d 0).rows,.i (gi d 1).int]) else none))
def l_sl_Compact_Card_9:LSpec:=⟨9,[],⟨61,[(0,.s (.vec 0 5)),(3,.s (.int .i64)),(4,.s (.sub 0 5)),(5,.s (.int .i64))],[.vec KCard 0]⟩,[.fix 0],[⟨.exit 2,⟨61,[(0,.s (.vec 0 5)),(3,.s (.int .i64))],[.vec KCard 0]⟩,[.fix 0]⟩],st_sl_Compact_Card_9⟩
theorem r_sl_Compact_Card_9:RoundOK P t50 nL0 1 (loopAt Tryz.f76 9) l_sl_Compact_Card_9:=fun d=>by kernel_rfl
def L_sl_Compact_Card_9:LT:=nL0.add 1 l_sl_Compact_Card_9
theorem L_sl_Compact_Card_9_ok:LpK P 1 L_sl_Compact_Card_9 (bodyOf Tryz.f76):=LpK.a hm t50_ok (nLk _ _ _) r_sl_Compact_Card_9
def st_sl_Compact_Card_4 (d:List G):Option (Option Nat × List G) :=
 (bif (ltI (gi d 1).int (((gi d 0).rows.length:Nat):Int)) then (bif ((nnI (gi d 1).int)&&(ltI (gi d 1).int (((gi d 0).rows.length:Nat):Int))) then (bif (decide ((0+((gi d 1).int).toNat)<(gi d 0).rows.length)) then (bif (inI ((gi d 1).int-1)) then (bif ((nnI ((gi d 1).int-1))&&(ltI ((gi d 1).int-1) (((gi d 0).rows.length:Nat):Int))) then (bif (decide ((0+((gi d 1).int-1).toNat)<(gi d 0).rows.length)) then (bif (rowEq KCard (gEta KCard ((gi d 0).rows.getD (0+((gi d 1).int).toNat) [])) (gEta KCard ((gi d 0).rows.getD (0+((gi d 1).int-1).toNat) []))) then (bif ((nnI (gi d 1).int)&&(leI (gi d 1).int (((gi d 0).rows.length:Nat):Int))) then (loopB ((Nat.beq (gi d 0).rows.length (gi d 0).rows.length)&&true) (LRun st_sl_Compact_Card_9 [.l (gi d 0).rows,.i (gi d 1).int,.i (((0+((gi d 1).int).toNat):Nat):Int),.i ((((gi d 0).rows.length-((gi d 1).int).toNat):Nat):Int),.i 1]) fun cg1 g1=>(bif ((nnI (gi g1 1).int)&&(leI (gi g1 1).int (((gi g1 0).rows.length:Nat):Int))) then (bif (Nat.ble ((0+((gi g1 1).int).toNat)+((gi g1 0).rows.length-((gi g1 1).int).toNat)) (gi g1 0).rows.length) then (bif ((nnI (gi g1 1).int)&&(leI (gi g1 1).int (((gi g1 0).rows.length:Nat):Int))) then some (some 0,[.l ((gi g1 0).rows.take (0+((gi g1 1).int).toNat)++List.replicate ((gi g1 0).rows.length-((gi g1 1).int).toNat) [.i 0,.i 0,.i 0,.s (⟨#[]⟩:ByteArray),.s (⟨#[]⟩:ByteArray)]++(gi g1 0).rows.drop ((0+((gi g1 1).int).toNat)+((gi g1 0).rows.length-((gi g1 1).int).toNat))),.i (((((gi g1 1).int).toNat-0):Nat):Int)]) else none) else none) else none)) else none) else (bif (inI ((gi d 1).int+1)) then (bif ((Nat.beq (gi d 0).rows.length (gi d 0).rows.length)&&true) then some (none,[.l (gi d 0).rows,.i ((gi d 1).int+1)]) else none) else none)) else none) else none) else none) else none) else none) else (bif ((Nat.beq (gi d 0).rows.length (gi d 0).rows.length)&&true) then some (some 1,[.l (gi d 0).rows]) else none))
def l_sl_Compact_Card_4:LSpec:=⟨4,[],⟨61,[(0,.s (.vec 0 5)),(3,.s (.int .i64))],[.vec KCard 0]⟩,[.fix 0],[⟨.ret,⟨61,[(2,.s (.pre 0 5))],[.vec KCard 0]⟩,[.fix 0]⟩,⟨.exit 0,⟨61,[(0,.s (.vec 0 5))],[.vec KCard 0]⟩,[.fix 0]⟩],st_sl_Compact_Card_4⟩
theorem r_sl_Compact_Card_4:RoundOK P t50 L_sl_Compact_Card_9 1 (loopAt Tryz.f76 4) l_sl_Compact_Card_4:=fun d=>by kernel_rfl
def L_sl_Compact_Card_4:LT:=L_sl_Compact_Card_9.add 1 l_sl_Compact_Card_4
theorem L_sl_Compact_Card_4_ok:LpK P 1 L_sl_Compact_Card_4 (bodyOf Tryz.f76):=LpK.a hm t50_ok L_sl_Compact_Card_9_ok r_sl_Compact_Card_4
def F_sl_Compact_Card (d:List G):Option (List G) :=
 (bif (ltI (((gi d 0).rows.length:Nat):Int) 2) then some [.l (gi d 0).rows,.i (((gi d 0).rows.length:Nat):Int)] else (loopB ((Nat.beq (gi d 0).rows.length (gi d 0).rows.length)&&true) (LRun st_sl_Compact_Card_4 [.l (gi d 0).rows,.i 1]) fun cg2 g2=>(bif Nat.beq cg2 0 then some [.l (gi g2 0).rows,.i (((gi g2 1).int.toNat:Nat):Int)] else some [.l (gi g2 0).rows,.i (((gi g2 0).rows.length:Nat):Int)])))
def s_sl_Compact_Card:FSpec:=⟨76,[.s (.vec 0 5)],[.vec KCard 0],[.slot 0],[.s (.pre 0 5)],[.vec KCard 0],[.fix 0],[],F_sl_Compact_Card⟩
theorem b_sl_Compact_Card:BodyOK P t50 L_sl_Compact_Card_4 Tryz.f76 s_sl_Compact_Card:=fun d=>by kernel_rfl
theorem c_sl_Compact_Card:COK P s_sl_Compact_Card:=bdC hm t50_ok Tryz.func76 L_sl_Compact_Card_4_ok b_sl_Compact_Card
def t51:Tab:=t50.addW s_sl_Compact_Card
theorem t51_ok:TabOK P t51:=t50_ok.aW c_sl_Compact_Card

def st_mk_Cards_4 (d:List G):Option (Option Nat × List G) :=
 (bif (ltI (gi d 5).int (gi d 4).int) then (callF (F_mk_Pick [.l (gi d 0).rows,.i (gi d 1).int,.l [[.i 0],[.i 1],[.i 5],[.i 20]]]) fun g1=>(bif (inI ((gi d 3).int+(gi g1 2).int)) then (callF (F_mk_Pick [.l (gi g1 0).rows,.i (gi g1 1).int,.l [[.i 1],[.i 2],[.i 2],[.i 2],[.i 3]]]) fun g2=>(callF (F_mk_Pick [.l (gi g2 0).rows,.i (gi g2 1).int,.l [[.i 1],[.i 1],[.i 2]]]) fun g3=>(callF (F_mk_ACall [.l (gi g3 0).rows,.i (gi g3 1).int]) fun g4=>(callF (F_mk_Some [.l (gi g4 0).rows,.i (gi g4 1).int,.l [[.s (⟨#[98,50,48]⟩:ByteArray)],[.s (⟨#[98,50,48]⟩:ByteArray)],[.s (⟨#[98,52,48]⟩:ByteArray)]]]) fun g5=>(callF (F_mk_Flip [.l (gi g5 0).rows,.i (gi g5 1).int,.i 100]) fun g6=>(bif (gi g6 2).bool then (callF (F_mk_Odd [.l (gi g6 0).rows,.i (gi g6 1).int,.i 0,.i 50]) fun g7=>(callF (F_mk_Odd [.l (gi g7 0).rows,.i (gi g7 1).int,.i 1,.i 3]) fun g8=>(callF (F_mk_Odd [.l (gi g8 0).rows,.i (gi g8 1).int,.i 1,.i 3]) fun g9=>(callF (F_mk_Some [.l (gi g9 0).rows,.i (gi g9 1).int,.l [[.s (⟨#[]⟩:ByteArray)],[.s (⟨#[98,50,48]⟩:ByteArray)]]]) fun g10=>(bif ((Nat.beq (gi d 2).rows.length (gi d 2).rows.length)&&(decide (((gi d 2).rows.length+1)≤1048576))) then (bif (inI ((gi d 5).int+1)) then (bif ((Nat.beq ((gi d 2).rows++([[.i (gi g7 2).int,.i (gi g8 2).int,.i (gi g9 2).int,.s (gi g4 2).str,.s (gi g10 2).str]]:List (List G))).length ((gi d 2).rows++([[.i (gi g7 2).int,.i (gi g8 2).int,.i (gi g9 2).int,.s (gi g4 2).str,.s (gi g10 2).str]]:List (List G))).length)&&true) then some (none,[.l (gi g10 0).rows,.i (gi g10 1).int,.l ((gi d 2).rows++([[.i (gi g7 2).int,.i (gi g8 2).int,.i (gi g9 2).int,.s (gi g4 2).str,.s (gi g10 2).str]]:List (List G))),.i ((gi d 3).int+(gi g1 2).int),.i (gi d 4).int,.i ((gi d 5).int+1)]) else none) else none) else none))))) else (bif ((Nat.beq (gi d 2).rows.length (gi d 2).rows.length)&&(decide (((gi d 2).rows.length+1)≤1048576))) then (bif (inI ((gi d 5).int+1)) then (bif ((Nat.beq ((gi d 2).rows++([[.i ((gi d 3).int+(gi g1 2).int),.i (gi g2 2).int,.i (gi g3 2).int,.s (gi g4 2).str,.s (gi g5 2).str]]:List (List G))).length ((gi d 2).rows++([[.i ((gi d 3).int+(gi g1 2).int),.i (gi g2 2).int,.i (gi g3 2).int,.s (gi g4 2).str,.s (gi g5 2).str]]:List (List G))).length)&&true) then some (none,[.l (gi g6 0).rows,.i (gi g6 1).int,.l ((gi d 2).rows++([[.i ((gi d 3).int+(gi g1 2).int),.i (gi g2 2).int,.i (gi g3 2).int,.s (gi g4 2).str,.s (gi g5 2).str]]:List (List G))),.i ((gi d 3).int+(gi g1 2).int),.i (gi d 4).int,.i ((gi d 5).int+1)]) else none) else none) else none))))))) else none)) else (bif ((Nat.beq (gi d 2).rows.length (gi d 2).rows.length)&&true) then some (some 0,[.l (gi d 0).rows,.i (gi d 1).int,.l (gi d 2).rows]) else none))
def l_mk_Cards_4:LSpec:=⟨4,[(5,KCard)],⟨53,[(0,.s (.ptr 0 0)),(5,.s (.vec 1 5)),(6,.s (.int .i64)),(8,.s (.int .i64)),(9,.s (.int .i64))],[.box [.list [.int .i64],.int .i64],.vec KCard 0]⟩,[.fix 0,.slot 5],[⟨.exit 0,⟨53,[(5,.s (.vec 1 5))],[.box [.list [.int .i64],.int .i64],.vec KCard 0]⟩,[.fix 0,.slot 5]⟩],st_mk_Cards_4⟩
theorem r_mk_Cards_4:RoundOK P t51 nL0 1 (loopAt Tryz.f70 4) l_mk_Cards_4:=fun d=>by kernel_rfl
def L_mk_Cards_4:LT:=nL0.add 1 l_mk_Cards_4
theorem L_mk_Cards_4_ok:LpK P 1 L_mk_Cards_4 (bodyOf Tryz.f70):=LpK.a hm t51_ok (nLk _ _ _) r_mk_Cards_4
def F_mk_Cards (d:List G):Option (List G) :=
 (loopB true (LRun st_mk_Cards_4 [.l (gi d 0).rows,.i (gi d 1).int,.l [],.i 0,.i (gi d 2).int,.i 0]) fun cg11 g11=>(callB (((Nat.beq (gi g11 2).rows.length (gi g11 2).rows.length)&&true)&&(F_srtS_Card [.l (gi g11 2).rows]).isSome) (F_srtS_Card [.l (gi g11 2).rows]) fun g12=>(callB (((Nat.beq (gi g11 2).rows.length (gi g12 0).rows.length)&&true)&&(F_sl_Compact_Card [.l (gi g12 0).rows]).isSome) (F_sl_Compact_Card [.l (gi g12 0).rows]) fun g13=>(bif ((Nat.ble (gi g13 1).int.toNat (gi g13 0).rows.length)&&true) then some [.l (gi g11 0).rows,.i (gi g11 1).int,.l ((gi g13 0).rows.take ((gi g13 1).int.toNat))] else none))))
def s_mk_Cards:FSpec:=⟨70,[.s (.ptr 0 0),.s (.int .i64)],[.box [.list [.int .i64],.int .i64]],[.slot 0],[.s (.lpre KCard)],[.box [.list [.int .i64],.int .i64]],[.fix 0],[],F_mk_Cards⟩
theorem b_mk_Cards:BodyOK P t51 L_mk_Cards_4 Tryz.f70 s_mk_Cards:=fun d=>by kernel_rfl
theorem c_mk_Cards:COK P s_mk_Cards:=bdC hm t51_ok Tryz.func70 L_mk_Cards_4_ok b_mk_Cards
def t52:Tab:=t51.addW s_mk_Cards
theorem t52_ok:TabOK P t52:=t51_ok.aW c_mk_Cards

def F_r2_in (d:List G):Option (List G) :=
 (bif (leI (gi d 1).int (gi d 0).int) then some [.t (leI (gi d 0).int (gi d 2).int)] else some [.t false])
def s_r2_in:FSpec:=⟨57,[.s (.int .i64),.s (.int .i64),.s (.int .i64)],[],[],[.s (.bool)],[],[],[],F_r2_in⟩
theorem b_r2_in:BodyOK P t52 nL0 Tryz.f57 s_r2_in:=fun d=>by kernel_rfl
theorem c_r2_in:COK P s_r2_in:=bdC hm t52_ok Tryz.func57 (nLk _ _ _) b_r2_in
def t53:Tab:=t52.addP s_r2_in
theorem t53_ok:TabOK P t53:=t52_ok.aP c_r2_in

def F_r2_Moment (d:List G):Option (List G) :=
 (callF (F_r2_in [.i (gi d 0).int,.i 0,.i 345686399999]) fun g1=>some [.t (gi g1 0).bool])
def s_r2_Moment:FSpec:=⟨109,[.s (.int .i64)],[],[],[.s (.bool)],[],[],[],F_r2_Moment⟩
theorem b_r2_Moment:BodyOK P t53 nL0 Tryz.f109 s_r2_Moment:=fun d=>by kernel_rfl
theorem c_r2_Moment:COK P s_r2_Moment:=bdC hm t53_ok Tryz.func109 (nLk _ _ _) b_r2_Moment
def t54:Tab:=t53.addP s_r2_Moment
theorem t54_ok:TabOK P t54:=t53_ok.aP c_r2_Moment

def F_r2_Call (d:List G):Option (List G) :=
 (callF (F_r1_PartsOf [.s (gi d 0).str]) fun g1=>some [.t (gi g1 1).bool])
def s_r2_Call:FSpec:=⟨55,[.s (.str)],[],[],[.s (.bool)],[],[],[],F_r2_Call⟩
theorem b_r2_Call:BodyOK P t54 nL0 Tryz.f55 s_r2_Call:=fun d=>by kernel_rfl
theorem c_r2_Call:COK P s_r2_Call:=bdC hm t54_ok Tryz.func55 (nLk _ _ _) b_r2_Call
def t55:Tab:=t54.addP s_r2_Call
theorem t55_ok:TabOK P t55:=t54_ok.aP c_r2_Call

def st_r2_only_2 (d:List G):Option (Option Nat × List G) :=
 (bif (ltI (gi d 3).int (gi d 2).int) then (bif ((nnI (gi d 3).int)&&(ltI (gi d 3).int (((gi d 0).str.size:Nat):Int))) then (callF (F_strings_IndexByte [.s (gi d 1).str,.i (((gi d 0).str.data.toList.getD (((gi d 3).int).toNat) 0).toNat:Int)]) fun g1=>(bif (ltI (gi g1 0).int 0) then some (some 0,[.t false]) else (bif (inI ((gi d 3).int+1)) then some (none,[.s (gi d 0).str,.s (gi d 1).str,.i (gi d 2).int,.i ((gi d 3).int+1)]) else none))) else none) else some (some 1,[]))
def l_r2_only_2:LSpec:=⟨2,[],⟨18,[(0,.s (.str)),(1,.s (.str)),(7,.s (.int .i64)),(8,.s (.int .i64))],[]⟩,[],[⟨.ret,⟨18,[(4,.s (.bool))],[]⟩,[]⟩,⟨.exit 0,⟨18,[],[]⟩,[]⟩],st_r2_only_2⟩
theorem r_r2_only_2:RoundOK P t55 nL0 0 (loopAt Tryz.f96 2) l_r2_only_2:=fun d=>by kernel_rfl
def L_r2_only_2:LT:=nL0.add 0 l_r2_only_2
theorem L_r2_only_2_ok:LpK P 0 L_r2_only_2 (bodyOf Tryz.f96):=LpK.a hm t55_ok (nLk _ _ _) r_r2_only_2
def F_r2_only (d:List G):Option (List G) :=
 (loopB true (LRun st_r2_only_2 [.s (gi d 0).str,.s (gi d 1).str,.i (((gi d 0).str.size:Nat):Int),.i 0]) fun cg2 g2=>(bif Nat.beq cg2 0 then some [.t (gi g2 0).bool] else some [.t true]))
def s_r2_only:FSpec:=⟨96,[.s (.str),.s (.str)],[],[],[.s (.bool)],[],[],[],F_r2_only⟩
theorem b_r2_only:BodyOK P t55 L_r2_only_2 Tryz.f96 s_r2_only:=fun d=>by kernel_rfl
theorem c_r2_only:COK P s_r2_only:=bdC hm t55_ok Tryz.func96 L_r2_only_2_ok b_r2_only
def t56:Tab:=t55.addP s_r2_only
theorem t56_ok:TabOK P t56:=t55_ok.aP c_r2_only

def F_r2_Key (d:List G):Option (List G) :=
 (callF (F_r2_in [.i (((gi d 0).str.size:Nat):Int),.i 1,.i 40]) fun g1=>(bif (gi g1 0).bool then (bif (leI 1 (((gi d 0).str.size:Nat):Int)) then (callF (F_r2_only [.s ((gi d 0).str.extract 0 1),.s (⟨#[97,98,99,100,101,102,103,104,105,106,107,108,109,110,111,112,113,114,115,116,117,118,119,120,121,122]⟩:ByteArray)]) fun g2=>(bif (gi g2 0).bool then (callF (F_r2_only [.s (gi d 0).str,.s (⟨#[97,98,99,100,101,102,103,104,105,106,107,108,109,110,111,112,113,114,115,116,117,118,119,120,121,122,48,49,50,51,52,53,54,55,56,57,45,95]⟩:ByteArray)]) fun g3=>some [.t (gi g3 0).bool]) else some [.t false])) else none) else some [.t false]))
def s_r2_Key:FSpec:=⟨56,[.s (.str)],[],[],[.s (.bool)],[],[],[],F_r2_Key⟩
theorem b_r2_Key:BodyOK P t56 nL0 Tryz.f56 s_r2_Key:=fun d=>by kernel_rfl
theorem c_r2_Key:COK P s_r2_Key:=bdC hm t56_ok Tryz.func56 (nLk _ _ _) b_r2_Key
def t57:Tab:=t56.addP s_r2_Key
theorem t57_ok:TabOK P t57:=t56_ok.aP c_r2_Key

def st_r2_CardsFault_4 (d:List G):Option (Option Nat × List G) :=
 (bif (ltI (gi d 3).int (gi d 2).int) then (bif ((nnI (gi d 3).int)&&(ltI (gi d 3).int (((gi d 1).rows.length:Nat):Int))) then (callF (F_r2_Moment [.i (gi ((gi d 1).rows.getD (((gi d 3).int).toNat) []) 0).int]) fun g1=>(bif (!(gi g1 0).bool) then some (some 0,[.i 1]) else (callF (F_r2_in [.i (gi ((gi d 1).rows.getD (((gi d 3).int).toNat) []) 1).int,.i 1,.i 3]) fun g2=>(bif (!(gi g2 0).bool) then some (some 0,[.i 4]) else (callF (F_r2_in [.i (gi ((gi d 1).rows.getD (((gi d 3).int).toNat) []) 2).int,.i 1,.i 3]) fun g3=>(bif (!(gi g3 0).bool) then some (some 0,[.i 4]) else (callF (F_r2_Call [.s (gi ((gi d 1).rows.getD (((gi d 3).int).toNat) []) 3).str]) fun g4=>(bif (!(gi g4 0).bool) then some (some 0,[.i 3]) else (callF (F_r2_Key [.s (gi ((gi d 1).rows.getD (((gi d 3).int).toNat) []) 4).str]) fun g5=>(bif (!(gi g5 0).bool) then some (some 0,[.i 5]) else (bif (ltI 0 (gi d 3).int) then (bif (inI ((gi d 3).int-1)) then (bif ((nnI ((gi d 3).int-1))&&(ltI ((gi d 3).int-1) (((gi d 0).rows.length:Nat):Int))) then (callF (F_r2_CardOrder [.l [(gEta KCard ((gi d 0).rows.getD (((gi d 3).int-1).toNat) []))],.l [(gEta KCard ((gi d 1).rows.getD (((gi d 3).int).toNat) []))]]) fun g6=>(bif (leI 0 (gi g6 0).int) then some (some 0,[.i 7]) else (bif (inI ((gi d 3).int+1)) then some (none,[.l (gi d 0).rows,.l (gi d 1).rows,.i (gi d 2).int,.i ((gi d 3).int+1)]) else none))) else none) else none) else (bif (inI ((gi d 3).int+1)) then some (none,[.l (gi d 0).rows,.l (gi d 1).rows,.i (gi d 2).int,.i ((gi d 3).int+1)]) else none)))))))))))) else none) else some (some 1,[]))
def l_r2_CardsFault_4:LSpec:=⟨4,[],⟨55,[(0,.s (.list KCard)),(8,.s (.list KCard)),(9,.s (.int .i64)),(10,.s (.int .i64))],[]⟩,[],[⟨.ret,⟨55,[(2,.s (.int .i64))],[]⟩,[]⟩,⟨.exit 0,⟨55,[],[]⟩,[]⟩],st_r2_CardsFault_4⟩
theorem r_r2_CardsFault_4:RoundOK P t57 nL0 0 (loopAt Tryz.f71 4) l_r2_CardsFault_4:=fun d=>by kernel_rfl
def L_r2_CardsFault_4:LT:=nL0.add 0 l_r2_CardsFault_4
theorem L_r2_CardsFault_4_ok:LpK P 0 L_r2_CardsFault_4 (bodyOf Tryz.f71):=LpK.a hm t57_ok (nLk _ _ _) r_r2_CardsFault_4
def F_r2_CardsFault (d:List G):Option (List G) :=
 (bif (ltI 3000 (((gi d 0).rows.length:Nat):Int)) then some [.i 2] else (loopB true (LRun st_r2_CardsFault_4 [.l (gi d 0).rows,.l (gi d 0).rows,.i (((gi d 0).rows.length:Nat):Int),.i 0]) fun cg7 g7=>(bif Nat.beq cg7 0 then some [.i (gi g7 0).int] else some [.i 0])))
def s_r2_CardsFault:FSpec:=⟨71,[.s (.list KCard)],[],[],[.s (.int .i64)],[],[],[],F_r2_CardsFault⟩
theorem b_r2_CardsFault:BodyOK P t57 L_r2_CardsFault_4 Tryz.f71 s_r2_CardsFault:=fun d=>by kernel_rfl
theorem c_r2_CardsFault:COK P s_r2_CardsFault:=bdC hm t57_ok Tryz.func71 L_r2_CardsFault_4_ok b_r2_CardsFault
def t58:Tab:=t57.addP s_r2_CardsFault
theorem t58_ok:TabOK P t58:=t57_ok.aP c_r2_CardsFault

def st_mk_RightCards_2 (d:List G):Option (Option Nat × List G) :=
 (bif (ltI (gi d 3).int 5) then (callF (F_mk_Cards [.l (gi d 0).rows,.i (gi d 1).int,.i (gi d 2).int]) fun g1=>(callF (F_r2_CardsFault [.l (gi g1 2).rows]) fun g2=>(bif ((gi g2 0).int==0) then some (some 0,[.l (gi g1 0).rows,.i (gi g1 1).int,.l (gi g1 2).rows]) else (bif (inI ((gi d 3).int+1)) then some (none,[.l (gi g1 0).rows,.i (gi g1 1).int,.i (gi d 2).int,.i ((gi d 3).int+1)]) else none)))) else some (some 1,[.l (gi d 0).rows,.i (gi d 1).int]))
def l_mk_RightCards_2:LSpec:=⟨2,[],⟨16,[(0,.s (.ptr 0 0)),(1,.s (.int .i64)),(6,.s (.int .i64))],[.box [.list [.int .i64],.int .i64]]⟩,[.fix 0],[⟨.ret,⟨16,[(4,.s (.list KCard))],[.box [.list [.int .i64],.int .i64]]⟩,[.fix 0]⟩,⟨.exit 0,⟨16,[],[.box [.list [.int .i64],.int .i64]]⟩,[.fix 0]⟩],st_mk_RightCards_2⟩
theorem r_mk_RightCards_2:RoundOK P t58 nL0 1 (loopAt Tryz.f26 2) l_mk_RightCards_2:=fun d=>by kernel_rfl
def L_mk_RightCards_2:LT:=nL0.add 1 l_mk_RightCards_2
theorem L_mk_RightCards_2_ok:LpK P 1 L_mk_RightCards_2 (bodyOf Tryz.f26):=LpK.a hm t58_ok (nLk _ _ _) r_mk_RightCards_2
def F_mk_RightCards (d:List G):Option (List G) :=
 (loopB true (LRun st_mk_RightCards_2 [.l (gi d 0).rows,.i (gi d 1).int,.i (gi d 2).int,.i 0]) fun cg3 g3=>(bif Nat.beq cg3 0 then some [.l (gi g3 0).rows,.i (gi g3 1).int,.l (gi g3 2).rows] else some [.l (gi g3 0).rows,.i (gi g3 1).int,.l []]))
def s_mk_RightCards:FSpec:=⟨26,[.s (.ptr 0 0),.s (.int .i64)],[.box [.list [.int .i64],.int .i64]],[.slot 0],[.s (.list KCard)],[.box [.list [.int .i64],.int .i64]],[.fix 0],[],F_mk_RightCards⟩
theorem b_mk_RightCards:BodyOK P t58 L_mk_RightCards_2 Tryz.f26 s_mk_RightCards:=fun d=>by kernel_rfl
theorem c_mk_RightCards:COK P s_mk_RightCards:=bdC hm t58_ok Tryz.func26 L_mk_RightCards_2_ok b_mk_RightCards
def t59:Tab:=t58.addW s_mk_RightCards
theorem t59_ok:TabOK P t59:=t58_ok.aW c_mk_RightCards

def st_mk_Entrants_6 (d:List G):Option (Option Nat × List G) :=
 (bif (ltI (gi d 9).int (gi d 8).int) then (bif ((nnI (gi d 9).int)&&(ltI (gi d 9).int (((gi d 7).rows.length:Nat):Int))) then (callF (F_mk_Flip [.l (gi d 0).rows,.i (gi d 1).int,.i 3]) fun g1=>(bif (gi g1 2).bool then (bif (inI ((gi d 9).int+1)) then (bif ((Nat.beq (gi d 2).rows.length (gi d 2).rows.length)&&true) then some (none,[.l (gi g1 0).rows,.i (gi g1 1).int,.l (gi d 2).rows,.s (gi d 3).str,.l (gi d 4).rows,.i (gi d 5).int,.i (gi d 6).int,.l (gi d 7).rows,.i (gi d 8).int,.i ((gi d 9).int+1)]) else none) else none) else (callF (F_mk_Pick [.l (gi g1 0).rows,.i (gi g1 1).int,.l [[.i 0],[.i 80],[.i 80],[.i 90],[.i 100],[.i 1000]]]) fun g2=>(callF (F_mk_Some [.l (gi g2 0).rows,.i (gi g2 1).int,.l [[.s (⟨#[]⟩:ByteArray)],[.s (⟨#[107,112,50,48,108,102]⟩:ByteArray)]]]) fun g3=>(callF (F_mk_Flip [.l (gi g3 0).rows,.i (gi g3 1).int,.i 80]) fun g4=>(bif (gi g4 2).bool then (callF (F_mk_Some [.l (gi g4 0).rows,.i (gi g4 1).int,.l [[.s (gi ((gi d 7).rows.getD (((gi d 9).int).toNat) []) 0).str],[.s (⟨#[]⟩:ByteArray)]]]) fun g5=>(callF (F_mk_Some [.l (gi g5 0).rows,.i (gi g5 1).int,.l [[.s (gi d 3).str],[.s (⟨#[65]⟩:ByteArray)]]]) fun g6=>(callF (F_mk_Odd [.l (gi g6 0).rows,.i (gi g6 1).int,.i 0,.i 1000000000000]) fun g7=>(callF (F_mk_Some [.l (gi g7 0).rows,.i (gi g7 1).int,.l [[.s (⟨#[]⟩:ByteArray)],[.s (⟨#[107,112,50,48]⟩:ByteArray)]]]) fun g8=>(bif ((Nat.beq (gi d 2).rows.length (gi d 2).rows.length)&&(decide (((gi d 2).rows.length+1)≤1048576))) then (bif (inI ((gi d 9).int+1)) then (bif ((Nat.beq ((gi d 2).rows++([[.s (gi g5 2).str,.s (gi g6 2).str,.i (gi g7 2).int,.s (gi g8 2).str]]:List (List G))).length ((gi d 2).rows++([[.s (gi g5 2).str,.s (gi g6 2).str,.i (gi g7 2).int,.s (gi g8 2).str]]:List (List G))).length)&&true) then some (none,[.l (gi g8 0).rows,.i (gi g8 1).int,.l ((gi d 2).rows++([[.s (gi g5 2).str,.s (gi g6 2).str,.i (gi g7 2).int,.s (gi g8 2).str]]:List (List G))),.s (gi d 3).str,.l (gi d 4).rows,.i (gi d 5).int,.i (gi d 6).int,.l (gi d 7).rows,.i (gi d 8).int,.i ((gi d 9).int+1)]) else none) else none) else none))))) else (bif ((Nat.beq (gi d 2).rows.length (gi d 2).rows.length)&&(decide (((gi d 2).rows.length+1)≤1048576))) then (bif (inI ((gi d 9).int+1)) then (bif ((Nat.beq ((gi d 2).rows++([[.s (gi ((gi d 7).rows.getD (((gi d 9).int).toNat) []) 0).str,.s (gi d 3).str,.i (gi g2 2).int,.s (gi g3 2).str]]:List (List G))).length ((gi d 2).rows++([[.s (gi ((gi d 7).rows.getD (((gi d 9).int).toNat) []) 0).str,.s (gi d 3).str,.i (gi g2 2).int,.s (gi g3 2).str]]:List (List G))).length)&&true) then some (none,[.l (gi g4 0).rows,.i (gi g4 1).int,.l ((gi d 2).rows++([[.s (gi ((gi d 7).rows.getD (((gi d 9).int).toNat) []) 0).str,.s (gi d 3).str,.i (gi g2 2).int,.s (gi g3 2).str]]:List (List G))),.s (gi d 3).str,.l (gi d 4).rows,.i (gi d 5).int,.i (gi d 6).int,.l (gi d 7).rows,.i (gi d 8).int,.i ((gi d 9).int+1)]) else none) else none) else none))))))) else none) else (bif ((Nat.beq (gi d 2).rows.length (gi d 2).rows.length)&&true) then some (some 0,[.l (gi d 0).rows,.i (gi d 1).int,.l (gi d 2).rows,.l (gi d 4).rows,.i (gi d 5).int,.i (gi d 6).int]) else none))
def l_mk_Entrants_6:LSpec:=⟨6,[],⟨58,[(0,.s (.ptr 0 0)),(3,.s (.vec 1 4)),(5,.s (.str)),(9,.s (.list [.str])),(10,.s (.int .i64)),(11,.s (.int .i64)),(15,.s (.list [.str])),(16,.s (.int .i64)),(17,.s (.int .i64))],[.box [.list [.int .i64],.int .i64],.vec KMember 0]⟩,[.fix 0,.slot 3],[⟨.exit 2,⟨58,[(0,.s (.ptr 0 0)),(3,.s (.vec 1 4)),(9,.s (.list [.str])),(10,.s (.int .i64)),(11,.s (.int .i64))],[.box [.list [.int .i64],.int .i64],.vec KMember 0]⟩,[.fix 0,.slot 3]⟩],st_mk_Entrants_6⟩
theorem r_mk_Entrants_6:RoundOK P t59 nL0 1 (loopAt Tryz.f7 6) l_mk_Entrants_6:=fun d=>by kernel_rfl
def L_mk_Entrants_6:LT:=nL0.add 1 l_mk_Entrants_6
theorem L_mk_Entrants_6_ok:LpK P 1 L_mk_Entrants_6 (bodyOf Tryz.f7):=LpK.a hm t59_ok (nLk _ _ _) r_mk_Entrants_6
def st_mk_Entrants_3 (d:List G):Option (Option Nat × List G) :=
 (bif (ltI (gi d 5).int (gi d 4).int) then (bif ((nnI (gi d 5).int)&&(ltI (gi d 5).int (((gi d 3).rows.length:Nat):Int))) then (loopB ((Nat.beq (gi d 2).rows.length (gi d 2).rows.length)&&true) (LRun st_mk_Entrants_6 [.l (gi d 0).rows,.i (gi d 1).int,.l (gi d 2).rows,.s (gi ((gi d 3).rows.getD (((gi d 5).int).toNat) []) 0).str,.l (gi d 3).rows,.i (gi d 4).int,.i (gi d 5).int,.l [[.s (⟨#[107,49,97,98]⟩:ByteArray)],[.s (⟨#[107,49,97,98,47,52]⟩:ByteArray)],[.s (⟨#[111,104,50,97,98,99]⟩:ByteArray)],[.s (⟨#[111,104,50,97,98,100]⟩:ByteArray)],[.s (⟨#[119,49,97,119]⟩:ByteArray)]],.i 5,.i 0]) fun cg9 g9=>(bif (inI ((gi g9 5).int+1)) then (bif ((Nat.beq (gi g9 2).rows.length (gi g9 2).rows.length)&&true) then some (none,[.l (gi g9 0).rows,.i (gi g9 1).int,.l (gi g9 2).rows,.l (gi g9 3).rows,.i (gi g9 4).int,.i ((gi g9 5).int+1)]) else none) else none)) else none) else (bif ((Nat.beq (gi d 2).rows.length (gi d 2).rows.length)&&true) then some (some 0,[.l (gi d 0).rows,.i (gi d 1).int,.l (gi d 2).rows]) else none))
def l_mk_Entrants_3:LSpec:=⟨3,[(3,KMember)],⟨58,[(0,.s (.ptr 0 0)),(3,.s (.vec 1 4)),(9,.s (.list [.str])),(10,.s (.int .i64)),(11,.s (.int .i64))],[.box [.list [.int .i64],.int .i64],.vec KMember 0]⟩,[.fix 0,.slot 3],[⟨.exit 0,⟨58,[(3,.s (.vec 1 4))],[.box [.list [.int .i64],.int .i64],.vec KMember 0]⟩,[.fix 0,.slot 3]⟩],st_mk_Entrants_3⟩
theorem r_mk_Entrants_3:RoundOK P t59 L_mk_Entrants_6 1 (loopAt Tryz.f7 3) l_mk_Entrants_3:=fun d=>by kernel_rfl
def L_mk_Entrants_3:LT:=L_mk_Entrants_6.add 1 l_mk_Entrants_3
theorem L_mk_Entrants_3_ok:LpK P 1 L_mk_Entrants_3 (bodyOf Tryz.f7):=LpK.a hm t59_ok L_mk_Entrants_6_ok r_mk_Entrants_3
def F_mk_Entrants (d:List G):Option (List G) :=
 (loopB true (LRun st_mk_Entrants_3 [.l (gi d 0).rows,.i (gi d 1).int,.l [],.l [[.s (⟨#[97,108,108]⟩:ByteArray)],[.s (⟨#[99,111,100,101]⟩:ByteArray)]],.i 2,.i 0]) fun cg10 g10=>(bif ((Nat.beq (gi g10 2).rows.length (gi g10 2).rows.length)&&true) then some [.l (gi g10 0).rows,.i (gi g10 1).int,.l (gi g10 2).rows] else none))
def s_mk_Entrants:FSpec:=⟨7,[.s (.ptr 0 0)],[.box [.list [.int .i64],.int .i64]],[.slot 0],[.s (.list KMember)],[.box [.list [.int .i64],.int .i64]],[.fix 0],[],F_mk_Entrants⟩
theorem b_mk_Entrants:BodyOK P t59 L_mk_Entrants_3 Tryz.f7 s_mk_Entrants:=fun d=>by kernel_rfl
theorem c_mk_Entrants:COK P s_mk_Entrants:=bdC hm t59_ok Tryz.func7 L_mk_Entrants_3_ok b_mk_Entrants
def t60:Tab:=t59.addW s_mk_Entrants
theorem t60_ok:TabOK P t60:=t59_ok.aW c_mk_Entrants

def F_club_compareCards (d:List G):Option (List G) :=
 (callF (F_cmp_Compare_int [.i (gi (gi d 0).row 0).int,.i (gi (gi d 1).row 0).int]) fun g1=>(callF (F_strings_Compare [.s (gi (gi d 0).row 3).str,.s (gi (gi d 1).row 3).str]) fun g2=>(callF (F_strings_Compare [.s (gi (gi d 0).row 4).str,.s (gi (gi d 1).row 4).str]) fun g3=>(callF (F_cmp_Compare_int [.i (gi (gi d 0).row 2).int,.i (gi (gi d 1).row 2).int]) fun g4=>(callF (F_cmp_Compare_int [.i (gi (gi d 0).row 1).int,.i (gi (gi d 1).row 1).int]) fun g5=>(callF (F_cmp_Or_int [.l [[.i (gi g1 0).int],[.i (gi g2 0).int],[.i (gi g3 0).int],[.i (gi g4 0).int],[.i (gi g5 0).int]]]) fun g6=>some [.i (gi g6 0).int]))))))
def s_club_compareCards:FSpec:=⟨75,[.s (.row KCard),.s (.row KCard)],[],[],[.s (.int .i64)],[],[],[],F_club_compareCards⟩
theorem b_club_compareCards:BodyOK P t60 nL0 Tryz.f75 s_club_compareCards:=fun d=>by kernel_rfl
theorem c_club_compareCards:COK P s_club_compareCards:=bdC hm t60_ok Tryz.func75 (nLk _ _ _) b_club_compareCards
def t61:Tab:=t60.addP s_club_compareCards
theorem t61_ok:TabOK P t61:=t60_ok.aP c_club_compareCards

def st_club_CheckCards_4 (d:List G):Option (Option Nat × List G) :=
 (bif (ltI (gi d 3).int (gi d 2).int) then (bif ((nnI (gi d 3).int)&&(ltI (gi d 3).int (((gi d 1).rows.length:Nat):Int))) then (callF (F_kit_IsMoment [.i (gi ((gi d 1).rows.getD (((gi d 3).int).toNat) []) 0).int]) fun g1=>(bif (!(gi g1 0).bool) then some (some 0,[.i 1]) else (callF (F_kit_Outside [.i (gi ((gi d 1).rows.getD (((gi d 3).int).toNat) []) 1).int,.i 1,.i 3]) fun g2=>(bif (gi g2 0).bool then some (some 0,[.i 4]) else (callF (F_kit_IsMode [.i (gi ((gi d 1).rows.getD (((gi d 3).int).toNat) []) 2).int]) fun g3=>(bif (!(gi g3 0).bool) then some (some 0,[.i 4]) else (callF (F_call_Is [.s (gi ((gi d 1).rows.getD (((gi d 3).int).toNat) []) 3).str]) fun g4=>(bif (!(gi g4 0).bool) then some (some 0,[.i 3]) else (callF (F_kit_IsKey [.s (gi ((gi d 1).rows.getD (((gi d 3).int).toNat) []) 4).str]) fun g5=>(bif (!(gi g5 0).bool) then some (some 0,[.i 5]) else (bif (ltI 0 (gi d 3).int) then (bif (inI ((gi d 3).int-1)) then (bif ((nnI ((gi d 3).int-1))&&(ltI ((gi d 3).int-1) (((gi d 0).rows.length:Nat):Int))) then (callF (F_club_compareCards [.l [(gEta KCard ((gi d 0).rows.getD (((gi d 3).int-1).toNat) []))],.l [(gEta KCard ((gi d 1).rows.getD (((gi d 3).int).toNat) []))]]) fun g6=>(bif (leI 0 (gi g6 0).int) then some (some 0,[.i 7]) else (bif (inI ((gi d 3).int+1)) then some (none,[.l (gi d 0).rows,.l (gi d 1).rows,.i (gi d 2).int,.i ((gi d 3).int+1)]) else none))) else none) else none) else (bif (inI ((gi d 3).int+1)) then some (none,[.l (gi d 0).rows,.l (gi d 1).rows,.i (gi d 2).int,.i ((gi d 3).int+1)]) else none)))))))))))) else none) else some (some 1,[]))
def l_club_CheckCards_4:LSpec:=⟨4,[],⟨54,[(0,.s (.list KCard)),(8,.s (.list KCard)),(9,.s (.int .i64)),(10,.s (.int .i64))],[]⟩,[],[⟨.ret,⟨54,[(2,.s (.int .i64))],[]⟩,[]⟩,⟨.exit 0,⟨54,[],[]⟩,[]⟩],st_club_CheckCards_4⟩
theorem r_club_CheckCards_4:RoundOK P t61 nL0 0 (loopAt Tryz.f72 4) l_club_CheckCards_4:=fun d=>by kernel_rfl
def L_club_CheckCards_4:LT:=nL0.add 0 l_club_CheckCards_4
theorem L_club_CheckCards_4_ok:LpK P 0 L_club_CheckCards_4 (bodyOf Tryz.f72):=LpK.a hm t61_ok (nLk _ _ _) r_club_CheckCards_4
def F_club_CheckCards (d:List G):Option (List G) :=
 (bif (ltI 3000 (((gi d 0).rows.length:Nat):Int)) then some [.i 2] else (loopB true (LRun st_club_CheckCards_4 [.l (gi d 0).rows,.l (gi d 0).rows,.i (((gi d 0).rows.length:Nat):Int),.i 0]) fun cg7 g7=>(bif Nat.beq cg7 0 then some [.i (gi g7 0).int] else some [.i 0])))
def s_club_CheckCards:FSpec:=⟨72,[.s (.list KCard)],[],[],[.s (.int .i64)],[],[],[],F_club_CheckCards⟩
theorem b_club_CheckCards:BodyOK P t61 L_club_CheckCards_4 Tryz.f72 s_club_CheckCards:=fun d=>by kernel_rfl
theorem c_club_CheckCards:COK P s_club_CheckCards:=bdC hm t61_ok Tryz.func72 L_club_CheckCards_4_ok b_club_CheckCards
def t62:Tab:=t61.addP s_club_CheckCards
theorem t62_ok:TabOK P t62:=t61_ok.aP c_club_CheckCards

def F_sl_Grow_Card_f (d:List G):Option (List G) :=
 (bif (ltI (gi d 0).int 0) then none else (bif (inI ((gi d 0).int-0)) then (bif (ltI 0 ((gi d 0).int-0)) then (bif ((ltI 0 ((gi d 0).int-0))&&(leI ((gi d 0).int-0) 1048576)) then (bif (leI 0 ((((gi d 0).int-0).toNat:Nat):Int)) then (bif ((Nat.ble 0 (List.replicate (((gi d 0).int-0).toNat) ([.i 0,.i 0,.i 0,.s (⟨#[]⟩:ByteArray),.s (⟨#[]⟩:ByteArray)]:List G)).length)&&true) then some [.l ((List.replicate (((gi d 0).int-0).toNat) ([.i 0,.i 0,.i 0,.s (⟨#[]⟩:ByteArray),.s (⟨#[]⟩:ByteArray)]:List G)).take 0)] else none) else none) else none) else some [.l []]) else none))
def s_sl_Grow_Card_f:FSpec:=⟨112,[.s (.nil),.s (.int .i64)],[],[],[.s (.vec 0 5)],[.vec KCard 0],[.slot 0],[(4,KCard)],F_sl_Grow_Card_f⟩
theorem b_sl_Grow_Card_f:BodyOK P t62 (nL0.hinted [(6,[.trunc 0])]) Tryz.f112 s_sl_Grow_Card_f:=fun d=>by kernel_rfl
theorem c_sl_Grow_Card_f:COK P s_sl_Grow_Card_f:=bdC hm t62_ok Tryz.func112 (hinted_ok _) b_sl_Grow_Card_f
def t63:Tab:=t62.addW s_sl_Grow_Card_f
theorem t63_ok:TabOK P t63:=t62_ok.aW c_sl_Grow_Card_f

def st_sl_Concat_Card_f_3 (d:List G):Option (Option Nat × List G) :=
 (bif (ltI (gi d 4).int (gi d 3).int) then (bif ((nnI (gi d 4).int)&&(ltI (gi d 4).int (((gi d 2).rows.length:Nat):Int))) then (bif (inI ((gi d 1).int+(((gi ((gi d 2).rows.getD (((gi d 4).int).toNat) []) 0).rows.length:Nat):Int))) then (bif (ltI ((gi d 1).int+(((gi ((gi d 2).rows.getD (((gi d 4).int).toNat) []) 0).rows.length:Nat):Int)) 0) then none else (bif (inI ((gi d 4).int+1)) then some (none,[.l (gi d 0).rows,.i ((gi d 1).int+(((gi ((gi d 2).rows.getD (((gi d 4).int).toNat) []) 0).rows.length:Nat):Int)),.l (gi d 2).rows,.i (gi d 3).int,.i ((gi d 4).int+1)]) else none)) else none) else none) else some (some 0,[.l (gi d 0).rows,.i (gi d 1).int]))
def l_sl_Concat_Card_f_3:LSpec:=⟨3,[],⟨36,[(0,.s (.list [.list KCard])),(3,.s (.int .i64)),(9,.s (.list [.list KCard])),(10,.s (.int .i64)),(11,.s (.int .i64))],[]⟩,[],[⟨.exit 0,⟨36,[(0,.s (.list [.list KCard])),(3,.s (.int .i64))],[]⟩,[]⟩],st_sl_Concat_Card_f_3⟩
theorem r_sl_Concat_Card_f_3:RoundOK P t63 nL0 0 (loopAt Tryz.f73 3) l_sl_Concat_Card_f_3:=fun d=>by kernel_rfl
def L_sl_Concat_Card_f_3:LT:=nL0.add 0 l_sl_Concat_Card_f_3
theorem L_sl_Concat_Card_f_3_ok:LpK P 0 L_sl_Concat_Card_f_3 (bodyOf Tryz.f73):=LpK.a hm t63_ok (nLk _ _ _) r_sl_Concat_Card_f_3
def st_sl_Concat_Card_f_11 (d:List G):Option (Option Nat × List G) :=
 (bif (ltI (gi d 3).int (gi d 2).int) then (bif ((nnI (gi d 3).int)&&(ltI (gi d 3).int (((gi d 1).rows.length:Nat):Int))) then (bif ((Nat.beq (gi d 0).rows.length (gi d 0).rows.length)&&(decide (((gi d 0).rows.length+(gi ((gi d 1).rows.getD (((gi d 3).int).toNat) []) 0).rows.length)≤1048576))) then (bif (inI ((gi d 3).int+1)) then (bif ((Nat.beq ((gi d 0).rows++(gi ((gi d 1).rows.getD (((gi d 3).int).toNat) []) 0).rows).length ((gi d 0).rows++(gi ((gi d 1).rows.getD (((gi d 3).int).toNat) []) 0).rows).length)&&true) then some (none,[.l ((gi d 0).rows++(gi ((gi d 1).rows.getD (((gi d 3).int).toNat) []) 0).rows),.l (gi d 1).rows,.i (gi d 2).int,.i ((gi d 3).int+1)]) else none) else none) else none) else none) else (bif ((Nat.beq (gi d 0).rows.length (gi d 0).rows.length)&&true) then some (some 0,[.l (gi d 0).rows]) else none))
def l_sl_Concat_Card_f_11:LSpec:=⟨11,[],⟨36,[(6,.s (.vec 0 5)),(25,.s (.list [.list KCard])),(26,.s (.int .i64)),(27,.s (.int .i64))],[.vec KCard 0]⟩,[.slot 6],[⟨.exit 2,⟨36,[(6,.s (.vec 0 5))],[.vec KCard 0]⟩,[.slot 6]⟩],st_sl_Concat_Card_f_11⟩
theorem r_sl_Concat_Card_f_11:RoundOK P t63 L_sl_Concat_Card_f_3 0 (loopAt Tryz.f73 11) l_sl_Concat_Card_f_11:=fun d=>by kernel_rfl
def L_sl_Concat_Card_f_11:LT:=L_sl_Concat_Card_f_3.add 0 l_sl_Concat_Card_f_11
theorem L_sl_Concat_Card_f_11_ok:LpK P 0 L_sl_Concat_Card_f_11 (bodyOf Tryz.f73):=LpK.a hm t63_ok L_sl_Concat_Card_f_3_ok r_sl_Concat_Card_f_11
def F_sl_Concat_Card_f (d:List G):Option (List G) :=
 (loopB true (LRun st_sl_Concat_Card_f_3 [.l (gi d 0).rows,.i 0,.l (gi d 0).rows,.i (((gi d 0).rows.length:Nat):Int),.i 0]) fun cg1 g1=>(callF (F_sl_Grow_Card_f [.i (gi g1 1).int]) fun g2=>(loopB ((Nat.beq (gi g2 0).rows.length (gi g2 0).rows.length)&&true) (LRun st_sl_Concat_Card_f_11 [.l (gi g2 0).rows,.l (gi g1 0).rows,.i (((gi g1 0).rows.length:Nat):Int),.i 0]) fun cg3 g3=>(bif ((Nat.beq (gi g3 0).rows.length (gi g3 0).rows.length)&&true) then some [.l (gi g3 0).rows] else none))))
def s_sl_Concat_Card_f:FSpec:=⟨73,[.s (.list [.list KCard])],[],[],[.s (.vec 0 5)],[.vec KCard 0],[.slot 0],[],F_sl_Concat_Card_f⟩
theorem b_sl_Concat_Card_f:BodyOK P t63 L_sl_Concat_Card_f_11 Tryz.f73 s_sl_Concat_Card_f:=fun d=>by kernel_rfl
theorem c_sl_Concat_Card_f:COK P s_sl_Concat_Card_f:=bdC hm t63_ok Tryz.func73 L_sl_Concat_Card_f_11_ok b_sl_Concat_Card_f
def t64:Tab:=t63.addW s_sl_Concat_Card_f
theorem t64_ok:TabOK P t64:=t63_ok.aW c_sl_Concat_Card_f

def F_sl_SortFunc_Card (d:List G):Option (List G) :=
 sortG F_club_compareCards d
def s_sl_SortFunc_Card:FSpec:=⟨74,[.s (.vec 0 5),.s (.fn 75)],[.vec KCard 0],[.slot 0],[],[.vec KCard 0],[.fix 0],[],F_sl_SortFunc_Card⟩
theorem c_sl_SortFunc_Card:∀ d r,F_sl_SortFunc_Card d=some r→ACallX P 74 (s_sl_SortFunc_Card.args0 d) (denH (s_sl_SortFunc_Card.H0 d)) (s_sl_SortFunc_Card.out r) (denH (s_sl_SortFunc_Card.H1 r)):=fun d r h=>sortK_call Tryz.laysSort74 KCard (by kernel_rfl) Tryz.isAgg60 Tryz.sizeOf60 75 (by kernel_rfl) F_club_compareCards (fun d r h=>c_club_compareCards d r h) d r h
def t65:Tab:=t64.addW s_sl_SortFunc_Card
theorem t65_ok:TabOK P t65:=t64_ok.aW c_sl_SortFunc_Card

def st_club_MergeCards_f_2 (d:List G):Option (Option Nat × List G) :=
 (bif (ltI (gi d 4).int (gi d 3).int) then (bif ((nnI (gi d 4).int)&&(ltI (gi d 4).int (((gi d 2).rows.length:Nat):Int))) then (callF (F_club_CheckCards [.l (gi ((gi d 2).rows.getD (((gi d 4).int).toNat) []) 0).rows]) fun g1=>(bif ((gi g1 0).int != 0) then some (some 0,[.l [],.i (gi g1 0).int]) else (bif (inI ((gi d 4).int+1)) then some (none,[.l (gi d 0).rows,.l (gi d 1).rows,.l (gi d 2).rows,.i (gi d 3).int,.i ((gi d 4).int+1)]) else none))) else none) else some (some 1,[.l (gi d 0).rows,.l (gi d 1).rows]))
def l_club_MergeCards_f_2:LSpec:=⟨2,[(4,KCard)],⟨36,[(0,.s (.list KCard)),(1,.s (.list KCard)),(12,.s (.list [.list KCard])),(13,.s (.int .i64)),(14,.s (.int .i64))],[]⟩,[],[⟨.ret,⟨36,[(4,.s (.vec 0 5)),(5,.s (.int .i64))],[.vec KCard 0]⟩,[.slot 4]⟩,⟨.exit 0,⟨36,[(0,.s (.list KCard)),(1,.s (.list KCard))],[]⟩,[]⟩],st_club_MergeCards_f_2⟩
theorem r_club_MergeCards_f_2:RoundOK P t65 nL0 0 (loopAt Tryz.f27 2) l_club_MergeCards_f_2:=fun d=>by kernel_rfl
def L_club_MergeCards_f_2:LT:=nL0.add 0 l_club_MergeCards_f_2
theorem L_club_MergeCards_f_2_ok:LpK P 0 L_club_MergeCards_f_2 (bodyOf Tryz.f27):=LpK.a hm t65_ok (nLk _ _ _) r_club_MergeCards_f_2
def F_club_MergeCards_f (d:List G):Option (List G) :=
 (loopB true (LRun st_club_MergeCards_f_2 [.l (gi d 0).rows,.l (gi d 1).rows,.l [[.l (gi d 0).rows],[.l (gi d 1).rows]],.i 2,.i 0]) fun cg2 g2=>(bif Nat.beq cg2 0 then (bif ((Nat.beq (gi g2 0).rows.length ((gi g2 0).rows.take ((gi g2 0).rows.length)).length)&&true) then some [.l ((gi g2 0).rows.take ((gi g2 0).rows.length)),.i (gi g2 1).int] else none) else (callF (F_sl_Concat_Card_f [.l [[.l (gi g2 0).rows],[.l (gi g2 1).rows]]]) fun g3=>(callB (((Nat.beq (gi g3 0).rows.length (gi g3 0).rows.length)&&true)&&(F_sl_SortFunc_Card [.l (gi g3 0).rows]).isSome) (F_sl_SortFunc_Card [.l (gi g3 0).rows]) fun g4=>(callB (((Nat.beq (gi g3 0).rows.length (gi g4 0).rows.length)&&true)&&(F_sl_Compact_Card [.l (gi g4 0).rows]).isSome) (F_sl_Compact_Card [.l (gi g4 0).rows]) fun g5=>(bif (ltI 3000 (((gi g5 1).int.toNat:Nat):Int)) then some [.l [],.i 2] else (bif ((Nat.beq (gi g5 1).int.toNat ((gi g5 0).rows.take ((gi g5 1).int.toNat)).length)&&true) then some [.l ((gi g5 0).rows.take ((gi g5 1).int.toNat)),.i 0] else none)))))))
def s_club_MergeCards_f:FSpec:=⟨27,[.s (.list KCard),.s (.list KCard)],[],[],[.s (.vec 0 5),.s (.int .i64)],[.vec KCard 0],[.slot 0],[(1000004,[]),(4,KCard)],F_club_MergeCards_f⟩
theorem b_club_MergeCards_f:BodyOK P t65 L_club_MergeCards_f_2 Tryz.f27 s_club_MergeCards_f:=fun d=>by kernel_rfl
theorem c_club_MergeCards_f:COK P s_club_MergeCards_f:=bdC hm t65_ok Tryz.func27 L_club_MergeCards_f_2_ok b_club_MergeCards_f
def t66:Tab:=t65.addW s_club_MergeCards_f
theorem t66_ok:TabOK P t66:=t65_ok.aW c_club_MergeCards_f

def st_k2_spoil_Card_2 (d:List G):Option (Option Nat × List G) :=
 (bif (ltI (gi d 7).int (gi d 6).int) then (bif ((nnI (gi d 7).int)&&(ltI (gi d 7).int (((gi d 0).rows.length:Nat):Int))) then (bif (decide ((0+((gi d 7).int).toNat)<(gi d 0).rows.length)) then (bif (inI ((gi d 7).int+1)) then (bif ((Nat.beq (gi d 0).rows.length ((gi d 0).rows.set (0+((gi d 7).int).toNat) (putG KCard ((gi d 0).rows.getD (0+((gi d 7).int).toNat) []) 0 [.i (gi d 1).int,.i (gi d 2).int,.i (gi d 3).int,.s (gi d 4).str,.s (gi d 5).str])).length)&&true) then some (none,[.l ((gi d 0).rows.set (0+((gi d 7).int).toNat) (putG KCard ((gi d 0).rows.getD (0+((gi d 7).int).toNat) []) 0 [.i (gi d 1).int,.i (gi d 2).int,.i (gi d 3).int,.s (gi d 4).str,.s (gi d 5).str])),.i (gi d 1).int,.i (gi d 2).int,.i (gi d 3).int,.s (gi d 4).str,.s (gi d 5).str,.i (gi d 6).int,.i ((gi d 7).int+1)]) else none) else none) else none) else none) else some (some 0,[.l (gi d 0).rows]))
def l_k2_spoil_Card_2:LSpec:=⟨2,[],⟨14,[(0,.s (.vec 0 5)),(2,.s (.ptr 1 0)),(5,.s (.int .i64)),(6,.s (.int .i64))],[.vec KCard 0,.box [.int .i64,.int .i64,.int .i64,.str,.str]]⟩,[.fix 0,.slot 2],[⟨.exit 0,⟨14,[],[.vec KCard 0]⟩,[.fix 0]⟩],st_k2_spoil_Card_2⟩
theorem r_k2_spoil_Card_2:RoundOK P t66 nL0 1 (loopAt Tryz.f28 2) l_k2_spoil_Card_2:=fun d=>by kernel_rfl
def L_k2_spoil_Card_2:LT:=nL0.add 1 l_k2_spoil_Card_2
theorem L_k2_spoil_Card_2_ok:LpK P 1 L_k2_spoil_Card_2 (bodyOf Tryz.f28):=LpK.a hm t66_ok (nLk _ _ _) r_k2_spoil_Card_2
def F_k2_spoil_Card (d:List G):Option (List G) :=
 (loopB ((Nat.beq (gi d 0).rows.length (gi d 0).rows.length)&&true) (LRun st_k2_spoil_Card_2 [.l (gi d 0).rows,.i 0,.i 0,.i 0,.s (⟨#[]⟩:ByteArray),.s (⟨#[]⟩:ByteArray),.i (((gi d 0).rows.length:Nat):Int),.i 0]) fun cg1 g1=>some [.l (gi g1 0).rows])
def s_k2_spoil_Card:FSpec:=⟨28,[.s (.vec 0 5)],[.vec KCard 0],[.slot 0],[],[.vec KCard 0],[.fix 0],[],F_k2_spoil_Card⟩
theorem b_k2_spoil_Card:BodyOK P t66 L_k2_spoil_Card_2 Tryz.f28 s_k2_spoil_Card:=fun d=>by kernel_rfl
theorem c_k2_spoil_Card:COK P s_k2_spoil_Card:=bdC hm t66_ok Tryz.func28 L_k2_spoil_Card_2_ok b_k2_spoil_Card
def t67:Tab:=t66.addW s_k2_spoil_Card
theorem t67_ok:TabOK P t67:=t66_ok.aW c_k2_spoil_Card

def F_club_cardsFault (d:List G):Option (List G) :=
 (callF (F_club_CheckCards [.l (gi d 0).rows]) fun g1=>(bif ((gi g1 0).int != 0) then some [.i (gi g1 0).int] else (callF (F_kit_IsMoment [.i (gi d 1).int]) fun g2=>(bif (!(gi g2 0).bool) then some [.i 1] else some [.i 0]))))
def s_club_cardsFault:FSpec:=⟨77,[.s (.list KCard),.s (.int .i64)],[],[],[.s (.int .i64)],[],[],[],F_club_cardsFault⟩
theorem b_club_cardsFault:BodyOK P t67 nL0 Tryz.f77 s_club_cardsFault:=fun d=>by kernel_rfl
theorem c_club_cardsFault:COK P s_club_cardsFault:=bdC hm t67_ok Tryz.func77 (nLk _ _ _) b_club_cardsFault
def t68:Tab:=t67.addP s_club_cardsFault
theorem t68_ok:TabOK P t68:=t67_ok.aP c_club_cardsFault

def F_club_contactOf (d:List G):Option (List G) :=
 (callF (F_call_BaseOf [.s (gi (gi d 0).row 3).str]) fun g1=>some [.l [[.s (gi g1 0).str,.s (gi (gi d 0).row 4).str,.i (gi (gi d 0).row 2).int]]])
def s_club_contactOf:FSpec:=⟨114,[.s (.row KCard)],[],[],[.s (.row [.str,.str,.int .i64])],[],[],[],F_club_contactOf⟩
theorem b_club_contactOf:BodyOK P t68 nL0 Tryz.f114 s_club_contactOf:=fun d=>by kernel_rfl
theorem c_club_contactOf:COK P s_club_contactOf:=bdC hm t68_ok Tryz.func114 (nLk _ _ _) b_club_contactOf
def t69:Tab:=t68.addP s_club_contactOf
theorem t69_ok:TabOK P t69:=t68_ok.aP c_club_contactOf

def st_club_confirmed_f_4 (d:List G):Option (Option Nat × List G) :=
 (bif (ltI (gi d 6).int (gi d 5).int) then (bif ((nnI (gi d 6).int)&&(ltI (gi d 6).int (((gi d 4).rows.length:Nat):Int))) then (callF (F_club_contactOf [.l [(gEta KCard ((gi d 4).rows.getD (((gi d 6).int).toNat) []))]]) fun g1=>(bif (leI (gi ((gi d 4).rows.getD (((gi d 6).int).toNat) []) 0).int (gi d 3).int) then (bif ((gi ((gi d 4).rows.getD (((gi d 6).int).toNat) []) 1).int==2) then (bif (!(gi (mget [.str,.str,.int .i64] (gi d 0).rows (gEta [.str,.str,.int .i64] (gi g1 0).row) [.t false]) 0).bool) then (bif ((Nat.beq (gi d 2).rows.length (gi d 2).rows.length)&&(decide (((gi d 2).rows.length+1)≤1048576))) then (bif (inI ((gi d 6).int+1)) then (bif ((Nat.beq ((gi d 2).rows++([(gEta KCard ((gi d 4).rows.getD (((gi d 6).int).toNat) []))]:List (List G))).length ((gi d 2).rows++([(gEta KCard ((gi d 4).rows.getD (((gi d 6).int).toNat) []))]:List (List G))).length)&&true) then some (none,[.l (mput [.str,.str,.int .i64] (gi d 0).rows (gEta [.str,.str,.int .i64] (gi g1 0).row) [.t true] (gi d 1).int.toNat),.i (((mclk [.str,.str,.int .i64] (gi d 0).rows (gEta [.str,.str,.int .i64] (gi g1 0).row) (gi d 1).int.toNat):Nat):Int),.l ((gi d 2).rows++([(gEta KCard ((gi d 4).rows.getD (((gi d 6).int).toNat) []))]:List (List G))),.i (gi d 3).int,.l (gi d 4).rows,.i (gi d 5).int,.i ((gi d 6).int+1)]) else none) else none) else none) else (bif (inI ((gi d 6).int+1)) then (bif ((Nat.beq (gi d 2).rows.length (gi d 2).rows.length)&&true) then some (none,[.l (gi d 0).rows,.i (((gi d 1).int.toNat:Nat):Int),.l (gi d 2).rows,.i (gi d 3).int,.l (gi d 4).rows,.i (gi d 5).int,.i ((gi d 6).int+1)]) else none) else none)) else (bif (inI ((gi d 6).int+1)) then (bif ((Nat.beq (gi d 2).rows.length (gi d 2).rows.length)&&true) then some (none,[.l (gi d 0).rows,.i (((gi d 1).int.toNat:Nat):Int),.l (gi d 2).rows,.i (gi d 3).int,.l (gi d 4).rows,.i (gi d 5).int,.i ((gi d 6).int+1)]) else none) else none)) else (bif (inI ((gi d 6).int+1)) then (bif ((Nat.beq (gi d 2).rows.length (gi d 2).rows.length)&&true) then some (none,[.l (gi d 0).rows,.i (((gi d 1).int.toNat:Nat):Int),.l (gi d 2).rows,.i (gi d 3).int,.l (gi d 4).rows,.i (gi d 5).int,.i ((gi d 6).int+1)]) else none) else none))) else none) else (bif ((Nat.beq (gi d 2).rows.length (gi d 2).rows.length)&&true) then some (some 0,[.l (gi d 2).rows]) else none))
def l_club_confirmed_f_4:LSpec:=⟨4,[(6,KCard)],⟨42,[(1,.s (.int .i64)),(5,.s (.map 0)),(6,.s (.vec 1 5)),(11,.s (.list KCard)),(12,.s (.int .i64)),(13,.s (.int .i64))],[.map (.agg [.str,.str,.int .i64]) (.one (.bool)),.vec KCard 0]⟩,[.slot 5,.slot 6],[⟨.exit 0,⟨42,[(6,.s (.vec 0 5))],[.vec KCard 0]⟩,[.slot 6]⟩],st_club_confirmed_f_4⟩
theorem r_club_confirmed_f_4:RoundOK P t69 nL0 0 (loopAt Tryz.f78 4) l_club_confirmed_f_4:=fun d=>by kernel_rfl
def L_club_confirmed_f_4:LT:=nL0.add 0 l_club_confirmed_f_4
theorem L_club_confirmed_f_4_ok:LpK P 0 L_club_confirmed_f_4 (bodyOf Tryz.f78):=LpK.a hm t69_ok (nLk _ _ _) r_club_confirmed_f_4
def F_club_confirmed_f (d:List G):Option (List G) :=
 (loopB true (LRun st_club_confirmed_f_4 [.l [],.i 0,.l [],.i (gi d 1).int,.l (gi d 0).rows,.i (((gi d 0).rows.length:Nat):Int),.i 0]) fun cg2 g2=>(bif ((Nat.beq (gi g2 0).rows.length (gi g2 0).rows.length)&&true) then some [.l (gi g2 0).rows] else none))
def s_club_confirmed_f:FSpec:=⟨78,[.s (.list KCard),.s (.int .i64)],[],[],[.s (.vec 0 5)],[.vec KCard 0],[.slot 0],[],F_club_confirmed_f⟩
theorem b_club_confirmed_f:BodyOK P t69 L_club_confirmed_f_4 Tryz.f78 s_club_confirmed_f:=fun d=>by kernel_rfl
theorem c_club_confirmed_f:COK P s_club_confirmed_f:=bdC hm t69_ok Tryz.func78 L_club_confirmed_f_4_ok b_club_confirmed_f
def t70:Tab:=t69.addW s_club_confirmed_f
theorem t70_ok:TabOK P t70:=t69_ok.aW c_club_confirmed_f

def F_club_Confirmed_f (d:List G):Option (List G) :=
 (callF (F_club_cardsFault [.l (gi d 0).rows,.i (gi d 1).int]) fun g1=>(bif ((gi g1 0).int != 0) then some [.l [],.i (gi g1 0).int] else (callF (F_club_confirmed_f [.l (gi d 0).rows,.i (gi d 1).int]) fun g2=>(bif ((Nat.beq (gi g2 0).rows.length (gi g2 0).rows.length)&&true) then some [.l (gi g2 0).rows,.i 0] else none))))
def s_club_Confirmed_f:FSpec:=⟨29,[.s (.list KCard),.s (.int .i64)],[],[],[.s (.vec 0 5),.s (.int .i64)],[.vec KCard 0],[.slot 0],[(4,KCard)],F_club_Confirmed_f⟩
theorem b_club_Confirmed_f:BodyOK P t70 nL0 Tryz.f29 s_club_Confirmed_f:=fun d=>by kernel_rfl
theorem c_club_Confirmed_f:COK P s_club_Confirmed_f:=bdC hm t70_ok Tryz.func29 (nLk _ _ _) b_club_Confirmed_f
def t71:Tab:=t70.addW s_club_Confirmed_f
theorem t71_ok:TabOK P t71:=t70_ok.aW c_club_Confirmed_f

def st_club_Table_f_8 (d:List G):Option (Option Nat × List G) :=
 (bif (ltI (gi d 4).int (gi d 3).int) then (bif ((nnI (gi d 4).int)&&(ltI (gi d 4).int (((gi d 2).rows.length:Nat):Int))) then (bif ((gi ((gi d 2).rows.getD (((gi d 4).int).toNat) []) 1).str.toList==(gi d 1).str.toList) then (bif ((Nat.beq (gi d 0).rows.length (gi d 0).rows.length)&&(decide (((gi d 0).rows.length+1)≤1048576))) then (bif (inI ((gi d 4).int+1)) then (bif ((Nat.beq ((gi d 0).rows++([[.i 0,.i (gi ((gi d 2).rows.getD (((gi d 4).int).toNat) []) 2).int,.s (gi ((gi d 2).rows.getD (((gi d 4).int).toNat) []) 0).str]]:List (List G))).length ((gi d 0).rows++([[.i 0,.i (gi ((gi d 2).rows.getD (((gi d 4).int).toNat) []) 2).int,.s (gi ((gi d 2).rows.getD (((gi d 4).int).toNat) []) 0).str]]:List (List G))).length)&&true) then some (none,[.l ((gi d 0).rows++([[.i 0,.i (gi ((gi d 2).rows.getD (((gi d 4).int).toNat) []) 2).int,.s (gi ((gi d 2).rows.getD (((gi d 4).int).toNat) []) 0).str]]:List (List G))),.s (gi d 1).str,.l (gi d 2).rows,.i (gi d 3).int,.i ((gi d 4).int+1)]) else none) else none) else none) else (bif (inI ((gi d 4).int+1)) then (bif ((Nat.beq (gi d 0).rows.length (gi d 0).rows.length)&&true) then some (none,[.l (gi d 0).rows,.s (gi d 1).str,.l (gi d 2).rows,.i (gi d 3).int,.i ((gi d 4).int+1)]) else none) else none)) else none) else (bif ((Nat.beq (gi d 0).rows.length (gi d 0).rows.length)&&true) then some (some 0,[.l (gi d 0).rows]) else none))
def l_club_Table_f_8:LSpec:=⟨8,[(7,KPlace)],⟨39,[(1,.s (.str)),(7,.s (.vec 0 3)),(18,.s (.list KMember)),(19,.s (.int .i64)),(20,.s (.int .i64))],[.vec KPlace 0]⟩,[.slot 7],[⟨.exit 0,⟨39,[(7,.s (.vec 0 3))],[.vec KPlace 0]⟩,[.slot 7]⟩],st_club_Table_f_8⟩
theorem r_club_Table_f_8:RoundOK P t71 nL0 0 (loopAt Tryz.f10 8) l_club_Table_f_8:=fun d=>by kernel_rfl
def L_club_Table_f_8:LT:=nL0.add 0 l_club_Table_f_8
theorem L_club_Table_f_8_ok:LpK P 0 L_club_Table_f_8 (bodyOf Tryz.f10):=LpK.a hm t71_ok (nLk _ _ _) r_club_Table_f_8
def F_club_Table_f (d:List G):Option (List G) :=
 (callF (F_club_CheckEntrants [.l (gi d 0).rows]) fun g1=>(bif ((gi g1 0).int != 0) then some [.l [],.i (gi g1 0).int] else (callF (F_kit_IsKey [.s (gi d 1).str]) fun g2=>(bif (!(gi g2 0).bool) then some [.l [],.i 5] else (loopB true (LRun st_club_Table_f_8 [.l [],.s (gi d 1).str,.l (gi d 0).rows,.i (((gi d 0).rows.length:Nat):Int),.i 0]) fun cg3 g3=>(callB (((Nat.beq (gi g3 0).rows.length (gi g3 0).rows.length)&&true)&&(F_club_ranked [.l (gi g3 0).rows]).isSome) (F_club_ranked [.l (gi g3 0).rows]) fun g4=>(bif ((Nat.beq (gi g4 0).rows.length (gi g4 0).rows.length)&&true) then some [.l (gi g4 0).rows,.i 0] else none)))))))
def s_club_Table_f:FSpec:=⟨10,[.s (.list KMember),.s (.str)],[],[],[.s (.vec 0 3),.s (.int .i64)],[.vec KPlace 0],[.slot 0],[(4,KPlace)],F_club_Table_f⟩
theorem b_club_Table_f:BodyOK P t71 L_club_Table_f_8 Tryz.f10 s_club_Table_f:=fun d=>by kernel_rfl
theorem c_club_Table_f:COK P s_club_Table_f:=bdC hm t71_ok Tryz.func10 L_club_Table_f_8_ok b_club_Table_f
def t72:Tab:=t71.addW s_club_Table_f
theorem t72_ok:TabOK P t72:=t71_ok.aW c_club_Table_f

def st_k2_spoil_Place_2 (d:List G):Option (Option Nat × List G) :=
 (bif (ltI (gi d 5).int (gi d 4).int) then (bif ((nnI (gi d 5).int)&&(ltI (gi d 5).int (((gi d 0).rows.length:Nat):Int))) then (bif (decide ((0+((gi d 5).int).toNat)<(gi d 0).rows.length)) then (bif (inI ((gi d 5).int+1)) then (bif ((Nat.beq (gi d 0).rows.length ((gi d 0).rows.set (0+((gi d 5).int).toNat) (putG KPlace ((gi d 0).rows.getD (0+((gi d 5).int).toNat) []) 0 [.i (gi d 1).int,.i (gi d 2).int,.s (gi d 3).str])).length)&&true) then some (none,[.l ((gi d 0).rows.set (0+((gi d 5).int).toNat) (putG KPlace ((gi d 0).rows.getD (0+((gi d 5).int).toNat) []) 0 [.i (gi d 1).int,.i (gi d 2).int,.s (gi d 3).str])),.i (gi d 1).int,.i (gi d 2).int,.s (gi d 3).str,.i (gi d 4).int,.i ((gi d 5).int+1)]) else none) else none) else none) else none) else some (some 0,[.l (gi d 0).rows]))
def l_k2_spoil_Place_2:LSpec:=⟨2,[],⟨14,[(0,.s (.vec 0 3)),(2,.s (.ptr 1 0)),(5,.s (.int .i64)),(6,.s (.int .i64))],[.vec KPlace 0,.box [.int .i64,.int .i64,.str]]⟩,[.fix 0,.slot 2],[⟨.exit 0,⟨14,[],[.vec KPlace 0]⟩,[.fix 0]⟩],st_k2_spoil_Place_2⟩
theorem r_k2_spoil_Place_2:RoundOK P t72 nL0 1 (loopAt Tryz.f30 2) l_k2_spoil_Place_2:=fun d=>by kernel_rfl
def L_k2_spoil_Place_2:LT:=nL0.add 1 l_k2_spoil_Place_2
theorem L_k2_spoil_Place_2_ok:LpK P 1 L_k2_spoil_Place_2 (bodyOf Tryz.f30):=LpK.a hm t72_ok (nLk _ _ _) r_k2_spoil_Place_2
def F_k2_spoil_Place (d:List G):Option (List G) :=
 (loopB ((Nat.beq (gi d 0).rows.length (gi d 0).rows.length)&&true) (LRun st_k2_spoil_Place_2 [.l (gi d 0).rows,.i 0,.i 0,.s (⟨#[]⟩:ByteArray),.i (((gi d 0).rows.length:Nat):Int),.i 0]) fun cg1 g1=>some [.l (gi g1 0).rows])
def s_k2_spoil_Place:FSpec:=⟨30,[.s (.vec 0 3)],[.vec KPlace 0],[.slot 0],[],[.vec KPlace 0],[.fix 0],[],F_k2_spoil_Place⟩
theorem b_k2_spoil_Place:BodyOK P t72 L_k2_spoil_Place_2 Tryz.f30 s_k2_spoil_Place:=fun d=>by kernel_rfl
theorem c_k2_spoil_Place:COK P s_k2_spoil_Place:=bdC hm t72_ok Tryz.func30 L_k2_spoil_Place_2_ok b_k2_spoil_Place
def t73:Tab:=t72.addW s_k2_spoil_Place
theorem t73_ok:TabOK P t73:=t72_ok.aW c_k2_spoil_Place

def st_club_squaresFault_4 (d:List G):Option (Option Nat × List G) :=
 (bif (ltI (gi d 3).int (gi d 2).int) then (bif ((nnI (gi d 3).int)&&(ltI (gi d 3).int (((gi d 1).rows.length:Nat):Int))) then (callF (F_club_isSquare [.s (gi ((gi d 1).rows.getD (((gi d 3).int).toNat) []) 0).str]) fun g1=>(bif (!(gi g1 0).bool) then some (some 0,[.i 3]) else (bif (ltI 0 (gi d 3).int) then (bif (inI ((gi d 3).int-1)) then (bif ((nnI ((gi d 3).int-1))&&(ltI ((gi d 3).int-1) (((gi d 0).rows.length:Nat):Int))) then (bif ((Op.bytesLess (gi ((gi d 1).rows.getD (((gi d 3).int).toNat) []) 0).str.toList (gi ((gi d 0).rows.getD (((gi d 3).int-1).toNat) []) 0).str.toList)||((gi ((gi d 1).rows.getD (((gi d 3).int).toNat) []) 0).str.toList==(gi ((gi d 0).rows.getD (((gi d 3).int-1).toNat) []) 0).str.toList)) then some (some 0,[.i 7]) else (bif (inI ((gi d 3).int+1)) then some (none,[.l (gi d 0).rows,.l (gi d 1).rows,.i (gi d 2).int,.i ((gi d 3).int+1)]) else none)) else none) else none) else (bif (inI ((gi d 3).int+1)) then some (none,[.l (gi d 0).rows,.l (gi d 1).rows,.i (gi d 2).int,.i ((gi d 3).int+1)]) else none)))) else none) else some (some 1,[]))
def l_club_squaresFault_4:LSpec:=⟨4,[],⟨30,[(0,.s (.list [.str])),(8,.s (.list [.str])),(9,.s (.int .i64)),(10,.s (.int .i64))],[]⟩,[],[⟨.ret,⟨30,[(2,.s (.int .i64))],[]⟩,[]⟩,⟨.exit 0,⟨30,[],[]⟩,[]⟩],st_club_squaresFault_4⟩
theorem r_club_squaresFault_4:RoundOK P t73 nL0 0 (loopAt Tryz.f134 4) l_club_squaresFault_4:=fun d=>by kernel_rfl
def L_club_squaresFault_4:LT:=nL0.add 0 l_club_squaresFault_4
theorem L_club_squaresFault_4_ok:LpK P 0 L_club_squaresFault_4 (bodyOf Tryz.f134):=LpK.a hm t73_ok (nLk _ _ _) r_club_squaresFault_4
def F_club_squaresFault (d:List G):Option (List G) :=
 (bif (ltI 100 (((gi d 0).rows.length:Nat):Int)) then some [.i 2] else (loopB true (LRun st_club_squaresFault_4 [.l (gi d 0).rows,.l (gi d 0).rows,.i (((gi d 0).rows.length:Nat):Int),.i 0]) fun cg2 g2=>(bif Nat.beq cg2 0 then some [.i (gi g2 0).int] else some [.i 0])))
def s_club_squaresFault:FSpec:=⟨134,[.s (.list [.str])],[],[],[.s (.int .i64)],[],[],[],F_club_squaresFault⟩
theorem b_club_squaresFault:BodyOK P t73 L_club_squaresFault_4 Tryz.f134 s_club_squaresFault:=fun d=>by kernel_rfl
theorem c_club_squaresFault:COK P s_club_squaresFault:=bdC hm t73_ok Tryz.func134 L_club_squaresFault_4_ok b_club_squaresFault
def t74:Tab:=t73.addP s_club_squaresFault
theorem t74_ok:TabOK P t74:=t73_ok.aP c_club_squaresFault

def st_club_CheckClubs_4 (d:List G):Option (Option Nat × List G) :=
 (bif (ltI (gi d 3).int (gi d 2).int) then (bif ((nnI (gi d 3).int)&&(ltI (gi d 3).int (((gi d 1).rows.length:Nat):Int))) then (callF (F_kit_IsKey [.s (gi ((gi d 1).rows.getD (((gi d 3).int).toNat) []) 0).str]) fun g1=>(bif (!(gi g1 0).bool) then some (some 0,[.i 5]) else (bif (ltI 0 (gi d 3).int) then (bif (inI ((gi d 3).int-1)) then (bif ((nnI ((gi d 3).int-1))&&(ltI ((gi d 3).int-1) (((gi d 0).rows.length:Nat):Int))) then (bif ((Op.bytesLess (gi ((gi d 1).rows.getD (((gi d 3).int).toNat) []) 0).str.toList (gi ((gi d 0).rows.getD (((gi d 3).int-1).toNat) []) 0).str.toList)||((gi ((gi d 1).rows.getD (((gi d 3).int).toNat) []) 0).str.toList==(gi ((gi d 0).rows.getD (((gi d 3).int-1).toNat) []) 0).str.toList)) then some (some 0,[.i 7]) else (callF (F_club_squaresFault [.l (gi ((gi d 1).rows.getD (((gi d 3).int).toNat) []) 1).rows]) fun g2=>(bif ((gi g2 0).int != 0) then some (some 0,[.i (gi g2 0).int]) else (bif (inI ((gi d 3).int+1)) then some (none,[.l (gi d 0).rows,.l (gi d 1).rows,.i (gi d 2).int,.i ((gi d 3).int+1)]) else none)))) else none) else none) else (callF (F_club_squaresFault [.l (gi ((gi d 1).rows.getD (((gi d 3).int).toNat) []) 1).rows]) fun g3=>(bif ((gi g3 0).int != 0) then some (some 0,[.i (gi g3 0).int]) else (bif (inI ((gi d 3).int+1)) then some (none,[.l (gi d 0).rows,.l (gi d 1).rows,.i (gi d 2).int,.i ((gi d 3).int+1)]) else none)))))) else none) else some (some 1,[]))
def l_club_CheckClubs_4:LSpec:=⟨4,[],⟨40,[(0,.s (.list [.str,.list [.str]])),(9,.s (.list [.str,.list [.str]])),(10,.s (.int .i64)),(11,.s (.int .i64))],[]⟩,[],[⟨.ret,⟨40,[(2,.s (.int .i64))],[]⟩,[]⟩,⟨.exit 0,⟨40,[],[]⟩,[]⟩],st_club_CheckClubs_4⟩
theorem r_club_CheckClubs_4:RoundOK P t74 nL0 0 (loopAt Tryz.f89 4) l_club_CheckClubs_4:=fun d=>by kernel_rfl
def L_club_CheckClubs_4:LT:=nL0.add 0 l_club_CheckClubs_4
theorem L_club_CheckClubs_4_ok:LpK P 0 L_club_CheckClubs_4 (bodyOf Tryz.f89):=LpK.a hm t74_ok (nLk _ _ _) r_club_CheckClubs_4
def F_club_CheckClubs (d:List G):Option (List G) :=
 (bif (ltI 200 (((gi d 0).rows.length:Nat):Int)) then some [.i 2] else (loopB true (LRun st_club_CheckClubs_4 [.l (gi d 0).rows,.l (gi d 0).rows,.i (((gi d 0).rows.length:Nat):Int),.i 0]) fun cg4 g4=>(bif Nat.beq cg4 0 then some [.i (gi g4 0).int] else some [.i 0])))
def s_club_CheckClubs:FSpec:=⟨89,[.s (.list [.str,.list [.str]])],[],[],[.s (.int .i64)],[],[],[],F_club_CheckClubs⟩
theorem b_club_CheckClubs:BodyOK P t74 L_club_CheckClubs_4 Tryz.f89 s_club_CheckClubs:=fun d=>by kernel_rfl
theorem c_club_CheckClubs:COK P s_club_CheckClubs:=bdC hm t74_ok Tryz.func89 L_club_CheckClubs_4_ok b_club_CheckClubs
def t75:Tab:=t74.addP s_club_CheckClubs
theorem t75_ok:TabOK P t75:=t74_ok.aP c_club_CheckClubs

def F_club_clubAt_1 (d:List G):Option (List G) :=
 (callF (F_strings_Compare [.s (gi (gi d 0).row 0).str,.s (gi d 1).str]) fun g1=>some [.i (gi g1 0).int])
def s_club_clubAt_1:FSpec:=⟨197,[.s (.row [.str,.list [.str]]),.s (.str)],[],[],[.s (.int .i64)],[],[],[],F_club_clubAt_1⟩
theorem b_club_clubAt_1:BodyOK P t75 nL0 Tryz.f197 s_club_clubAt_1:=fun d=>by kernel_rfl
theorem c_club_clubAt_1:COK P s_club_clubAt_1:=bdC hm t75_ok Tryz.func197 (nLk _ _ _) b_club_clubAt_1
def t76:Tab:=t75.addP s_club_clubAt_1
theorem t76_ok:TabOK P t76:=t75_ok.aP c_club_clubAt_1

def st_sl_BinarySearchFunc_string_3 (d:List G):Option (Option Nat × List G) :=
 (bif (ltI (gi d 3).int (gi d 4).int) then (bif (inI ((gi d 3).int+(gi d 4).int)) then (bif (inI (shrI .u64 (IntKind.u64.wrap ((gi d 3).int+(gi d 4).int)) 1)) then (bif ((nnI (shrI .u64 (IntKind.u64.wrap ((gi d 3).int+(gi d 4).int)) 1))&&(ltI (shrI .u64 (IntKind.u64.wrap ((gi d 3).int+(gi d 4).int)) 1) (((gi d 0).rows.length:Nat):Int))) then (callF (F_club_clubAt_1 [.l [(gEta [.str,.list [.str]] ((gi d 0).rows.getD ((shrI .u64 (IntKind.u64.wrap ((gi d 3).int+(gi d 4).int)) 1).toNat) []))],.s (gi d 1).str]) fun g1=>(bif (ltI (gi g1 0).int 0) then (bif (inI ((shrI .u64 (IntKind.u64.wrap ((gi d 3).int+(gi d 4).int)) 1)+1)) then some (none,[.l (gi d 0).rows,.s (gi d 1).str,.i (gi d 2).int,.i ((shrI .u64 (IntKind.u64.wrap ((gi d 3).int+(gi d 4).int)) 1)+1),.i (gi d 4).int]) else none) else some (none,[.l (gi d 0).rows,.s (gi d 1).str,.i (gi d 2).int,.i (gi d 3).int,.i (shrI .u64 (IntKind.u64.wrap ((gi d 3).int+(gi d 4).int)) 1)]))) else none) else none) else none) else some (some 0,[.l (gi d 0).rows,.s (gi d 1).str,.i (gi d 2).int,.i (gi d 3).int]))
def l_sl_BinarySearchFunc_string_3:LSpec:=⟨3,[],⟨49,[(0,.s (.list [.str,.list [.str]])),(1,.s (.str)),(2,.s (.fn 197)),(8,.s (.int .i64)),(9,.s (.int .i64)),(10,.s (.int .i64))],[]⟩,[],[⟨.exit 0,⟨49,[(0,.s (.list [.str,.list [.str]])),(1,.s (.str)),(2,.s (.fn 197)),(8,.s (.int .i64)),(9,.s (.int .i64))],[]⟩,[]⟩],st_sl_BinarySearchFunc_string_3⟩
theorem r_sl_BinarySearchFunc_string_3:RoundOK P t76 nL0 0 (loopAt Tryz.f196 3) l_sl_BinarySearchFunc_string_3:=fun d=>by kernel_rfl
def L_sl_BinarySearchFunc_string_3:LT:=nL0.add 0 l_sl_BinarySearchFunc_string_3
theorem L_sl_BinarySearchFunc_string_3_ok:LpK P 0 L_sl_BinarySearchFunc_string_3 (bodyOf Tryz.f196):=LpK.a hm t76_ok (nLk _ _ _) r_sl_BinarySearchFunc_string_3
def F_sl_BinarySearchFunc_string (d:List G):Option (List G) :=
 (loopB true (LRun st_sl_BinarySearchFunc_string_3 [.l (gi d 0).rows,.s (gi d 1).str,.i (((gi d 0).rows.length:Nat):Int),.i 0,.i (((gi d 0).rows.length:Nat):Int)]) fun cg2 g2=>(bif (ltI (gi g2 3).int (gi g2 2).int) then (bif ((nnI (gi g2 3).int)&&(ltI (gi g2 3).int (((gi g2 0).rows.length:Nat):Int))) then (callF (F_club_clubAt_1 [.l [(gEta [.str,.list [.str]] ((gi g2 0).rows.getD (((gi g2 3).int).toNat) []))],.s (gi g2 1).str]) fun g3=>some [.i (gi g2 3).int,.t ((gi g3 0).int==0)]) else none) else some [.i (gi g2 3).int,.t false]))
def s_sl_BinarySearchFunc_string:FSpec:=⟨196,[.s (.list [.str,.list [.str]]),.s (.str),.s (.fn 197)],[],[],[.s (.int .i64),.s (.bool)],[],[],[],F_sl_BinarySearchFunc_string⟩
theorem b_sl_BinarySearchFunc_string:BodyOK P t76 L_sl_BinarySearchFunc_string_3 Tryz.f196 s_sl_BinarySearchFunc_string:=fun d=>by kernel_rfl
theorem c_sl_BinarySearchFunc_string:COK P s_sl_BinarySearchFunc_string:=bdC hm t76_ok Tryz.func196 L_sl_BinarySearchFunc_string_3_ok b_sl_BinarySearchFunc_string
def t77:Tab:=t76.addP s_sl_BinarySearchFunc_string
theorem t77_ok:TabOK P t77:=t76_ok.aP c_sl_BinarySearchFunc_string

def F_club_clubAt (d:List G):Option (List G) :=
 (callF (F_sl_BinarySearchFunc_string [.l (gi d 0).rows,.s (gi d 1).str]) fun g1=>some [.i (gi g1 0).int,.t (gi g1 1).bool])
def s_club_clubAt:FSpec:=⟨135,[.s (.list [.str,.list [.str]]),.s (.str)],[],[],[.s (.int .i64),.s (.bool)],[],[],[],F_club_clubAt⟩
theorem b_club_clubAt:BodyOK P t77 nL0 Tryz.f135 s_club_clubAt:=fun d=>by kernel_rfl
theorem c_club_clubAt:COK P s_club_clubAt:=bdC hm t77_ok Tryz.func135 (nLk _ _ _) b_club_clubAt
def t78:Tab:=t77.addP s_club_clubAt
theorem t78_ok:TabOK P t78:=t77_ok.aP c_club_clubAt

def F_club_isDay (d:List G):Option (List G) :=
 (callF (F_kit_Outside [.i (gi d 0).int,.i 0,.i 4000]) fun g1=>some [.t (!(gi g1 0).bool)])
def s_club_isDay:FSpec:=⟨46,[.s (.int .i64)],[],[],[.s (.bool)],[],[],[],F_club_isDay⟩
theorem b_club_isDay:BodyOK P t78 nL0 Tryz.f46 s_club_isDay:=fun d=>by kernel_rfl
theorem c_club_isDay:COK P s_club_isDay:=bdC hm t78_ok Tryz.func46 (nLk _ _ _) b_club_isDay
def t79:Tab:=t78.addP s_club_isDay
theorem t79_ok:TabOK P t79:=t78_ok.aP c_club_isDay

def F_club_memberFault (d:List G):Option (List G) :=
 (bif ((nnI (gi d 2).int)&&(ltI (gi d 2).int (((gi d 1).rows.length:Nat):Int))) then (callF (F_call_Parts [.s (gi ((gi d 1).rows.getD (((gi d 2).int).toNat) []) 0).str]) fun g1=>(bif (!(gi g1 1).bool) then some [.i 3] else (bif (!((gi (gi g1 0).row 0).str.toList==(gi ((gi d 1).rows.getD (((gi d 2).int).toNat) []) 0).str.toList)) then some [.i 3] else (callF (F_club_clubAt [.l (gi d 0).rows,.s (gi ((gi d 1).rows.getD (((gi d 2).int).toNat) []) 1).str]) fun g2=>(bif (!((gi ((gi d 1).rows.getD (((gi d 2).int).toNat) []) 1).str.toList==(⟨#[]⟩:ByteArray).toList)) then (bif (!(gi g2 1).bool) then some [.i 8] else (callF (F_club_isDay [.i (gi ((gi d 1).rows.getD (((gi d 2).int).toNat) []) 2).int]) fun g3=>(bif (!(gi g3 0).bool) then some [.i 1] else (callF (F_club_isLocator [.s (gi ((gi d 1).rows.getD (((gi d 2).int).toNat) []) 3).str]) fun g4=>(bif (!(gi g4 0).bool) then some [.i 3] else (bif (ltI 0 (gi d 2).int) then (bif (inI ((gi d 2).int-1)) then (bif ((nnI ((gi d 2).int-1))&&(ltI ((gi d 2).int-1) (((gi d 1).rows.length:Nat):Int))) then (callF (F_strings_Compare [.s (gi ((gi d 1).rows.getD (((gi d 2).int-1).toNat) []) 0).str,.s (gi ((gi d 1).rows.getD (((gi d 2).int).toNat) []) 0).str]) fun g5=>(bif (inI ((gi d 2).int-1)) then (bif ((nnI ((gi d 2).int-1))&&(ltI ((gi d 2).int-1) (((gi d 1).rows.length:Nat):Int))) then (callF (F_cmp_Compare_int [.i (gi ((gi d 1).rows.getD (((gi d 2).int-1).toNat) []) 2).int,.i (gi ((gi d 1).rows.getD (((gi d 2).int).toNat) []) 2).int]) fun g6=>(callF (F_cmp_Or_int [.l [[.i (gi g5 0).int],[.i (gi g6 0).int]]]) fun g7=>(bif (leI 0 (gi g7 0).int) then some [.i 7] else some [.i 0]))) else none) else none)) else none) else none) else some [.i 0])))))) else (callF (F_club_isDay [.i (gi ((gi d 1).rows.getD (((gi d 2).int).toNat) []) 2).int]) fun g8=>(bif (!(gi g8 0).bool) then some [.i 1] else (callF (F_club_isLocator [.s (gi ((gi d 1).rows.getD (((gi d 2).int).toNat) []) 3).str]) fun g9=>(bif (!(gi g9 0).bool) then some [.i 3] else (bif (ltI 0 (gi d 2).int) then (bif (inI ((gi d 2).int-1)) then (bif ((nnI ((gi d 2).int-1))&&(ltI ((gi d 2).int-1) (((gi d 1).rows.length:Nat):Int))) then (callF (F_strings_Compare [.s (gi ((gi d 1).rows.getD (((gi d 2).int-1).toNat) []) 0).str,.s (gi ((gi d 1).rows.getD (((gi d 2).int).toNat) []) 0).str]) fun g10=>(bif (inI ((gi d 2).int-1)) then (bif ((nnI ((gi d 2).int-1))&&(ltI ((gi d 2).int-1) (((gi d 1).rows.length:Nat):Int))) then (callF (F_cmp_Compare_int [.i (gi ((gi d 1).rows.getD (((gi d 2).int-1).toNat) []) 2).int,.i (gi ((gi d 1).rows.getD (((gi d 2).int).toNat) []) 2).int]) fun g11=>(callF (F_cmp_Or_int [.l [[.i (gi g10 0).int],[.i (gi g11 0).int]]]) fun g12=>(bif (leI 0 (gi g12 0).int) then some [.i 7] else some [.i 0]))) else none) else none)) else none) else none) else some [.i 0])))))))))) else none)
def s_club_memberFault:FSpec:=⟨90,[.s (.list [.str,.list [.str]]),.s (.list KMember),.s (.int .i64)],[],[],[.s (.int .i64)],[],[],[],F_club_memberFault⟩
theorem b_club_memberFault:BodyOK P t79 nL0 Tryz.f90 s_club_memberFault:=fun d=>by kernel_rfl
theorem c_club_memberFault:COK P s_club_memberFault:=bdC hm t79_ok Tryz.func90 (nLk _ _ _) b_club_memberFault
def t80:Tab:=t79.addP s_club_memberFault
theorem t80_ok:TabOK P t80:=t79_ok.aP c_club_memberFault

def st_club_CheckMembers_7 (d:List G):Option (Option Nat × List G) :=
 (bif (ltI (gi d 3).int (gi d 2).int) then (callF (F_club_memberFault [.l (gi d 0).rows,.l (gi d 1).rows,.i (gi d 3).int]) fun g2=>(bif ((gi g2 0).int != 0) then some (some 0,[.i (gi g2 0).int]) else (bif (inI ((gi d 3).int+1)) then some (none,[.l (gi d 0).rows,.l (gi d 1).rows,.i (gi d 2).int,.i ((gi d 3).int+1)]) else none))) else some (some 1,[]))
def l_club_CheckMembers_7:LSpec:=⟨7,[],⟨29,[(0,.s (.list [.str,.list [.str]])),(1,.s (.list KMember)),(17,.s (.int .i64)),(18,.s (.int .i64))],[]⟩,[],[⟨.ret,⟨29,[(4,.s (.int .i64))],[]⟩,[]⟩,⟨.exit 0,⟨29,[],[]⟩,[]⟩],st_club_CheckMembers_7⟩
theorem r_club_CheckMembers_7:RoundOK P t80 nL0 0 (loopAt Tryz.f45 7) l_club_CheckMembers_7:=fun d=>by kernel_rfl
def L_club_CheckMembers_7:LT:=nL0.add 0 l_club_CheckMembers_7
theorem L_club_CheckMembers_7_ok:LpK P 0 L_club_CheckMembers_7 (bodyOf Tryz.f45):=LpK.a hm t80_ok (nLk _ _ _) r_club_CheckMembers_7
def F_club_CheckMembers (d:List G):Option (List G) :=
 (callF (F_club_CheckClubs [.l (gi d 0).rows]) fun g1=>(bif ((gi g1 0).int != 0) then some [.i (gi g1 0).int] else (bif (ltI 1000 (((gi d 1).rows.length:Nat):Int)) then some [.i 2] else (loopB true (LRun st_club_CheckMembers_7 [.l (gi d 0).rows,.l (gi d 1).rows,.i (((gi d 1).rows.length:Nat):Int),.i 0]) fun cg3 g3=>(bif Nat.beq cg3 0 then some [.i (gi g3 0).int] else some [.i 0])))))
def s_club_CheckMembers:FSpec:=⟨45,[.s (.list [.str,.list [.str]]),.s (.list KMember)],[],[],[.s (.int .i64)],[],[],[],F_club_CheckMembers⟩
theorem b_club_CheckMembers:BodyOK P t80 L_club_CheckMembers_7 Tryz.f45 s_club_CheckMembers:=fun d=>by kernel_rfl
theorem c_club_CheckMembers:COK P s_club_CheckMembers:=bdC hm t80_ok Tryz.func45 L_club_CheckMembers_7_ok b_club_CheckMembers
def t81:Tab:=t80.addP s_club_CheckMembers
theorem t81_ok:TabOK P t81:=t80_ok.aP c_club_CheckMembers

def st_club_last_f_3 (d:List G):Option (Option Nat × List G) :=
 (bif (ltI (gi d 5).int (gi d 4).int) then (bif ((nnI (gi d 5).int)&&(ltI (gi d 5).int (((gi d 3).rows.length:Nat):Int))) then (bif (leI (gi ((gi d 3).rows.getD (((gi d 5).int).toNat) []) 2).int (gi d 2).int) then (bif (inI ((gi d 5).int+1)) then some (none,[.l (mput [.str] (gi d 0).rows [.s (gi ((gi d 3).rows.getD (((gi d 5).int).toNat) []) 0).str] (gEta KMember ((gi d 3).rows.getD (((gi d 5).int).toNat) [])) (gi d 1).int.toNat),.i (((mclk [.str] (gi d 0).rows [.s (gi ((gi d 3).rows.getD (((gi d 5).int).toNat) []) 0).str] (gi d 1).int.toNat):Nat):Int),.i (gi d 2).int,.l (gi d 3).rows,.i (gi d 4).int,.i ((gi d 5).int+1)]) else none) else (bif (inI ((gi d 5).int+1)) then some (none,[.l (gi d 0).rows,.i (((gi d 1).int.toNat:Nat):Int),.i (gi d 2).int,.l (gi d 3).rows,.i (gi d 4).int,.i ((gi d 5).int+1)]) else none)) else none) else some (some 0,[.l (gi d 0).rows,.i (((gi d 1).int.toNat:Nat):Int)]))
def l_club_last_f_3:LSpec:=⟨3,[],⟨25,[(1,.s (.int .i64)),(5,.s (.map 0)),(9,.s (.list KMember)),(10,.s (.int .i64)),(11,.s (.int .i64))],[.map (.one (.str)) (.agg KMember)]⟩,[.slot 5],[⟨.exit 0,⟨25,[(5,.s (.map 0))],[.map (.one (.str)) (.agg KMember)]⟩,[.slot 5]⟩],st_club_last_f_3⟩
theorem r_club_last_f_3:RoundOK P t81 nL0 0 (loopAt Tryz.f48 3) l_club_last_f_3:=fun d=>by kernel_rfl
def L_club_last_f_3:LT:=nL0.add 0 l_club_last_f_3
theorem L_club_last_f_3_ok:LpK P 0 L_club_last_f_3 (bodyOf Tryz.f48):=LpK.a hm t81_ok (nLk _ _ _) r_club_last_f_3
def F_club_last_f (d:List G):Option (List G) :=
 (loopB true (LRun st_club_last_f_3 [.l [],.i 0,.i (gi d 1).int,.l (gi d 0).rows,.i (((gi d 0).rows.length:Nat):Int),.i 0]) fun cg1 g1=>some [.l (gi g1 0).rows,.i (((gi g1 1).int.toNat:Nat):Int)])
def s_club_last_f:FSpec:=⟨48,[.s (.list KMember),.s (.int .i64)],[],[],[.s (.map 0)],[.map (.one (.str)) (.agg KMember)],[.slot 0],[],F_club_last_f⟩
theorem b_club_last_f:BodyOK P t81 L_club_last_f_3 Tryz.f48 s_club_last_f:=fun d=>by kernel_rfl
theorem c_club_last_f:COK P s_club_last_f:=bdC hm t81_ok Tryz.func48 L_club_last_f_3_ok b_club_last_f
def t82:Tab:=t81.addW s_club_last_f
theorem t82_ok:TabOK P t82:=t81_ok.aW c_club_last_f

def F_stringslite_HasPrefix (d:List G):Option (List G) :=
 (bif (leI (((gi d 1).str.size:Nat):Int) (((gi d 0).str.size:Nat):Int)) then (bif ((nnI (((gi d 1).str.size:Nat):Int))&&(leI (((gi d 1).str.size:Nat):Int) (((gi d 0).str.size:Nat):Int))) then some [.t (((gi d 0).str.extract 0 (gi d 1).str.size).toList==(gi d 1).str.toList)] else none) else some [.t false])
def s_stringslite_HasPrefix:FSpec:=⟨199,[.s (.str),.s (.str)],[],[],[.s (.bool)],[],[],[],F_stringslite_HasPrefix⟩
theorem b_stringslite_HasPrefix:BodyOK P t82 nL0 Tryz.f199 s_stringslite_HasPrefix:=fun d=>by kernel_rfl
theorem c_stringslite_HasPrefix:COK P s_stringslite_HasPrefix:=bdC hm t82_ok Tryz.func199 (nLk _ _ _) b_stringslite_HasPrefix
def t83:Tab:=t82.addP s_stringslite_HasPrefix
theorem t83_ok:TabOK P t83:=t82_ok.aP c_stringslite_HasPrefix

def F_strings_HasPrefix (d:List G):Option (List G) :=
 (callF (F_stringslite_HasPrefix [.s (gi d 0).str,.s (gi d 1).str]) fun g1=>some [.t (gi g1 0).bool])
def s_strings_HasPrefix:FSpec:=⟨138,[.s (.str),.s (.str)],[],[],[.s (.bool)],[],[],[],F_strings_HasPrefix⟩
theorem b_strings_HasPrefix:BodyOK P t83 nL0 Tryz.f138 s_strings_HasPrefix:=fun d=>by kernel_rfl
theorem c_strings_HasPrefix:COK P s_strings_HasPrefix:=bdC hm t83_ok Tryz.func138 (nLk _ _ _) b_strings_HasPrefix
def t84:Tab:=t83.addP s_strings_HasPrefix
theorem t84_ok:TabOK P t84:=t83_ok.aP c_strings_HasPrefix

def F_club_isInside_1 (d:List G):Option (List G) :=
 (callF (F_strings_HasPrefix [.s (gi (gi d 1).row 3).str,.s (gi d 0).str]) fun g1=>some [.t (gi g1 0).bool])
def s_club_isInside_1:FSpec:=⟨137,[.s (.str),.s (.cptr KMember)],[],[],[.s (.bool)],[],[],[],F_club_isInside_1⟩
theorem b_club_isInside_1:BodyOK P t84 nL0 Tryz.f137 s_club_isInside_1:=fun d=>by kernel_rfl
theorem c_club_isInside_1:COK P s_club_isInside_1:=bdC hm t84_ok Tryz.func137 (nLk _ _ _) b_club_isInside_1
def t85:Tab:=t84.addP s_club_isInside_1
theorem t85_ok:TabOK P t85:=t84_ok.aP c_club_isInside_1

def st_sl_IndexFunc_string_2 (d:List G):Option (Option Nat × List G) :=
 (bif (ltI (gi d 3).int (gi d 2).int) then (bif ((nnI (gi d 3).int)&&(ltI (gi d 3).int (((gi d 0).rows.length:Nat):Int))) then (callF (F_club_isInside_1 [.s (gi ((gi d 0).rows.getD (((gi d 3).int).toNat) []) 0).str,.l [(gEta KMember (gi d 1).row)]]) fun g1=>(bif (gi g1 0).bool then some (some 0,[.i (gi d 3).int]) else (bif (inI ((gi d 3).int+1)) then some (none,[.l (gi d 0).rows,.l [(gEta KMember (gi d 1).row)],.i (gi d 2).int,.i ((gi d 3).int+1)]) else none))) else none) else some (some 1,[]))
def l_sl_IndexFunc_string_2:LSpec:=⟨2,[],⟨19,[(0,.s (.list [.str])),(1,.clo 137 [.cptr KMember]),(7,.s (.int .i64)),(8,.s (.int .i64))],[]⟩,[],[⟨.ret,⟨19,[(4,.s (.int .i64))],[]⟩,[]⟩,⟨.exit 0,⟨19,[],[]⟩,[]⟩],st_sl_IndexFunc_string_2⟩
theorem r_sl_IndexFunc_string_2:RoundOK P t85 nL0 0 (loopAt Tryz.f198 2) l_sl_IndexFunc_string_2:=fun d=>by kernel_rfl
def L_sl_IndexFunc_string_2:LT:=nL0.add 0 l_sl_IndexFunc_string_2
theorem L_sl_IndexFunc_string_2_ok:LpK P 0 L_sl_IndexFunc_string_2 (bodyOf Tryz.f198):=LpK.a hm t85_ok (nLk _ _ _) r_sl_IndexFunc_string_2
def F_sl_IndexFunc_string (d:List G):Option (List G) :=
 (loopB true (LRun st_sl_IndexFunc_string_2 [.l (gi d 0).rows,.l [(gEta KMember (gi d 1).row)],.i (((gi d 0).rows.length:Nat):Int),.i 0]) fun cg2 g2=>(bif Nat.beq cg2 0 then some [.i (gi g2 0).int] else some [.i (-1)]))
def s_sl_IndexFunc_string:FSpec:=⟨198,[.s (.list [.str]),.clo 137 [.cptr KMember]],[],[],[.s (.int .i64)],[],[],[],F_sl_IndexFunc_string⟩
theorem b_sl_IndexFunc_string:BodyOK P t85 L_sl_IndexFunc_string_2 Tryz.f198 s_sl_IndexFunc_string:=fun d=>by kernel_rfl
theorem c_sl_IndexFunc_string:COK P s_sl_IndexFunc_string:=bdC hm t85_ok Tryz.func198 L_sl_IndexFunc_string_2_ok b_sl_IndexFunc_string
def t86:Tab:=t85.addP s_sl_IndexFunc_string
theorem t86_ok:TabOK P t86:=t85_ok.aP c_sl_IndexFunc_string

def F_sl_ContainsFunc_string (d:List G):Option (List G) :=
 (callF (F_sl_IndexFunc_string [.l (gi d 0).rows,.l [(gEta KMember (gi d 1).row)]]) fun g1=>some [.t (leI 0 (gi g1 0).int)])
def s_sl_ContainsFunc_string:FSpec:=⟨136,[.s (.list [.str]),.clo 137 [.cptr KMember]],[],[],[.s (.bool)],[],[],[],F_sl_ContainsFunc_string⟩
theorem b_sl_ContainsFunc_string:BodyOK P t86 nL0 Tryz.f136 s_sl_ContainsFunc_string:=fun d=>by kernel_rfl
theorem c_sl_ContainsFunc_string:COK P s_sl_ContainsFunc_string:=bdC hm t86_ok Tryz.func136 (nLk _ _ _) b_sl_ContainsFunc_string
def t87:Tab:=t86.addP s_sl_ContainsFunc_string
theorem t87_ok:TabOK P t87:=t86_ok.aP c_sl_ContainsFunc_string

def F_club_isInside (d:List G):Option (List G) :=
 (callF (F_club_clubAt [.l (gi d 0).rows,.s (gi (gi d 1).row 1).str]) fun g1=>(bif (gi g1 1).bool then (bif ((nnI (gi g1 0).int)&&(ltI (gi g1 0).int (((gi d 0).rows.length:Nat):Int))) then (callF (F_sl_ContainsFunc_string [.l (gi ((gi d 0).rows.getD (((gi g1 0).int).toNat) []) 1).rows,.l [(gEta KMember (gi d 1).row)]]) fun g2=>some [.t (gi g2 0).bool]) else none) else some [.t false]))
def s_club_isInside:FSpec:=⟨91,[.s (.list [.str,.list [.str]]),.s (.row KMember)],[],[],[.s (.bool)],[],[],[],F_club_isInside⟩
theorem b_club_isInside:BodyOK P (t87.lessPf [136]) nL0 Tryz.f91 s_club_isInside:=fun d=>by kernel_rfl
theorem c_club_isInside:COK P s_club_isInside:=bodyC hm (t87_ok.lessPf [136]) Tryz.func91 (by kernel_rfl) (nLk _ _ _) b_club_isInside (by kernel_rfl)
def t88:Tab:=t87.addP s_club_isInside
theorem t88_ok:TabOK P t88:=t87_ok.aP c_club_isInside

def F_club_clubOf (d:List G):Option (List G) :=
 (bif (!(mhas [.str] (gi d 0).rows [.s (gi d 3).str])) then some [.l (gi d 0).rows,.i (((gi d 1).int.toNat:Nat):Int),.s (⟨#[]⟩:ByteArray)] else (callF (F_club_isInside [.l (gi d 2).rows,.l [(gEta KMember (mget [.str] (gi d 0).rows [.s (gi d 3).str] [.s (⟨#[]⟩:ByteArray),.s (⟨#[]⟩:ByteArray),.i 0,.s (⟨#[]⟩:ByteArray)]))]]) fun g1=>(bif (!(gi g1 0).bool) then some [.l (gi d 0).rows,.i (((gi d 1).int.toNat:Nat):Int),.s (⟨#[]⟩:ByteArray)] else some [.l (gi d 0).rows,.i (((gi d 1).int.toNat:Nat):Int),.s (gi (mget [.str] (gi d 0).rows [.s (gi d 3).str] [.s (⟨#[]⟩:ByteArray),.s (⟨#[]⟩:ByteArray),.i 0,.s (⟨#[]⟩:ByteArray)]) 1).str])))
def s_club_clubOf:FSpec:=⟨49,[.s (.list [.str,.list [.str]]),.s (.map 0),.s (.str)],[.map (.one (.str)) (.agg KMember)],[.slot 1],[.s (.str)],[.map (.one (.str)) (.agg KMember)],[.fix 0],[],F_club_clubOf⟩
theorem b_club_clubOf:BodyOK P t88 nL0 Tryz.f49 s_club_clubOf:=fun d=>by kernel_rfl
theorem c_club_clubOf:COK P s_club_clubOf:=bdC hm t88_ok Tryz.func49 (nLk _ _ _) b_club_clubOf
def t89:Tab:=t88.addW s_club_clubOf
theorem t89_ok:TabOK P t89:=t88_ok.aW c_club_clubOf

def F_sl_Sort_int (d:List G):Option (List G) :=
 sortIG d
def s_sl_Sort_int:FSpec:=⟨51,[.s (.vec 0 1)],[.vec [.int .i64] 0],[.slot 0],[],[.vec [.int .i64] 0],[.fix 0],[],F_sl_Sort_int⟩
theorem c_sl_Sort_int:∀ d r,F_sl_Sort_int d=some r→ACallX P 51 (s_sl_Sort_int.args0 d) (denH (s_sl_Sort_int.H0 d)) (s_sl_Sort_int.out r) (denH (s_sl_Sort_int.H1 r)):=fun d r h=>sortI_call Tryz.laysSortI51 d r h
def t90:Tab:=t89.addW s_sl_Sort_int
theorem t90_ok:TabOK P t90:=t89_ok.aW c_sl_Sort_int

def st_club_Clubs_12 (d:List G):Option (Option Nat × List G) :=
 (bif (ltI (gi d 8).int (gi d 7).int) then (bif ((nnI (gi d 8).int)&&(ltI (gi d 8).int (((gi d 6).rows.length:Nat):Int))) then (callF (F_call_BaseOf [.s (gi ((gi d 6).rows.getD (((gi d 8).int).toNat) []) 0).str]) fun g6=>(callF (F_club_clubOf [.l (gi d 2).rows,.i (((gi d 3).int.toNat:Nat):Int),.l (gi d 4).rows,.s (gi g6 0).str]) fun g7=>(bif (!((gi g7 2).str.toList==(⟨#[]⟩:ByteArray).toList)) then (bif (pin [.str] (gi d 0).rows [.s (gi g7 2).str]) then (bif ((Nat.beq (pget [.str] (gi d 0).rows [.s (gi g7 2).str]).length (pget [.str] (gi d 0).rows [.s (gi g7 2).str]).length)&&(decide (((pget [.str] (gi d 0).rows [.s (gi g7 2).str]).length+1)≤1048576))) then (bif (Nat.beq ((pget [.str] (gi d 0).rows [.s (gi g7 2).str])++([[.i (gi ((gi d 6).rows.getD (((gi d 8).int).toNat) []) 2).int]]:List (List G))).length ((pget [.str] (gi d 0).rows [.s (gi g7 2).str])++([[.i (gi ((gi d 6).rows.getD (((gi d 8).int).toNat) []) 2).int]]:List (List G))).length) then (bif (inI ((gi d 8).int+1)) then some (none,[.l (pput [.str] (ptake [.str] (gi d 0).rows [.s (gi g7 2).str]) [.s (gi g7 2).str] ((pget [.str] (gi d 0).rows [.s (gi g7 2).str])++([[.i (gi ((gi d 6).rows.getD (((gi d 8).int).toNat) []) 2).int]]:List (List G))) (gi d 1).int.toNat),.i (((mclk [.str] (ptake [.str] (gi d 0).rows [.s (gi g7 2).str]) [.s (gi g7 2).str] (gi d 1).int.toNat):Nat):Int),.l (gi g7 0).rows,.i (((gi g7 1).int.toNat:Nat):Int),.l (gi d 4).rows,.i (gi d 5).int,.l (gi d 6).rows,.i (gi d 7).int,.i ((gi d 8).int+1)]) else none) else none) else none) else none) else (bif (inI ((gi d 8).int+1)) then some (none,[.l (gi d 0).rows,.i (((gi d 1).int.toNat:Nat):Int),.l (gi g7 0).rows,.i (((gi g7 1).int.toNat:Nat):Int),.l (gi d 4).rows,.i (gi d 5).int,.l (gi d 6).rows,.i (gi d 7).int,.i ((gi d 8).int+1)]) else none)))) else none) else some (some 0,[.l (gi d 0).rows,.i (((gi d 1).int.toNat:Nat):Int),.i (gi d 5).int]))
def l_club_Clubs_12:LSpec:=⟨12,[],⟨105,[(0,.s (.list [.str,.list [.str]])),(4,.s (.int .i64)),(14,.s (.map 0)),(15,.s (.map 1)),(47,.s (.list KMember)),(48,.s (.int .i64)),(49,.s (.int .i64))],[.pool 1 (.one (.str)) [.int .i64],.map (.one (.str)) (.agg KMember)]⟩,[.slot 14,.slot 15],[⟨.exit 0,⟨105,[(4,.s (.int .i64)),(14,.s (.map 0))],[.pool 1 (.one (.str)) [.int .i64]]⟩,[.slot 14]⟩],st_club_Clubs_12⟩
theorem r_club_Clubs_12:RoundOK P (t90.morePf [1500084]) (nL0.hinted [(10,[.pool 14 1])]) 0 (loopAt Tryz.f11 12) l_club_Clubs_12:=fun d=>by kernel_rfl
def L_club_Clubs_12:LT:=(nL0.hinted [(10,[.pool 14 1])]).add 0 l_club_Clubs_12
theorem L_club_Clubs_12_ok:LpK P 0 L_club_Clubs_12 (bodyOf Tryz.f11):=LpK.add hm (t90_ok.morePf [1500084]) (by kernel_rfl) (hinted_ok _) r_club_Clubs_12
def st_club_Clubs_26 (d:List G):Option (Option Nat × List G) :=
 (bif (ltI (gi d 8).int (gi d 7).int) then (bif ((nnI (gi d 8).int)&&(ltI (gi d 8).int (((gi d 6).int.toNat:Nat):Int))) then (bif (decide ((0+((gi d 8).int).toNat)<(gi d 1).rows.length)) then (bif (inI ((gi d 4).int+(gi ((gi d 1).rows.getD (0+((gi d 8).int).toNat) []) 0).int)) then (bif (inI ((gi d 8).int+1)) then (bif ((Nat.beq (gi d 0).rows.length (gi d 0).rows.length)&&true) then some (none,[.l (gi d 0).rows,.l (gi d 1).rows,.i (gi d 2).int,.s (gi d 3).str,.i ((gi d 4).int+(gi ((gi d 1).rows.getD (0+((gi d 8).int).toNat) []) 0).int),.i (((gi d 5).int.toNat:Nat):Int),.i (((gi d 6).int.toNat:Nat):Int),.i (gi d 7).int,.i ((gi d 8).int+1)]) else none) else none) else none) else none) else none) else (bif ((Nat.beq (gi d 0).rows.length (gi d 0).rows.length)&&true) then some (some 0,[.l (gi d 0).rows,.i (gi d 2).int,.s (gi d 3).str,.i (gi d 4).int,.i (((gi d 5).int.toNat:Nat):Int)]) else none))
def l_club_Clubs_26:LSpec:=⟨26,[],⟨105,[(4,.s (.int .i64)),(19,.s (.vec 0 3)),(20,.s (.str)),(22,.s (.int .i64)),(72,.s (.addr)),(87,.s (.pre 1 1)),(88,.s (.int .i64)),(89,.s (.int .i64))],[.vec KPlace 0,.vec [.int .i64] 0]⟩,[.slot 19,.slot 87],[⟨.exit 4,⟨105,[(4,.s (.int .i64)),(19,.s (.vec 0 3)),(20,.s (.str)),(22,.s (.int .i64)),(72,.s (.addr))],[.vec KPlace 0]⟩,[.slot 19]⟩],st_club_Clubs_26⟩
theorem r_club_Clubs_26:RoundOK P (t90.morePf [1500084]) L_club_Clubs_12 0 (loopAt Tryz.f11 26) l_club_Clubs_26:=fun d=>by kernel_rfl
def L_club_Clubs_26:LT:=L_club_Clubs_12.add 0 l_club_Clubs_26
theorem L_club_Clubs_26_ok:LpK P 0 L_club_Clubs_26 (bodyOf Tryz.f11):=LpK.add hm (t90_ok.morePf [1500084]) (by kernel_rfl) L_club_Clubs_12_ok r_club_Clubs_26
def sr_club_Clubs_19 (r d:List G):Option (List G) :=
 (callB (((Nat.beq (slotG r).length (slotG r).length)&&true)&&(F_sl_Sort_int [.l (slotG r)]).isSome) (F_sl_Sort_int [.l (slotG r)]) fun g9=>(callB (((Nat.beq (slotG r).length (gi g9 0).rows.length)&&true)&&(F_sl_Reverse_int [.l (gi g9 0).rows]).isSome) (F_sl_Reverse_int [.l (gi g9 0).rows]) fun g10=>(bif ((nnI (if (((slotG r).length:Nat):Int)<(gi d 1).int then (((slotG r).length:Nat):Int) else (gi d 1).int))&&(leI (if (((slotG r).length:Nat):Int)<(gi d 1).int then (((slotG r).length:Nat):Int) else (gi d 1).int) (((slotG r).length:Nat):Int))) then (loopB ((Nat.beq (gi d 0).rows.length (gi d 0).rows.length)&&true) (LRun st_club_Clubs_26 [.l (gi d 0).rows,.l (gi g10 0).rows,.i (gi d 1).int,.s (gi (gi r 0).row 0).str,.i 0,.i (((gi d 2).int.toNat:Nat):Int),.i ((((if (((slotG r).length:Nat):Int)<(gi d 1).int then (((slotG r).length:Nat):Int) else (gi d 1).int).toNat-0):Nat):Int),.i ((((if (((slotG r).length:Nat):Int)<(gi d 1).int then (((slotG r).length:Nat):Int) else (gi d 1).int).toNat-0):Nat):Int),.i 0]) fun cg11 g11=>(bif ((Nat.beq (gi g11 0).rows.length (gi g11 0).rows.length)&&(decide (((gi g11 0).rows.length+1)≤1048576))) then (bif ((Nat.beq ((gi g11 0).rows++([[.i 0,.i (gi g11 3).int,.s (gi g11 2).str]]:List (List G))).length ((gi g11 0).rows++([[.i 0,.i (gi g11 3).int,.s (gi g11 2).str]]:List (List G))).length)&&true) then some [.l ((gi g11 0).rows++([[.i 0,.i (gi g11 3).int,.s (gi g11 2).str]]:List (List G))),.i (gi g11 1).int,.i (((gi g11 4).int.toNat:Nat):Int)] else none) else none)) else none)))
def ri_club_Clubs_19 (d:List G) (b:Nat):List G:=[.l (gi d 2).rows,.i (gi d 3).int,.i (b:Int)]
def rb_club_Clubs_19 (d:List G) (b:Nat):Bool:=((Nat.beq (gi d 2).rows.length (gi d 2).rows.length)&&true)
def rs_club_Clubs_19:RSpec:=⟨⟨105,[(4,.s (.int .i64)),(19,.s (.vec 0 3)),(72,.s (.addr))],[.vec KPlace 0]⟩,[.slot 19],[],(.one (.str)),(.one (.list [.int .i64])),0,0,71,72,73,74,75,fun d=>(gi d 2).int.toNat,ri_club_Clubs_19,rb_club_Clubs_19,sr_club_Clubs_19⟩
theorem w_club_Clubs_19:RRoundP P (t90.morePf [1500084]) L_club_Clubs_26 0 rs_club_Clubs_19 (rOps2 (cutAt Tryz.f11 19)) (rBody (cutAt Tryz.f11 19)):=fun r d=>by kernel_rfl
def tr_club_Clubs_19 (d:List G):Option (Option Nat × List G) :=
 (callB (((Nat.beq (gi d 0).rows.length (gi d 0).rows.length)&&true)&&(F_club_ranked [.l (gi d 0).rows]).isSome) (F_club_ranked [.l (gi d 0).rows]) fun g12=>(bif ((Nat.beq (gi g12 0).rows.length (gi g12 0).rows.length)&&true) then some (some 0,[.l (gi g12 0).rows,.i 0]) else none))
def l_club_Clubs_19r:LSpec:=⟨31,[],⟨105,[(4,.s (.int .i64)),(19,.s (.vec 0 3)),(72,.s (.addr))],[.vec KPlace 0]⟩,[],[⟨.ret,⟨105,[(10,.s (.vec 0 3)),(11,.s (.int .i64))],[.vec KPlace 0]⟩,[.slot 10]⟩],tr_club_Clubs_19⟩
theorem v_club_Clubs_19:CutOK P (t90.morePf [1500084]) L_club_Clubs_26 0 (rRest (cutAt Tryz.f11 19)) l_club_Clubs_19r:=fun d=>by kernel_rfl
def tl_club_Clubs_19 (d:List G):Option (Option Nat × List G) :=
 rangeP rs_club_Clubs_19 tr_club_Clubs_19 (gi d 0).rows ((gi d 1).int.toNat) d
def l_club_Clubs_19c:LSpec:=⟨19,[(19,KPlace)],⟨105,[(4,.s (.int .i64)),(14,.s (.map 0)),(19,.s (.vec 1 3))],[.pool 1 (.one (.str)) [.int .i64],.vec KPlace 0]⟩,[.slot 14,.slot 19],[⟨.ret,⟨105,[(10,.s (.vec 0 3)),(11,.s (.int .i64))],[.vec KPlace 0]⟩,[.slot 10]⟩],tl_club_Clubs_19⟩
def L_club_Clubs_19c:LT:=L_club_Clubs_26.addCut 0 l_club_Clubs_19c
theorem L_club_Clubs_19c_ok:LpK P 0 L_club_Clubs_19c (bodyOf Tryz.f11):=LpK.addRangeP (q:=l_club_Clubs_19c) (qr:=l_club_Clubs_19r) (sp:=rs_club_Clubs_19) (r0:=19) (b0:=2) (r1:=20) (b1:=3) (r2:=21) (rows:=fun d=>(gi d 0).rows) (clock:=fun d=>(gi d 1).int.toNat) (pre:=fun d=>preOf P (t90.morePf [1500084]) (rOps0 (cutAt Tryz.f11 19)) (mkSt l_club_Clubs_19c.inv d)) (lb:=1) hm (t90_ok.morePf [1500084]) (by kernel_rfl) L_club_Clubs_26_ok (by kernel_rfl) (by kernel_rfl) w_club_Clubs_19 (fun d=>by kernel_rfl) (fun d=>by kernel_rfl) (fun d=>by kernel_rfl) (fun d=>by kernel_rfl) (fun d=>by kernel_rfl) (fun d=>by kernel_rfl) (fun d b=>by kernel_rfl) (fun d b=>rfl) rfl rfl v_club_Clubs_19 (fun d=>rfl)
def F_club_Clubs (d:List G):Option (List G) :=
 (callF (F_club_CheckMembers [.l (gi d 0).rows,.l (gi d 1).rows]) fun g1=>(bif ((gi g1 0).int != 0) then some [.l [],.i (gi g1 0).int] else (callF (F_club_CheckEntrants [.l (gi d 2).rows]) fun g2=>(bif ((gi g2 0).int != 0) then some [.l [],.i (gi g2 0).int] else (callF (F_club_isDay [.i (gi d 3).int]) fun g3=>(bif (!(gi g3 0).bool) then some [.l [],.i 1] else (callF (F_kit_Outside [.i (gi d 4).int,.i 1,.i 500]) fun g4=>(bif (gi g4 0).bool then some [.l [],.i 1] else (callF (F_club_last_f [.l (gi d 1).rows,.i (gi d 3).int]) fun g5=>(loopB true (LRun st_club_Clubs_12 [.l [],.i 0,.l (gi g5 0).rows,.i (((gi g5 1).int.toNat:Nat):Int),.l (gi d 0).rows,.i (gi d 4).int,.l (gi d 2).rows,.i (((gi d 2).rows.length:Nat):Int),.i 0]) fun cg8 g8=>(loopB true (cutR (tl_club_Clubs_19 [.l (gi g8 0).rows,.i (((gi g8 1).int.toNat:Nat):Int),.l [],.i (gi g8 2).int])) fun cg13 g13=>(bif ((Nat.beq (gi g13 0).rows.length (gi g13 0).rows.length)&&true) then some [.l (gi g13 0).rows,.i (gi g13 1).int] else none))))))))))))
def s_club_Clubs:FSpec:=⟨11,[.s (.list [.str,.list [.str]]),.s (.list KMember),.s (.list KMember),.s (.int .i64),.s (.int .i64)],[],[],[.s (.list KPlace),.s (.int .i64)],[],[],[],F_club_Clubs⟩
theorem b_club_Clubs:BodyOK P (t90.morePf [1500084]) L_club_Clubs_19c Tryz.f11 s_club_Clubs:=fun d=>by kernel_rfl
theorem c_club_Clubs:COK P s_club_Clubs:=bodyC hm (t90_ok.morePf [1500084]) Tryz.func11 (by kernel_rfl) L_club_Clubs_19c_ok b_club_Clubs (by kernel_rfl)
def t91:Tab:=t90.addP s_club_Clubs
theorem t91_ok:TabOK P t91:=t90_ok.aP c_club_Clubs

end
end Go.Proofs.SYtelglbbhbgjagaaGreatDoor
