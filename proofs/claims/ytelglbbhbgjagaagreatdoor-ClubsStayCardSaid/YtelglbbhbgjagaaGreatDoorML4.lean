/-
 What is proved here: functions of the program as functions on data. No condition.
-/
import Derived.Test.YtelglbbhbgjagaaGreatDoorML3
set_option linter.all false
namespace Go.Proofs.SYtelglbbhbgjagaaGreatDoor
open Go Go.AL Go.Proofs
noncomputable section
def st_sl_Equal_string_4 (d:List G):Option (Option Nat × List G) :=
 (bif (ltI (gi d 3).int (gi d 2).int) then (bif ((nnI (gi d 3).int)&&(ltI (gi d 3).int (((gi d 0).rows.length:Nat):Int))) then (bif ((nnI (gi d 3).int)&&(ltI (gi d 3).int (((gi d 1).rows.length:Nat):Int))) then (bif (!((gi ((gi d 0).rows.getD (((gi d 3).int).toNat) []) 0).str.toList==(gi ((gi d 1).rows.getD (((gi d 3).int).toNat) []) 0).str.toList)) then some (some 0,[.t false]) else (bif (inI ((gi d 3).int+1)) then some (none,[.l (gi d 0).rows,.l (gi d 1).rows,.i (gi d 2).int,.i ((gi d 3).int+1)]) else none)) else none) else none) else some (some 1,[]))
def l_sl_Equal_string_4:LSpec:=⟨4,[],⟨26,[(0,.s (.list [.str])),(1,.s (.list [.str])),(12,.s (.int .i64)),(13,.s (.int .i64))],[]⟩,[],[⟨.ret,⟨26,[(4,.s (.bool))],[]⟩,[]⟩,⟨.exit 0,⟨26,[],[]⟩,[]⟩],st_sl_Equal_string_4⟩
theorem r_sl_Equal_string_4:RoundOK P t91 nL0 0 (loopAt Tryz.f32 4) l_sl_Equal_string_4:=fun d=>by kernel_rfl
def L_sl_Equal_string_4:LT:=nL0.add 0 l_sl_Equal_string_4
theorem L_sl_Equal_string_4_ok:LpK P 0 L_sl_Equal_string_4 (bodyOf Tryz.f32):=LpK.a hm t91_ok (nLk _ _ _) r_sl_Equal_string_4
def F_sl_Equal_string (d:List G):Option (List G) :=
 (bif ((((gi d 0).rows.length:Nat):Int) != (((gi d 1).rows.length:Nat):Int)) then some [.t false] else (loopB true (LRun st_sl_Equal_string_4 [.l (gi d 0).rows,.l (gi d 1).rows,.i (((gi d 0).rows.length:Nat):Int),.i 0]) fun cg1 g1=>(bif Nat.beq cg1 0 then some [.t (gi g1 0).bool] else some [.t true])))
def s_sl_Equal_string:FSpec:=⟨32,[.s (.list [.str]),.s (.list [.str])],[],[],[.s (.bool)],[],[],[],F_sl_Equal_string⟩
theorem b_sl_Equal_string:BodyOK P t91 L_sl_Equal_string_4 Tryz.f32 s_sl_Equal_string:=fun d=>by kernel_rfl
theorem c_sl_Equal_string:COK P s_sl_Equal_string:=bdC hm t91_ok Tryz.func32 L_sl_Equal_string_4_ok b_sl_Equal_string
def t92:Tab:=t91.addP s_sl_Equal_string
theorem t92_ok:TabOK P t92:=t91_ok.aP c_sl_Equal_string

def F_k2_ClubsStay_1 (d:List G):Option (List G) :=
 (bif ((gi (gi d 0).row 0).str.toList==(gi (gi d 1).row 0).str.toList) then (callF (F_sl_Equal_string [.l (gi (gi d 0).row 1).rows,.l (gi (gi d 1).row 1).rows]) fun g1=>some [.t (gi g1 0).bool]) else some [.t false])
def s_k2_ClubsStay_1:FSpec:=⟨31,[.s (.row [.str,.list [.str]]),.s (.row [.str,.list [.str]])],[],[],[.s (.bool)],[],[],[],F_k2_ClubsStay_1⟩
theorem b_k2_ClubsStay_1:BodyOK P t92 nL0 Tryz.f31 s_k2_ClubsStay_1:=fun d=>by kernel_rfl
theorem c_k2_ClubsStay_1:COK P s_k2_ClubsStay_1:=bdC hm t92_ok Tryz.func31 (nLk _ _ _) b_k2_ClubsStay_1
def t93:Tab:=t92.addP s_k2_ClubsStay_1
theorem t93_ok:TabOK P t93:=t92_ok.aP c_k2_ClubsStay_1

def st_sl_EqualFunc_Club_4 (d:List G):Option (Option Nat × List G) :=
 (bif (ltI (gi d 3).int (gi d 2).int) then (bif ((nnI (gi d 3).int)&&(ltI (gi d 3).int (((gi d 1).rows.length:Nat):Int))) then (bif ((nnI (gi d 3).int)&&(ltI (gi d 3).int (((gi d 0).rows.length:Nat):Int))) then (callF (F_k2_ClubsStay_1 [.l [(gEta [.str,.list [.str]] ((gi d 1).rows.getD (((gi d 3).int).toNat) []))],.l [(gEta [.str,.list [.str]] ((gi d 0).rows.getD (((gi d 3).int).toNat) []))]]) fun g1=>(bif (!(gi g1 0).bool) then some (some 0,[.t false]) else (bif (inI ((gi d 3).int+1)) then some (none,[.l (gi d 0).rows,.l (gi d 1).rows,.i (gi d 2).int,.i ((gi d 3).int+1)]) else none))) else none) else none) else some (some 1,[]))
def l_sl_EqualFunc_Club_4:LSpec:=⟨4,[],⟨32,[(1,.s (.list [.str,.list [.str]])),(2,.s (.fn 31)),(15,.s (.list [.str,.list [.str]])),(16,.s (.int .i64)),(17,.s (.int .i64))],[]⟩,[],[⟨.ret,⟨32,[(6,.s (.bool))],[]⟩,[]⟩,⟨.exit 0,⟨32,[],[]⟩,[]⟩],st_sl_EqualFunc_Club_4⟩
theorem r_sl_EqualFunc_Club_4:RoundOK P t93 nL0 0 (loopAt Tryz.f33 4) l_sl_EqualFunc_Club_4:=fun d=>by kernel_rfl
def L_sl_EqualFunc_Club_4:LT:=nL0.add 0 l_sl_EqualFunc_Club_4
theorem L_sl_EqualFunc_Club_4_ok:LpK P 0 L_sl_EqualFunc_Club_4 (bodyOf Tryz.f33):=LpK.a hm t93_ok (nLk _ _ _) r_sl_EqualFunc_Club_4
def F_sl_EqualFunc_Club (d:List G):Option (List G) :=
 (bif ((((gi d 0).rows.length:Nat):Int) != (((gi d 1).rows.length:Nat):Int)) then some [.t false] else (loopB true (LRun st_sl_EqualFunc_Club_4 [.l (gi d 1).rows,.l (gi d 0).rows,.i (((gi d 0).rows.length:Nat):Int),.i 0]) fun cg2 g2=>(bif Nat.beq cg2 0 then some [.t (gi g2 0).bool] else some [.t true])))
def s_sl_EqualFunc_Club:FSpec:=⟨33,[.s (.list [.str,.list [.str]]),.s (.list [.str,.list [.str]]),.s (.fn 31)],[],[],[.s (.bool)],[],[],[],F_sl_EqualFunc_Club⟩
theorem b_sl_EqualFunc_Club:BodyOK P t93 L_sl_EqualFunc_Club_4 Tryz.f33 s_sl_EqualFunc_Club:=fun d=>by kernel_rfl
theorem c_sl_EqualFunc_Club:COK P s_sl_EqualFunc_Club:=bdC hm t93_ok Tryz.func33 L_sl_EqualFunc_Club_4_ok b_sl_EqualFunc_Club
def t94:Tab:=t93.addP s_sl_EqualFunc_Club
theorem t94_ok:TabOK P t94:=t93_ok.aP c_sl_EqualFunc_Club

def st_sl_Equal_Member_4 (d:List G):Option (Option Nat × List G) :=
 (bif (ltI (gi d 3).int (gi d 2).int) then (bif ((nnI (gi d 3).int)&&(ltI (gi d 3).int (((gi d 0).rows.length:Nat):Int))) then (bif ((nnI (gi d 3).int)&&(ltI (gi d 3).int (((gi d 1).rows.length:Nat):Int))) then (bif (!(rowEq KMember (gEta KMember ((gi d 0).rows.getD (((gi d 3).int).toNat) [])) (gEta KMember ((gi d 1).rows.getD (((gi d 3).int).toNat) [])))) then some (some 0,[.t false]) else (bif (inI ((gi d 3).int+1)) then some (none,[.l (gi d 0).rows,.l (gi d 1).rows,.i (gi d 2).int,.i ((gi d 3).int+1)]) else none)) else none) else none) else some (some 1,[]))
def l_sl_Equal_Member_4:LSpec:=⟨4,[],⟨26,[(0,.s (.list KMember)),(1,.s (.list KMember)),(12,.s (.int .i64)),(13,.s (.int .i64))],[]⟩,[],[⟨.ret,⟨26,[(4,.s (.bool))],[]⟩,[]⟩,⟨.exit 0,⟨26,[],[]⟩,[]⟩],st_sl_Equal_Member_4⟩
theorem r_sl_Equal_Member_4:RoundOK P t94 nL0 0 (loopAt Tryz.f34 4) l_sl_Equal_Member_4:=fun d=>by kernel_rfl
def L_sl_Equal_Member_4:LT:=nL0.add 0 l_sl_Equal_Member_4
theorem L_sl_Equal_Member_4_ok:LpK P 0 L_sl_Equal_Member_4 (bodyOf Tryz.f34):=LpK.a hm t94_ok (nLk _ _ _) r_sl_Equal_Member_4
def F_sl_Equal_Member (d:List G):Option (List G) :=
 (bif ((((gi d 0).rows.length:Nat):Int) != (((gi d 1).rows.length:Nat):Int)) then some [.t false] else (loopB true (LRun st_sl_Equal_Member_4 [.l (gi d 0).rows,.l (gi d 1).rows,.i (((gi d 0).rows.length:Nat):Int),.i 0]) fun cg1 g1=>(bif Nat.beq cg1 0 then some [.t (gi g1 0).bool] else some [.t true])))
def s_sl_Equal_Member:FSpec:=⟨34,[.s (.list KMember),.s (.list KMember)],[],[],[.s (.bool)],[],[],[],F_sl_Equal_Member⟩
theorem b_sl_Equal_Member:BodyOK P t94 L_sl_Equal_Member_4 Tryz.f34 s_sl_Equal_Member:=fun d=>by kernel_rfl
theorem c_sl_Equal_Member:COK P s_sl_Equal_Member:=bdC hm t94_ok Tryz.func34 L_sl_Equal_Member_4_ok b_sl_Equal_Member
def t95:Tab:=t94.addP s_sl_Equal_Member
theorem t95_ok:TabOK P t95:=t94_ok.aP c_sl_Equal_Member

def st_sl_Equal_Card_4 (d:List G):Option (Option Nat × List G) :=
 (bif (ltI (gi d 3).int (gi d 2).int) then (bif ((nnI (gi d 3).int)&&(ltI (gi d 3).int (((gi d 0).rows.length:Nat):Int))) then (bif ((nnI (gi d 3).int)&&(ltI (gi d 3).int (((gi d 1).rows.length:Nat):Int))) then (bif (!(rowEq KCard (gEta KCard ((gi d 0).rows.getD (((gi d 3).int).toNat) [])) (gEta KCard ((gi d 1).rows.getD (((gi d 3).int).toNat) [])))) then some (some 0,[.t false]) else (bif (inI ((gi d 3).int+1)) then some (none,[.l (gi d 0).rows,.l (gi d 1).rows,.i (gi d 2).int,.i ((gi d 3).int+1)]) else none)) else none) else none) else some (some 1,[]))
def l_sl_Equal_Card_4:LSpec:=⟨4,[],⟨26,[(0,.s (.list KCard)),(1,.s (.list KCard)),(12,.s (.int .i64)),(13,.s (.int .i64))],[]⟩,[],[⟨.ret,⟨26,[(4,.s (.bool))],[]⟩,[]⟩,⟨.exit 0,⟨26,[],[]⟩,[]⟩],st_sl_Equal_Card_4⟩
theorem r_sl_Equal_Card_4:RoundOK P t95 nL0 0 (loopAt Tryz.f35 4) l_sl_Equal_Card_4:=fun d=>by kernel_rfl
def L_sl_Equal_Card_4:LT:=nL0.add 0 l_sl_Equal_Card_4
theorem L_sl_Equal_Card_4_ok:LpK P 0 L_sl_Equal_Card_4 (bodyOf Tryz.f35):=LpK.a hm t95_ok (nLk _ _ _) r_sl_Equal_Card_4
def F_sl_Equal_Card (d:List G):Option (List G) :=
 (bif ((((gi d 0).rows.length:Nat):Int) != (((gi d 1).rows.length:Nat):Int)) then some [.t false] else (loopB true (LRun st_sl_Equal_Card_4 [.l (gi d 0).rows,.l (gi d 1).rows,.i (((gi d 0).rows.length:Nat):Int),.i 0]) fun cg1 g1=>(bif Nat.beq cg1 0 then some [.t (gi g1 0).bool] else some [.t true])))
def s_sl_Equal_Card:FSpec:=⟨35,[.s (.list KCard),.s (.list KCard)],[],[],[.s (.bool)],[],[],[],F_sl_Equal_Card⟩
theorem b_sl_Equal_Card:BodyOK P t95 L_sl_Equal_Card_4 Tryz.f35 s_sl_Equal_Card:=fun d=>by kernel_rfl
theorem c_sl_Equal_Card:COK P s_sl_Equal_Card:=bdC hm t95_ok Tryz.func35 L_sl_Equal_Card_4_ok b_sl_Equal_Card
def t96:Tab:=t95.addP s_sl_Equal_Card
theorem t96_ok:TabOK P t96:=t95_ok.aP c_sl_Equal_Card

def st_sl_Equal_Entrant_4 (d:List G):Option (Option Nat × List G) :=
 (bif (ltI (gi d 3).int (gi d 2).int) then (bif ((nnI (gi d 3).int)&&(ltI (gi d 3).int (((gi d 0).rows.length:Nat):Int))) then (bif ((nnI (gi d 3).int)&&(ltI (gi d 3).int (((gi d 1).rows.length:Nat):Int))) then (bif (!(rowEq KMember (gEta KMember ((gi d 0).rows.getD (((gi d 3).int).toNat) [])) (gEta KMember ((gi d 1).rows.getD (((gi d 3).int).toNat) [])))) then some (some 0,[.t false]) else (bif (inI ((gi d 3).int+1)) then some (none,[.l (gi d 0).rows,.l (gi d 1).rows,.i (gi d 2).int,.i ((gi d 3).int+1)]) else none)) else none) else none) else some (some 1,[]))
def l_sl_Equal_Entrant_4:LSpec:=⟨4,[],⟨26,[(0,.s (.list KMember)),(1,.s (.list KMember)),(12,.s (.int .i64)),(13,.s (.int .i64))],[]⟩,[],[⟨.ret,⟨26,[(4,.s (.bool))],[]⟩,[]⟩,⟨.exit 0,⟨26,[],[]⟩,[]⟩],st_sl_Equal_Entrant_4⟩
theorem r_sl_Equal_Entrant_4:RoundOK P t96 nL0 0 (loopAt Tryz.f36 4) l_sl_Equal_Entrant_4:=fun d=>by kernel_rfl
def L_sl_Equal_Entrant_4:LT:=nL0.add 0 l_sl_Equal_Entrant_4
theorem L_sl_Equal_Entrant_4_ok:LpK P 0 L_sl_Equal_Entrant_4 (bodyOf Tryz.f36):=LpK.a hm t96_ok (nLk _ _ _) r_sl_Equal_Entrant_4
def F_sl_Equal_Entrant (d:List G):Option (List G) :=
 (bif ((((gi d 0).rows.length:Nat):Int) != (((gi d 1).rows.length:Nat):Int)) then some [.t false] else (loopB true (LRun st_sl_Equal_Entrant_4 [.l (gi d 0).rows,.l (gi d 1).rows,.i (((gi d 0).rows.length:Nat):Int),.i 0]) fun cg1 g1=>(bif Nat.beq cg1 0 then some [.t (gi g1 0).bool] else some [.t true])))
def s_sl_Equal_Entrant:FSpec:=⟨36,[.s (.list KMember),.s (.list KMember)],[],[],[.s (.bool)],[],[],[],F_sl_Equal_Entrant⟩
theorem b_sl_Equal_Entrant:BodyOK P t96 L_sl_Equal_Entrant_4 Tryz.f36 s_sl_Equal_Entrant:=fun d=>by kernel_rfl
theorem c_sl_Equal_Entrant:COK P s_sl_Equal_Entrant:=bdC hm t96_ok Tryz.func36 L_sl_Equal_Entrant_4_ok b_sl_Equal_Entrant
def t97:Tab:=t96.addP s_sl_Equal_Entrant
theorem t97_ok:TabOK P t97:=t96_ok.aP c_sl_Equal_Entrant

def F_k2_ClubsStay (d:List G):Option (List G) :=
 (callF (F_mk_RightClubs [.l (gi d 0).rows,.i 0]) fun g1=>(callF (F_mk_RightClubs [.l (gi d 0).rows,.i 0]) fun g2=>(callF (F_mk_Members [.l (gi g1 0).rows,.i (gi g1 1).int,.l (gi g1 2).rows]) fun g3=>(callF (F_mk_Members [.l (gi g2 0).rows,.i (gi g2 1).int,.l (gi g2 2).rows]) fun g4=>(callF (F_mk_RightCards [.l (gi g3 0).rows,.i (gi g3 1).int,.i 8]) fun g5=>(callF (F_mk_RightCards [.l (gi g4 0).rows,.i (gi g4 1).int,.i 8]) fun g6=>(callF (F_mk_Entrants [.l (gi g5 0).rows,.i (gi g5 1).int]) fun g7=>(callF (F_mk_Entrants [.l (gi g6 0).rows,.i (gi g6 1).int]) fun g8=>(callF (F_club_MergeCards_f [.l (gi g5 2).rows,.l []]) fun g9=>(callB (((Nat.beq (gi g9 0).rows.length (gi g9 0).rows.length)&&true)&&(F_k2_spoil_Card [.l (gi g9 0).rows]).isSome) (F_k2_spoil_Card [.l (gi g9 0).rows]) fun g10=>(callF (F_club_Confirmed_f [.l (gi g5 2).rows,.i 60]) fun g11=>(callB (((Nat.beq (gi g11 0).rows.length (gi g11 0).rows.length)&&true)&&(F_k2_spoil_Card [.l (gi g11 0).rows]).isSome) (F_k2_spoil_Card [.l (gi g11 0).rows]) fun g12=>(callF (F_club_Table_f [.l (gi g7 2).rows,.s (⟨#[97,108,108]⟩:ByteArray)]) fun g13=>(callB (((Nat.beq (gi g13 0).rows.length (gi g13 0).rows.length)&&true)&&(F_k2_spoil_Place [.l (gi g13 0).rows]).isSome) (F_k2_spoil_Place [.l (gi g13 0).rows]) fun g14=>(callF (F_club_Clubs [.l (gi g1 2).rows,.l (gi g3 2).rows,.l (gi g7 2).rows,.i 5,.i 2]) fun g15=>(callF (F_sl_EqualFunc_Club [.l (gi g1 2).rows,.l (gi g2 2).rows]) fun g16=>(bif (gi g16 0).bool then (callF (F_sl_Equal_Member [.l (gi g3 2).rows,.l (gi g4 2).rows]) fun g17=>(bif (gi g17 0).bool then (callF (F_sl_Equal_Card [.l (gi g5 2).rows,.l (gi g6 2).rows]) fun g18=>(bif (gi g18 0).bool then (callF (F_sl_Equal_Entrant [.l (gi g7 2).rows,.l (gi g8 2).rows]) fun g19=>(bif (gi g19 0).bool then (callF (F_k2_ready []) fun g20=>some [.t (gi g20 0).bool]) else some [.t false])) else some [.t false])) else some [.t false])) else some [.t false])))))))))))))))))
def s_k2_ClubsStay:FSpec:=⟨4,[.s (.list [.int .i64])],[],[],[.s (.bool)],[],[],[],F_k2_ClubsStay⟩
theorem b_k2_ClubsStay:BodyOK P t97 nL0 Tryz.f4 s_k2_ClubsStay:=fun d=>by kernel_rfl
theorem c_k2_ClubsStay:COK P s_k2_ClubsStay:=bdC hm t97_ok Tryz.func4 (nLk _ _ _) b_k2_ClubsStay
def t98:Tab:=t97.addP s_k2_ClubsStay
theorem t98_ok:TabOK P t98:=t97_ok.aP c_k2_ClubsStay

end
end Go.Proofs.SYtelglbbhbgjagaaGreatDoor
