/-
 What is proved here: functions of the program as functions on data. No condition.
-/
import Derived.Test.YtioeckojljemcaaGreatDoorML1
set_option linter.all false
namespace Go.Proofs.SYtioeckojljemcaaGreatDoor
open Go Go.AL Go.Proofs
noncomputable section
def F_kit_Outside (d:List G):Option (List G) :=
 (bif (ltI (gi d 0).int (gi d 1).int) then some [.t true] else some [.t (ltI (gi d 2).int (gi d 0).int)])
def s_kit_Outside:FSpec:=⟨43,[.s (.int .i64),.s (.int .i64),.s (.int .i64)],[],[],[.s (.bool)],[],[],[],F_kit_Outside⟩
theorem b_kit_Outside:BodyOK P t6 nL0 Tryz.f43 s_kit_Outside:=fun d=>by kernel_rfl
theorem c_kit_Outside:COK P s_kit_Outside:=bdC hm t6_ok Tryz.func43 (nLk _ _ _) b_kit_Outside
def t7:Tab:=t6.addP s_kit_Outside
theorem t7_ok:TabOK P t7:=t6_ok.aP c_kit_Outside

def F_kit_IsMoment (d:List G):Option (List G) :=
 (callF (F_kit_Outside [.i (gi d 0).int,.i 0,.i 345686399999]) fun g1=>some [.t (!(gi g1 0).bool)])
def s_kit_IsMoment:FSpec:=⟨45,[.s (.int .i64)],[],[],[.s (.bool)],[],[],[],F_kit_IsMoment⟩
theorem b_kit_IsMoment:BodyOK P t7 nL0 Tryz.f45 s_kit_IsMoment:=fun d=>by kernel_rfl
theorem c_kit_IsMoment:COK P s_kit_IsMoment:=bdC hm t7_ok Tryz.func45 (nLk _ _ _) b_kit_IsMoment
def t8:Tab:=t7.addP s_kit_IsMoment
theorem t8_ok:TabOK P t8:=t7_ok.aP c_kit_IsMoment

def F_kit_IsMode (d:List G):Option (List G) :=
 (callF (F_kit_Outside [.i (gi d 0).int,.i 1,.i 3]) fun g1=>some [.t (!(gi g1 0).bool)])
def s_kit_IsMode:FSpec:=⟨44,[.s (.int .i64)],[],[],[.s (.bool)],[],[],[],F_kit_IsMode⟩
theorem b_kit_IsMode:BodyOK P t8 nL0 Tryz.f44 s_kit_IsMode:=fun d=>by kernel_rfl
theorem c_kit_IsMode:COK P s_kit_IsMode:=bdC hm t8_ok Tryz.func44 (nLk _ _ _) b_kit_IsMode
def t9:Tab:=t8.addP s_kit_IsMode
theorem t9_ok:TabOK P t9:=t8_ok.aP c_kit_IsMode

def F_kit_IsKey (d:List G):Option (List G) :=
 (bif (!((gi d 0).str.toList==(⟨#[]⟩:ByteArray).toList)) then (bif (leI (((gi d 0).str.size:Nat):Int) 40) then (bif (ltI 0 (((gi d 0).str.size:Nat):Int)) then (callF (F_strings_IndexByte [.s (⟨#[97,98,99,100,101,102,103,104,105,106,107,108,109,110,111,112,113,114,115,116,117,118,119,120,121,122]⟩:ByteArray),.i (((gi d 0).str.data.toList.getD 0 0).toNat:Int)]) fun g1=>(bif (leI 0 (gi g1 0).int) then (callF (F_strings_Trim [.s (gi d 0).str,.s (⟨#[97,98,99,100,101,102,103,104,105,106,107,108,109,110,111,112,113,114,115,116,117,118,119,120,121,122,48,49,50,51,52,53,54,55,56,57,45,95]⟩:ByteArray)]) fun g2=>some [.t ((gi g2 0).str.toList==(⟨#[]⟩:ByteArray).toList)]) else some [.t false])) else none) else some [.t false]) else some [.t false])
def s_kit_IsKey:FSpec:=⟨42,[.s (.str)],[],[],[.s (.bool)],[],[],[],F_kit_IsKey⟩
theorem b_kit_IsKey:BodyOK P t9 nL0 Tryz.f42 s_kit_IsKey:=fun d=>by kernel_rfl
theorem c_kit_IsKey:COK P s_kit_IsKey:=bdC hm t9_ok Tryz.func42 (nLk _ _ _) b_kit_IsKey
def t10:Tab:=t9.addP s_kit_IsKey
theorem t10_ok:TabOK P t10:=t9_ok.aP c_kit_IsKey

def F_call_Is (d:List G):Option (List G) :=
 (callF (F_call_Parts [.s (gi d 0).str]) fun g1=>some [.t (gi g1 1).bool])
def s_call_Is:FSpec:=⟨81,[.s (.str)],[],[],[.s (.bool)],[],[],[],F_call_Is⟩
theorem b_call_Is:BodyOK P t10 nL0 Tryz.f81 s_call_Is:=fun d=>by kernel_rfl
theorem c_call_Is:COK P s_call_Is:=bdC hm t10_ok Tryz.func81 (nLk _ _ _) b_call_Is
def t11:Tab:=t10.addP s_call_Is
theorem t11_ok:TabOK P t11:=t10_ok.aP c_call_Is

def F_kit_IsName (d:List G):Option (List G) :=
 (bif ((gi d 0).str.toList==(⟨#[]⟩:ByteArray).toList) then some [.t true] else (callF (F_kit_IsKey [.s (gi d 0).str]) fun g1=>some [.t (gi g1 0).bool]))
def s_kit_IsName:FSpec:=⟨107,[.s (.str)],[],[],[.s (.bool)],[],[],[],F_kit_IsName⟩
theorem b_kit_IsName:BodyOK P t11 nL0 Tryz.f107 s_kit_IsName:=fun d=>by kernel_rfl
theorem c_kit_IsName:COK P s_kit_IsName:=bdC hm t11_ok Tryz.func107 (nLk _ _ _) b_kit_IsName
def t12:Tab:=t11.addP s_kit_IsName
theorem t12_ok:TabOK P t12:=t11_ok.aP c_kit_IsName

def F_log_CheckContact (d:List G):Option (List G) :=
 (callF (F_kit_IsMoment [.i (gi (gi d 0).row 0).int]) fun g1=>(bif (!(gi g1 0).bool) then some [.i 1] else (callF (F_kit_IsMode [.i (gi (gi d 0).row 1).int]) fun g2=>(bif (!(gi g2 0).bool) then some [.i 4] else (callF (F_kit_IsKey [.s (gi (gi d 0).row 2).str]) fun g3=>(bif (!(gi g3 0).bool) then some [.i 5] else (callF (F_call_Is [.s (gi (gi d 0).row 3).str]) fun g4=>(bif (!(gi g4 0).bool) then some [.i 3] else (callF (F_kit_Outside [.i (gi (gi d 0).row 4).int,.i 0,.i 99999]) fun g5=>(bif (gi g5 0).bool then some [.i 1] else (callF (F_kit_Outside [.i (gi (gi d 0).row 5).int,.i 0,.i 99999]) fun g6=>(bif (gi g6 0).bool then some [.i 1] else (callF (F_kit_IsName [.s (gi (gi d 0).row 6).str]) fun g7=>(bif (!(gi g7 0).bool) then some [.i 5] else (callF (F_kit_IsName [.s (gi (gi d 0).row 7).str]) fun g8=>(bif (!(gi g8 0).bool) then some [.i 5] else some [.i 0]))))))))))))))))
def s_log_CheckContact:FSpec:=⟨70,[.s (.row KCt)],[],[],[.s (.int .i64)],[],[],[],F_log_CheckContact⟩
theorem b_log_CheckContact:BodyOK P t12 nL0 Tryz.f70 s_log_CheckContact:=fun d=>by kernel_rfl
theorem c_log_CheckContact:COK P s_log_CheckContact:=bdC hm t12_ok Tryz.func70 (nLk _ _ _) b_log_CheckContact
def t13:Tab:=t12.addP s_log_CheckContact
theorem t13_ok:TabOK P t13:=t12_ok.aP c_log_CheckContact

def F_cmp_isNaN_int (d:List G):Option (List G) :=
 some [.t ((gi d 0).int != (gi d 0).int)]
def s_cmp_isNaN_int:FSpec:=⟨121,[.s (.int .i64)],[],[],[.s (.bool)],[],[],[],F_cmp_isNaN_int⟩
theorem b_cmp_isNaN_int:BodyOK P t13 nL0 Tryz.f121 s_cmp_isNaN_int:=fun d=>by kernel_rfl
theorem c_cmp_isNaN_int:COK P s_cmp_isNaN_int:=bdC hm t13_ok Tryz.func121 (nLk _ _ _) b_cmp_isNaN_int
def t14:Tab:=t13.addP s_cmp_isNaN_int
theorem t14_ok:TabOK P t14:=t13_ok.aP c_cmp_isNaN_int

def F_cmp_Compare_int (d:List G):Option (List G) :=
 (callF (F_cmp_isNaN_int [.i (gi d 0).int]) fun g1=>(callF (F_cmp_isNaN_int [.i (gi d 1).int]) fun g2=>(bif (gi g1 0).bool then (bif (gi g2 0).bool then some [.i 0] else some [.i (-1)]) else (bif (gi g2 0).bool then some [.i 1] else (bif (ltI (gi d 0).int (gi d 1).int) then some [.i (-1)] else (bif (ltI (gi d 1).int (gi d 0).int) then some [.i 1] else some [.i 0]))))))
def s_cmp_Compare_int:FSpec:=⟨86,[.s (.int .i64),.s (.int .i64)],[],[],[.s (.int .i64)],[],[],[],F_cmp_Compare_int⟩
theorem b_cmp_Compare_int:BodyOK P t14 nL0 Tryz.f86 s_cmp_Compare_int:=fun d=>by kernel_rfl
theorem c_cmp_Compare_int:COK P s_cmp_Compare_int:=bdC hm t14_ok Tryz.func86 (nLk _ _ _) b_cmp_Compare_int
def t15:Tab:=t14.addP s_cmp_Compare_int
theorem t15_ok:TabOK P t15:=t14_ok.aP c_cmp_Compare_int

def st_cmp_Or_int_3 (d:List G):Option (Option Nat × List G) :=
 (bif (ltI (gi d 3).int (gi d 2).int) then (bif ((nnI (gi d 3).int)&&(ltI (gi d 3).int (((gi d 1).rows.length:Nat):Int))) then (bif ((gi ((gi d 1).rows.getD (((gi d 3).int).toNat) []) 0).int != (gi d 0).int) then some (some 0,[.i (gi ((gi d 1).rows.getD (((gi d 3).int).toNat) []) 0).int]) else (bif (inI ((gi d 3).int+1)) then some (none,[.i (gi d 0).int,.l (gi d 1).rows,.i (gi d 2).int,.i ((gi d 3).int+1)]) else none)) else none) else some (some 1,[.i (gi d 0).int]))
def l_cmp_Or_int_3:LSpec:=⟨3,[],⟨18,[(3,.s (.int .i64)),(6,.s (.list [.int .i64])),(7,.s (.int .i64)),(8,.s (.int .i64))],[]⟩,[],[⟨.ret,⟨18,[(2,.s (.int .i64))],[]⟩,[]⟩,⟨.exit 0,⟨18,[(3,.s (.int .i64))],[]⟩,[]⟩],st_cmp_Or_int_3⟩
theorem r_cmp_Or_int_3:RoundOK P t15 nL0 0 (loopAt Tryz.f83 3) l_cmp_Or_int_3:=fun d=>by kernel_rfl
def L_cmp_Or_int_3:LT:=nL0.add 0 l_cmp_Or_int_3
theorem L_cmp_Or_int_3_ok:LpK P 0 L_cmp_Or_int_3 (bodyOf Tryz.f83):=LpK.a hm t15_ok (nLk _ _ _) r_cmp_Or_int_3
def F_cmp_Or_int (d:List G):Option (List G) :=
 (loopB true (LRun st_cmp_Or_int_3 [.i 0,.l (gi d 0).rows,.i (((gi d 0).rows.length:Nat):Int),.i 0]) fun cg1 g1=>(bif Nat.beq cg1 0 then some [.i (gi g1 0).int] else some [.i (gi g1 0).int]))
def s_cmp_Or_int:FSpec:=⟨83,[.s (.list [.int .i64])],[],[],[.s (.int .i64)],[],[],[],F_cmp_Or_int⟩
theorem b_cmp_Or_int:BodyOK P t15 L_cmp_Or_int_3 Tryz.f83 s_cmp_Or_int:=fun d=>by kernel_rfl
theorem c_cmp_Or_int:COK P s_cmp_Or_int:=bdC hm t15_ok Tryz.func83 L_cmp_Or_int_3_ok b_cmp_Or_int
def t16:Tab:=t15.addP s_cmp_Or_int
theorem t16_ok:TabOK P t16:=t15_ok.aP c_cmp_Or_int

def F_log_Compare (d:List G):Option (List G) :=
 (callF (F_cmp_Compare_int [.i (gi (gi d 0).row 0).int,.i (gi (gi d 1).row 0).int]) fun g1=>(callF (F_strings_Compare [.s (gi (gi d 0).row 3).str,.s (gi (gi d 1).row 3).str]) fun g2=>(callF (F_strings_Compare [.s (gi (gi d 0).row 2).str,.s (gi (gi d 1).row 2).str]) fun g3=>(callF (F_cmp_Compare_int [.i (gi (gi d 0).row 1).int,.i (gi (gi d 1).row 1).int]) fun g4=>(callF (F_cmp_Or_int [.l [[.i (gi g1 0).int],[.i (gi g2 0).int],[.i (gi g3 0).int],[.i (gi g4 0).int]]]) fun g5=>some [.i (gi g5 0).int])))))
def s_log_Compare:FSpec:=⟨71,[.s (.row KCt),.s (.row KCt)],[],[],[.s (.int .i64)],[],[],[],F_log_Compare⟩
theorem b_log_Compare:BodyOK P t16 nL0 Tryz.f71 s_log_Compare:=fun d=>by kernel_rfl
theorem c_log_Compare:COK P s_log_Compare:=bdC hm t16_ok Tryz.func71 (nLk _ _ _) b_log_Compare
def t17:Tab:=t16.addP s_log_Compare
theorem t17_ok:TabOK P t17:=t16_ok.aP c_log_Compare

def st_log_CheckLog_4 (d:List G):Option (Option Nat × List G) :=
 (bif (ltI (gi d 3).int (gi d 2).int) then (bif ((nnI (gi d 3).int)&&(ltI (gi d 3).int (((gi d 1).rows.length:Nat):Int))) then (callF (F_log_CheckContact [.l [(gEta KCt ((gi d 1).rows.getD (((gi d 3).int).toNat) []))]]) fun g1=>(bif ((gi g1 0).int != 0) then some (some 0,[.i (gi g1 0).int]) else (bif (ltI 0 (gi d 3).int) then (bif (inI ((gi d 3).int-1)) then (bif ((nnI ((gi d 3).int-1))&&(ltI ((gi d 3).int-1) (((gi d 0).rows.length:Nat):Int))) then (callF (F_log_Compare [.l [(gEta KCt ((gi d 0).rows.getD (((gi d 3).int-1).toNat) []))],.l [(gEta KCt ((gi d 1).rows.getD (((gi d 3).int).toNat) []))]]) fun g2=>(bif (leI 0 (gi g2 0).int) then some (some 0,[.i 7]) else (bif (inI ((gi d 3).int+1)) then some (none,[.l (gi d 0).rows,.l (gi d 1).rows,.i (gi d 2).int,.i ((gi d 3).int+1)]) else none))) else none) else none) else (bif (inI ((gi d 3).int+1)) then some (none,[.l (gi d 0).rows,.l (gi d 1).rows,.i (gi d 2).int,.i ((gi d 3).int+1)]) else none)))) else none) else some (some 1,[]))
def l_log_CheckLog_4:LSpec:=⟨4,[],⟨34,[(0,.s (.list KCt)),(9,.s (.list KCt)),(10,.s (.int .i64)),(11,.s (.int .i64))],[]⟩,[],[⟨.ret,⟨34,[(2,.s (.int .i64))],[]⟩,[]⟩,⟨.exit 0,⟨34,[],[]⟩,[]⟩],st_log_CheckLog_4⟩
theorem r_log_CheckLog_4:RoundOK P t17 nL0 0 (loopAt Tryz.f39 4) l_log_CheckLog_4:=fun d=>by kernel_rfl
def L_log_CheckLog_4:LT:=nL0.add 0 l_log_CheckLog_4
theorem L_log_CheckLog_4_ok:LpK P 0 L_log_CheckLog_4 (bodyOf Tryz.f39):=LpK.a hm t17_ok (nLk _ _ _) r_log_CheckLog_4
def F_log_CheckLog (d:List G):Option (List G) :=
 (bif (ltI 2000 (((gi d 0).rows.length:Nat):Int)) then some [.i 2] else (loopB true (LRun st_log_CheckLog_4 [.l (gi d 0).rows,.l (gi d 0).rows,.i (((gi d 0).rows.length:Nat):Int),.i 0]) fun cg3 g3=>(bif Nat.beq cg3 0 then some [.i (gi g3 0).int] else some [.i 0])))
def s_log_CheckLog:FSpec:=⟨39,[.s (.list KCt)],[],[],[.s (.int .i64)],[],[],[],F_log_CheckLog⟩
theorem b_log_CheckLog:BodyOK P t17 L_log_CheckLog_4 Tryz.f39 s_log_CheckLog:=fun d=>by kernel_rfl
theorem c_log_CheckLog:COK P s_log_CheckLog:=bdC hm t17_ok Tryz.func39 L_log_CheckLog_4_ok b_log_CheckLog
def t18:Tab:=t17.addP s_log_CheckLog
theorem t18_ok:TabOK P t18:=t17_ok.aP c_log_CheckLog

def F_call_BaseOf (d:List G):Option (List G) :=
 (callF (F_call_Parts [.s (gi d 0).str]) fun g1=>some [.s (gi (gi g1 0).row 0).str])
def s_call_BaseOf:FSpec:=⟨72,[.s (.str)],[],[],[.s (.str)],[],[],[],F_call_BaseOf⟩
theorem b_call_BaseOf:BodyOK P t18 nL0 Tryz.f72 s_call_BaseOf:=fun d=>by kernel_rfl
theorem c_call_BaseOf:COK P s_call_BaseOf:=bdC hm t18_ok Tryz.func72 (nLk _ _ _) b_call_BaseOf
def t19:Tab:=t18.addP s_call_BaseOf
theorem t19_ok:TabOK P t19:=t18_ok.aP c_call_BaseOf

def st_log_dupes_4 (d:List G):Option (Option Nat × List G) :=
 (bif (ltI (gi d 5).int (gi d 4).int) then (bif ((nnI (gi d 5).int)&&(ltI (gi d 5).int (((gi d 3).rows.length:Nat):Int))) then (callF (F_call_BaseOf [.s (gi ((gi d 3).rows.getD (((gi d 5).int).toNat) []) 3).str]) fun g1=>(bif (gi (mget [.str,.str,.int .i64] (gi d 0).rows [.s (gi g1 0).str,.s (gi ((gi d 3).rows.getD (((gi d 5).int).toNat) []) 2).str,.i (gi ((gi d 3).rows.getD (((gi d 5).int).toNat) []) 1).int] [.t false]) 0).bool then (bif ((Nat.beq (gi d 2).rows.length (gi d 2).rows.length)&&(decide (((gi d 2).rows.length+1)≤1048576))) then (bif (inI ((gi d 5).int+1)) then (bif ((Nat.beq ((gi d 2).rows++([[.i (gi d 5).int]]:List (List G))).length ((gi d 2).rows++([[.i (gi d 5).int]]:List (List G))).length)&&true) then some (none,[.l (mput [.str,.str,.int .i64] (gi d 0).rows [.s (gi g1 0).str,.s (gi ((gi d 3).rows.getD (((gi d 5).int).toNat) []) 2).str,.i (gi ((gi d 3).rows.getD (((gi d 5).int).toNat) []) 1).int] [.t true] (gi d 1).int.toNat),.i (((mclk [.str,.str,.int .i64] (gi d 0).rows [.s (gi g1 0).str,.s (gi ((gi d 3).rows.getD (((gi d 5).int).toNat) []) 2).str,.i (gi ((gi d 3).rows.getD (((gi d 5).int).toNat) []) 1).int] (gi d 1).int.toNat):Nat):Int),.l ((gi d 2).rows++([[.i (gi d 5).int]]:List (List G))),.l (gi d 3).rows,.i (gi d 4).int,.i ((gi d 5).int+1)]) else none) else none) else none) else (bif (inI ((gi d 5).int+1)) then (bif ((Nat.beq (gi d 2).rows.length (gi d 2).rows.length)&&true) then some (none,[.l (mput [.str,.str,.int .i64] (gi d 0).rows [.s (gi g1 0).str,.s (gi ((gi d 3).rows.getD (((gi d 5).int).toNat) []) 2).str,.i (gi ((gi d 3).rows.getD (((gi d 5).int).toNat) []) 1).int] [.t true] (gi d 1).int.toNat),.i (((mclk [.str,.str,.int .i64] (gi d 0).rows [.s (gi g1 0).str,.s (gi ((gi d 3).rows.getD (((gi d 5).int).toNat) []) 2).str,.i (gi ((gi d 3).rows.getD (((gi d 5).int).toNat) []) 1).int] (gi d 1).int.toNat):Nat):Int),.l (gi d 2).rows,.l (gi d 3).rows,.i (gi d 4).int,.i ((gi d 5).int+1)]) else none) else none))) else none) else (bif ((Nat.beq (gi d 2).rows.length (gi d 2).rows.length)&&true) then some (some 0,[.l (gi d 2).rows]) else none))
def l_log_dupes_4:LSpec:=⟨4,[(4,[.int .i64])],⟨35,[(3,.s (.map 0)),(4,.s (.vec 1 1)),(9,.s (.list KCt)),(10,.s (.int .i64)),(11,.s (.int .i64))],[.map (.agg [.str,.str,.int .i64]) (.one (.bool)),.vec [.int .i64] 0]⟩,[.slot 3,.slot 4],[⟨.exit 0,⟨35,[(4,.s (.vec 0 1))],[.vec [.int .i64] 0]⟩,[.slot 4]⟩],st_log_dupes_4⟩
theorem r_log_dupes_4:RoundOK P t19 (nL0.hinted [(6,[.hole [.str,.str,.int .i64]])]) 0 (loopAt Tryz.f40 4) l_log_dupes_4:=fun d=>by kernel_rfl
def L_log_dupes_4:LT:=(nL0.hinted [(6,[.hole [.str,.str,.int .i64]])]).add 0 l_log_dupes_4
theorem L_log_dupes_4_ok:LpK P 0 L_log_dupes_4 (bodyOf Tryz.f40):=LpK.a hm t19_ok (hinted_ok _) r_log_dupes_4
def F_log_dupes (d:List G):Option (List G) :=
 (loopB true (LRun st_log_dupes_4 [.l [],.i 0,.l [],.l (gi d 0).rows,.i (((gi d 0).rows.length:Nat):Int),.i 0]) fun cg2 g2=>(bif ((Nat.beq (gi g2 0).rows.length (gi g2 0).rows.length)&&true) then some [.l (gi g2 0).rows] else none))
def s_log_dupes:FSpec:=⟨40,[.s (.list KCt)],[],[],[.s (.list [.int .i64])],[],[],[],F_log_dupes⟩
theorem b_log_dupes:BodyOK P t19 L_log_dupes_4 Tryz.f40 s_log_dupes:=fun d=>by kernel_rfl
theorem c_log_dupes:COK P s_log_dupes:=bdC hm t19_ok Tryz.func40 L_log_dupes_4_ok b_log_dupes
def t20:Tab:=t19.addP s_log_dupes
theorem t20_ok:TabOK P t20:=t19_ok.aP c_log_dupes

def F_log_Dupes (d:List G):Option (List G) :=
 (callF (F_log_CheckLog [.l (gi d 0).rows]) fun g1=>(bif ((gi g1 0).int != 0) then some [.l [],.i (gi g1 0).int] else (callF (F_log_dupes [.l (gi d 0).rows]) fun g2=>some [.l (gi g2 0).rows,.i 0])))
def s_log_Dupes:FSpec:=⟨23,[.s (.list KCt)],[],[],[.s (.list [.int .i64]),.s (.int .i64)],[],[],[],F_log_Dupes⟩
theorem b_log_Dupes:BodyOK P t20 nL0 Tryz.f23 s_log_Dupes:=fun d=>by kernel_rfl
theorem c_log_Dupes:COK P s_log_Dupes:=bdC hm t20_ok Tryz.func23 (nLk _ _ _) b_log_Dupes
def t21:Tab:=t20.addP s_log_Dupes
theorem t21_ok:TabOK P t21:=t20_ok.aP c_log_Dupes

def st_club_isSquare_4 (d:List G):Option (Option Nat × List G) :=
 (bif (ltI (gi d 2).int (gi d 1).int) then (bif (inI (Int.tdiv (gi d 2).int 2)) then (bif ((Int.tdiv (gi d 2).int 2)==1) then (bif ((nnI (gi d 2).int)&&(ltI (gi d 2).int (((gi d 0).str.size:Nat):Int))) then (bif (ltI (((gi d 0).str.data.toList.getD (((gi d 2).int).toNat) 0).toNat:Int) 48) then some (some 0,[.t false]) else (bif ((nnI (gi d 2).int)&&(ltI (gi d 2).int (((gi d 0).str.size:Nat):Int))) then (bif (ltI 57 (((gi d 0).str.data.toList.getD (((gi d 2).int).toNat) 0).toNat:Int)) then some (some 0,[.t false]) else (bif (inI ((gi d 2).int+1)) then some (none,[.s (gi d 0).str,.i (gi d 1).int,.i ((gi d 2).int+1)]) else none)) else none)) else none) else (bif ((Int.tdiv (gi d 2).int 2)==2) then (bif ((nnI (gi d 2).int)&&(ltI (gi d 2).int (((gi d 0).str.size:Nat):Int))) then (bif (ltI (((gi d 0).str.data.toList.getD (((gi d 2).int).toNat) 0).toNat:Int) 97) then some (some 0,[.t false]) else (bif ((nnI (gi d 2).int)&&(ltI (gi d 2).int (((gi d 0).str.size:Nat):Int))) then (bif (ltI 120 (((gi d 0).str.data.toList.getD (((gi d 2).int).toNat) 0).toNat:Int)) then some (some 0,[.t false]) else (bif (inI ((gi d 2).int+1)) then some (none,[.s (gi d 0).str,.i (gi d 1).int,.i ((gi d 2).int+1)]) else none)) else none)) else none) else (bif ((nnI (gi d 2).int)&&(ltI (gi d 2).int (((gi d 0).str.size:Nat):Int))) then (bif (ltI (((gi d 0).str.data.toList.getD (((gi d 2).int).toNat) 0).toNat:Int) 97) then some (some 0,[.t false]) else (bif ((nnI (gi d 2).int)&&(ltI (gi d 2).int (((gi d 0).str.size:Nat):Int))) then (bif (ltI 114 (((gi d 0).str.data.toList.getD (((gi d 2).int).toNat) 0).toNat:Int)) then some (some 0,[.t false]) else (bif (inI ((gi d 2).int+1)) then some (none,[.s (gi d 0).str,.i (gi d 1).int,.i ((gi d 2).int+1)]) else none)) else none)) else none))) else none) else some (some 1,[]))
def l_club_isSquare_4:LSpec:=⟨4,[],⟨43,[(0,.s (.str)),(20,.s (.int .i64)),(21,.s (.int .i64))],[]⟩,[],[⟨.ret,⟨43,[(2,.s (.bool))],[]⟩,[]⟩,⟨.exit 0,⟨43,[],[]⟩,[]⟩],st_club_isSquare_4⟩
theorem r_club_isSquare_4:RoundOK P t21 nL0 0 (loopAt Tryz.f119 4) l_club_isSquare_4:=fun d=>by kernel_rfl
def L_club_isSquare_4:LT:=nL0.add 0 l_club_isSquare_4
theorem L_club_isSquare_4_ok:LpK P 0 L_club_isSquare_4 (bodyOf Tryz.f119):=LpK.a hm t21_ok (nLk _ _ _) r_club_isSquare_4
def F_club_isSquare (d:List G):Option (List G) :=
 (bif ((((gi d 0).str.size:Nat):Int) != 2) then (bif ((((gi d 0).str.size:Nat):Int) != 4) then (bif ((((gi d 0).str.size:Nat):Int) != 6) then some [.t false] else (loopB true (LRun st_club_isSquare_4 [.s (gi d 0).str,.i (((gi d 0).str.size:Nat):Int),.i 0]) fun cg1 g1=>(bif Nat.beq cg1 0 then some [.t (gi g1 0).bool] else some [.t true]))) else (loopB true (LRun st_club_isSquare_4 [.s (gi d 0).str,.i (((gi d 0).str.size:Nat):Int),.i 0]) fun cg2 g2=>(bif Nat.beq cg2 0 then some [.t (gi g2 0).bool] else some [.t true]))) else (loopB true (LRun st_club_isSquare_4 [.s (gi d 0).str,.i (((gi d 0).str.size:Nat):Int),.i 0]) fun cg3 g3=>(bif Nat.beq cg3 0 then some [.t (gi g3 0).bool] else some [.t true])))
def s_club_isSquare:FSpec:=⟨119,[.s (.str)],[],[],[.s (.bool)],[],[],[],F_club_isSquare⟩
theorem b_club_isSquare:BodyOK P t21 L_club_isSquare_4 Tryz.f119 s_club_isSquare:=fun d=>by kernel_rfl
theorem c_club_isSquare:COK P s_club_isSquare:=bdC hm t21_ok Tryz.func119 L_club_isSquare_4_ok b_club_isSquare
def t22:Tab:=t21.addP s_club_isSquare
theorem t22_ok:TabOK P t22:=t21_ok.aP c_club_isSquare

def F_club_isLocator (d:List G):Option (List G) :=
 (bif ((((gi d 0).str.size:Nat):Int)==6) then (callF (F_club_isSquare [.s (gi d 0).str]) fun g1=>some [.t (gi g1 0).bool]) else some [.t false])
def s_club_isLocator:FSpec:=⟨82,[.s (.str)],[],[],[.s (.bool)],[],[],[],F_club_isLocator⟩
theorem b_club_isLocator:BodyOK P t22 nL0 Tryz.f82 s_club_isLocator:=fun d=>by kernel_rfl
theorem c_club_isLocator:COK P s_club_isLocator:=bdC hm t22_ok Tryz.func82 (nLk _ _ _) b_club_isLocator
def t23:Tab:=t22.addP s_club_isLocator
theorem t23_ok:TabOK P t23:=t22_ok.aP c_club_isLocator

def st_club_CheckEntrants_4 (d:List G):Option (Option Nat × List G) :=
 (bif (ltI (gi d 3).int (gi d 2).int) then (bif ((nnI (gi d 3).int)&&(ltI (gi d 3).int (((gi d 1).rows.length:Nat):Int))) then (callF (F_call_Is [.s (gi ((gi d 1).rows.getD (((gi d 3).int).toNat) []) 0).str]) fun g1=>(bif (!(gi g1 0).bool) then some (some 0,[.i 3]) else (callF (F_kit_IsKey [.s (gi ((gi d 1).rows.getD (((gi d 3).int).toNat) []) 1).str]) fun g2=>(bif (!(gi g2 0).bool) then some (some 0,[.i 5]) else (callF (F_kit_Outside [.i (gi ((gi d 1).rows.getD (((gi d 3).int).toNat) []) 2).int,.i 0,.i 1000000000000]) fun g3=>(bif (gi g3 0).bool then some (some 0,[.i 1]) else (bif (!((gi ((gi d 1).rows.getD (((gi d 3).int).toNat) []) 3).str.toList==(⟨#[]⟩:ByteArray).toList)) then (callF (F_club_isLocator [.s (gi ((gi d 1).rows.getD (((gi d 3).int).toNat) []) 3).str]) fun g4=>(bif (!(gi g4 0).bool) then some (some 0,[.i 3]) else (bif (ltI 0 (gi d 3).int) then (bif (inI ((gi d 3).int-1)) then (bif ((nnI ((gi d 3).int-1))&&(ltI ((gi d 3).int-1) (((gi d 0).rows.length:Nat):Int))) then (callF (F_strings_Compare [.s (gi ((gi d 0).rows.getD (((gi d 3).int-1).toNat) []) 1).str,.s (gi ((gi d 1).rows.getD (((gi d 3).int).toNat) []) 1).str]) fun g5=>(bif (inI ((gi d 3).int-1)) then (bif ((nnI ((gi d 3).int-1))&&(ltI ((gi d 3).int-1) (((gi d 0).rows.length:Nat):Int))) then (callF (F_strings_Compare [.s (gi ((gi d 0).rows.getD (((gi d 3).int-1).toNat) []) 0).str,.s (gi ((gi d 1).rows.getD (((gi d 3).int).toNat) []) 0).str]) fun g6=>(callF (F_cmp_Or_int [.l [[.i (gi g5 0).int],[.i (gi g6 0).int]]]) fun g7=>(bif (leI 0 (gi g7 0).int) then some (some 0,[.i 7]) else (bif (inI ((gi d 3).int+1)) then some (none,[.l (gi d 0).rows,.l (gi d 1).rows,.i (gi d 2).int,.i ((gi d 3).int+1)]) else none)))) else none) else none)) else none) else none) else (bif (inI ((gi d 3).int+1)) then some (none,[.l (gi d 0).rows,.l (gi d 1).rows,.i (gi d 2).int,.i ((gi d 3).int+1)]) else none)))) else (bif (ltI 0 (gi d 3).int) then (bif (inI ((gi d 3).int-1)) then (bif ((nnI ((gi d 3).int-1))&&(ltI ((gi d 3).int-1) (((gi d 0).rows.length:Nat):Int))) then (callF (F_strings_Compare [.s (gi ((gi d 0).rows.getD (((gi d 3).int-1).toNat) []) 1).str,.s (gi ((gi d 1).rows.getD (((gi d 3).int).toNat) []) 1).str]) fun g8=>(bif (inI ((gi d 3).int-1)) then (bif ((nnI ((gi d 3).int-1))&&(ltI ((gi d 3).int-1) (((gi d 0).rows.length:Nat):Int))) then (callF (F_strings_Compare [.s (gi ((gi d 0).rows.getD (((gi d 3).int-1).toNat) []) 0).str,.s (gi ((gi d 1).rows.getD (((gi d 3).int).toNat) []) 0).str]) fun g9=>(callF (F_cmp_Or_int [.l [[.i (gi g8 0).int],[.i (gi g9 0).int]]]) fun g10=>(bif (leI 0 (gi g10 0).int) then some (some 0,[.i 7]) else (bif (inI ((gi d 3).int+1)) then some (none,[.l (gi d 0).rows,.l (gi d 1).rows,.i (gi d 2).int,.i ((gi d 3).int+1)]) else none)))) else none) else none)) else none) else none) else (bif (inI ((gi d 3).int+1)) then some (none,[.l (gi d 0).rows,.l (gi d 1).rows,.i (gi d 2).int,.i ((gi d 3).int+1)]) else none))))))))) else none) else some (some 1,[]))
def l_club_CheckEntrants_4:LSpec:=⟨4,[],⟨66,[(0,.s (.list KEntrant)),(8,.s (.list KEntrant)),(9,.s (.int .i64)),(10,.s (.int .i64))],[]⟩,[],[⟨.ret,⟨66,[(2,.s (.int .i64))],[]⟩,[]⟩,⟨.exit 0,⟨66,[],[]⟩,[]⟩],st_club_CheckEntrants_4⟩
theorem r_club_CheckEntrants_4:RoundOK P t23 nL0 0 (loopAt Tryz.f49 4) l_club_CheckEntrants_4:=fun d=>by kernel_rfl
def L_club_CheckEntrants_4:LT:=nL0.add 0 l_club_CheckEntrants_4
theorem L_club_CheckEntrants_4_ok:LpK P 0 L_club_CheckEntrants_4 (bodyOf Tryz.f49):=LpK.a hm t23_ok (nLk _ _ _) r_club_CheckEntrants_4
def F_club_CheckEntrants (d:List G):Option (List G) :=
 (bif (ltI 500 (((gi d 0).rows.length:Nat):Int)) then some [.i 2] else (loopB true (LRun st_club_CheckEntrants_4 [.l (gi d 0).rows,.l (gi d 0).rows,.i (((gi d 0).rows.length:Nat):Int),.i 0]) fun cg11 g11=>(bif Nat.beq cg11 0 then some [.i (gi g11 0).int] else some [.i 0])))
def s_club_CheckEntrants:FSpec:=⟨49,[.s (.list KEntrant)],[],[],[.s (.int .i64)],[],[],[],F_club_CheckEntrants⟩
theorem b_club_CheckEntrants:BodyOK P t23 L_club_CheckEntrants_4 Tryz.f49 s_club_CheckEntrants:=fun d=>by kernel_rfl
theorem c_club_CheckEntrants:COK P s_club_CheckEntrants:=bdC hm t23_ok Tryz.func49 L_club_CheckEntrants_4_ok b_club_CheckEntrants
def t24:Tab:=t23.addP s_club_CheckEntrants
theorem t24_ok:TabOK P t24:=t23_ok.aP c_club_CheckEntrants

def tl_bits_Len64_10 (d:List G):Option (Option Nat × List G) :=
 (bif ((nnI (IntKind.u8.wrap ((gi d 0).int)))&&(ltI (IntKind.u8.wrap ((gi d 0).int)) 256)) then (bif (inI (((⟨#[0,1,2,2,3,3,3,3,4,4,4,4,4,4,4,4,5,5,5,5,5,5,5,5,5,5,5,5,5,5,5,5,6,6,6,6,6,6,6,6,6,6,6,6,6,6,6,6,6,6,6,6,6,6,6,6,6,6,6,6,6,6,6,6,7,7,7,7,7,7,7,7,7,7,7,7,7,7,7,7,7,7,7,7,7,7,7,7,7,7,7,7,7,7,7,7,7,7,7,7,7,7,7,7,7,7,7,7,7,7,7,7,7,7,7,7,7,7,7,7,7,7,7,7,7,7,7,7,8,8,8,8,8,8,8,8,8,8,8,8,8,8,8,8,8,8,8,8,8,8,8,8,8,8,8,8,8,8,8,8,8,8,8,8,8,8,8,8,8,8,8,8,8,8,8,8,8,8,8,8,8,8,8,8,8,8,8,8,8,8,8,8,8,8,8,8,8,8,8,8,8,8,8,8,8,8,8,8,8,8,8,8,8,8,8,8,8,8,8,8,8,8,8,8,8,8,8,8,8,8,8,8,8,8,8,8,8,8,8,8,8,8,8,8,8,8,8,8,8,8,8,8,8,8,8,8]⟩:ByteArray).data.toList.getD ((IntKind.u8.wrap ((gi d 0).int)).toNat) 0).toNat:Int)) then (bif (inI ((gi d 1).int+(((⟨#[0,1,2,2,3,3,3,3,4,4,4,4,4,4,4,4,5,5,5,5,5,5,5,5,5,5,5,5,5,5,5,5,6,6,6,6,6,6,6,6,6,6,6,6,6,6,6,6,6,6,6,6,6,6,6,6,6,6,6,6,6,6,6,6,7,7,7,7,7,7,7,7,7,7,7,7,7,7,7,7,7,7,7,7,7,7,7,7,7,7,7,7,7,7,7,7,7,7,7,7,7,7,7,7,7,7,7,7,7,7,7,7,7,7,7,7,7,7,7,7,7,7,7,7,7,7,7,7,8,8,8,8,8,8,8,8,8,8,8,8,8,8,8,8,8,8,8,8,8,8,8,8,8,8,8,8,8,8,8,8,8,8,8,8,8,8,8,8,8,8,8,8,8,8,8,8,8,8,8,8,8,8,8,8,8,8,8,8,8,8,8,8,8,8,8,8,8,8,8,8,8,8,8,8,8,8,8,8,8,8,8,8,8,8,8,8,8,8,8,8,8,8,8,8,8,8,8,8,8,8,8,8,8,8,8,8,8,8,8,8,8,8,8,8,8,8,8,8,8,8,8,8,8,8,8,8]⟩:ByteArray).data.toList.getD ((IntKind.u8.wrap ((gi d 0).int)).toNat) 0).toNat:Int))) then some (some 0,[.i ((gi d 1).int+(((⟨#[0,1,2,2,3,3,3,3,4,4,4,4,4,4,4,4,5,5,5,5,5,5,5,5,5,5,5,5,5,5,5,5,6,6,6,6,6,6,6,6,6,6,6,6,6,6,6,6,6,6,6,6,6,6,6,6,6,6,6,6,6,6,6,6,7,7,7,7,7,7,7,7,7,7,7,7,7,7,7,7,7,7,7,7,7,7,7,7,7,7,7,7,7,7,7,7,7,7,7,7,7,7,7,7,7,7,7,7,7,7,7,7,7,7,7,7,7,7,7,7,7,7,7,7,7,7,7,7,8,8,8,8,8,8,8,8,8,8,8,8,8,8,8,8,8,8,8,8,8,8,8,8,8,8,8,8,8,8,8,8,8,8,8,8,8,8,8,8,8,8,8,8,8,8,8,8,8,8,8,8,8,8,8,8,8,8,8,8,8,8,8,8,8,8,8,8,8,8,8,8,8,8,8,8,8,8,8,8,8,8,8,8,8,8,8,8,8,8,8,8,8,8,8,8,8,8,8,8,8,8,8,8,8,8,8,8,8,8,8,8,8,8,8,8,8,8,8,8,8,8,8,8,8,8,8,8]⟩:ByteArray).data.toList.getD ((IntKind.u8.wrap ((gi d 0).int)).toNat) 0).toNat:Int))]) else none) else none) else none)
def l_bits_Len64_10c:LSpec:=⟨10,[],⟨25,[(0,.s (.int .u64)),(2,.s (.int .i64))],[]⟩,[],[⟨.ret,⟨25,[(2,.s (.int .i64))],[]⟩,[]⟩],tl_bits_Len64_10⟩
theorem r_bits_Len64_10c:CutOK P t24 nL0 0 (cutAt Tryz.f137 10) l_bits_Len64_10c:=fun d=>by kernel_rfl
def L_bits_Len64_10c:LT:=nL0.addCut 0 l_bits_Len64_10c
theorem L_bits_Len64_10c_ok:LpK P 0 L_bits_Len64_10c (bodyOf Tryz.f137):=LpK.aC hm t24_ok (nLk _ _ _) r_bits_Len64_10c
def F_bits_Len64 (d:List G):Option (List G) :=
 (bif (leI 4294967296 (gi d 0).int) then (bif (leI 65536 (shrI .u64 (gi d 0).int 32)) then (bif (leI 256 (shrI .u64 (shrI .u64 (gi d 0).int 32) 16)) then (loopB true (cutR (tl_bits_Len64_10 [.i (shrI .u64 (shrI .u64 (shrI .u64 (gi d 0).int 32) 16) 8),.i 56])) fun cg1 g1=>some [.i (gi g1 0).int]) else (loopB true (cutR (tl_bits_Len64_10 [.i (shrI .u64 (shrI .u64 (gi d 0).int 32) 16),.i 48])) fun cg2 g2=>some [.i (gi g2 0).int])) else (bif (leI 256 (shrI .u64 (gi d 0).int 32)) then (loopB true (cutR (tl_bits_Len64_10 [.i (shrI .u64 (shrI .u64 (gi d 0).int 32) 8),.i 40])) fun cg3 g3=>some [.i (gi g3 0).int]) else (loopB true (cutR (tl_bits_Len64_10 [.i (shrI .u64 (gi d 0).int 32),.i 32])) fun cg4 g4=>some [.i (gi g4 0).int]))) else (bif (leI 65536 (gi d 0).int) then (bif (leI 256 (shrI .u64 (gi d 0).int 16)) then (loopB true (cutR (tl_bits_Len64_10 [.i (shrI .u64 (shrI .u64 (gi d 0).int 16) 8),.i 24])) fun cg5 g5=>some [.i (gi g5 0).int]) else (loopB true (cutR (tl_bits_Len64_10 [.i (shrI .u64 (gi d 0).int 16),.i 16])) fun cg6 g6=>some [.i (gi g6 0).int])) else (bif (leI 256 (gi d 0).int) then (loopB true (cutR (tl_bits_Len64_10 [.i (shrI .u64 (gi d 0).int 8),.i 8])) fun cg7 g7=>some [.i (gi g7 0).int]) else (loopB true (cutR (tl_bits_Len64_10 [.i (gi d 0).int,.i 0])) fun cg8 g8=>some [.i (gi g8 0).int]))))
def s_bits_Len64:FSpec:=⟨137,[.s (.int .u64)],[],[],[.s (.int .i64)],[],[],[],F_bits_Len64⟩
theorem b_bits_Len64:BodyOK P t24 L_bits_Len64_10c Tryz.f137 s_bits_Len64:=fun d=>by kernel_rfl
theorem c_bits_Len64:COK P s_bits_Len64:=bdC hm t24_ok Tryz.func137 L_bits_Len64_10c_ok b_bits_Len64
def t25:Tab:=t24.addP s_bits_Len64
theorem t25_ok:TabOK P t25:=t24_ok.aP c_bits_Len64

def F_bits_Len (d:List G):Option (List G) :=
 (callF (F_bits_Len64 [.i (gi d 0).int]) fun g1=>some [.i (gi g1 0).int])
def s_bits_Len:FSpec:=⟨95,[.s (.int .u64)],[],[],[.s (.int .i64)],[],[],[],F_bits_Len⟩
theorem b_bits_Len:BodyOK P t25 nL0 Tryz.f95 s_bits_Len:=fun d=>by kernel_rfl
theorem c_bits_Len:COK P s_bits_Len:=bdC hm t25_ok Tryz.func95 (nLk _ _ _) b_bits_Len
def t26:Tab:=t25.addP s_bits_Len
theorem t26_ok:TabOK P t26:=t25_ok.aP c_bits_Len

def F_club_ranked_1 (d:List G):Option (List G) :=
 (callF (F_cmp_Compare_int [.i (gi (gi d 1).row 1).int,.i (gi (gi d 0).row 1).int]) fun g1=>(callF (F_strings_Compare [.s (gi (gi d 0).row 2).str,.s (gi (gi d 1).row 2).str]) fun g2=>(callF (F_cmp_Or_int [.l [[.i (gi g1 0).int],[.i (gi g2 0).int]]]) fun g3=>some [.i (gi g3 0).int])))
def s_club_ranked_1:FSpec:=⟨85,[.s (.row KPlace),.s (.row KPlace)],[],[],[.s (.int .i64)],[],[],[],F_club_ranked_1⟩
theorem b_club_ranked_1:BodyOK P t26 nL0 Tryz.f85 s_club_ranked_1:=fun d=>by kernel_rfl
theorem c_club_ranked_1:COK P s_club_ranked_1:=bdC hm t26_ok Tryz.func85 (nLk _ _ _) b_club_ranked_1
def t27:Tab:=t26.addP s_club_ranked_1
theorem t27_ok:TabOK P t27:=t26_ok.aP c_club_ranked_1

def st_insS_Place_4 (d:List G):Option (Option Nat × List G) :=
 (bif (ltI (gi d 1).int (gi d 4).int) then (bif ((nnI (gi d 4).int)&&(ltI (gi d 4).int (((gi d 0).rows.length:Nat):Int))) then (bif (decide ((0+((gi d 4).int).toNat)<(gi d 0).rows.length)) then (bif (inI ((gi d 4).int-1)) then (bif ((nnI ((gi d 4).int-1))&&(ltI ((gi d 4).int-1) (((gi d 0).rows.length:Nat):Int))) then (bif (decide ((0+((gi d 4).int-1).toNat)<(gi d 0).rows.length)) then (callF (F_club_ranked_1 [.l [(gEta KPlace ((gi d 0).rows.getD (0+((gi d 4).int).toNat) []))],.l [(gEta KPlace ((gi d 0).rows.getD (0+((gi d 4).int-1).toNat) []))]]) fun g1=>(bif (ltI (gi g1 0).int 0) then (bif (inI ((gi d 4).int-1)) then (bif (inI ((gi d 4).int-1)) then (bif ((nnI ((gi d 4).int-1))&&(ltI ((gi d 4).int-1) (((gi d 0).rows.length:Nat):Int))) then (bif (decide ((0+((gi d 4).int-1).toNat)<(gi d 0).rows.length)) then (bif ((nnI (gi d 4).int)&&(ltI (gi d 4).int (((gi d 0).rows.length:Nat):Int))) then (bif (decide ((0+((gi d 4).int).toNat)<(gi d 0).rows.length)) then (bif ((nnI (gi d 4).int)&&(ltI (gi d 4).int (((gi d 0).rows.length:Nat):Int))) then (bif (decide ((0+((gi d 4).int).toNat)<(gi d 0).rows.length)) then (bif ((nnI ((gi d 4).int-1))&&(ltI ((gi d 4).int-1) (((gi d 0).rows.length:Nat):Int))) then (bif (decide ((0+((gi d 4).int-1).toNat)<((gi d 0).rows.set (0+((gi d 4).int).toNat) (putG KPlace ((gi d 0).rows.getD (0+((gi d 4).int).toNat) []) 0 (gEta KPlace ((gi d 0).rows.getD (0+((gi d 4).int-1).toNat) [])))).length)) then (bif (inI ((gi d 4).int-1)) then (bif ((Nat.beq (gi d 0).rows.length (((gi d 0).rows.set (0+((gi d 4).int).toNat) (putG KPlace ((gi d 0).rows.getD (0+((gi d 4).int).toNat) []) 0 (gEta KPlace ((gi d 0).rows.getD (0+((gi d 4).int-1).toNat) [])))).set (0+((gi d 4).int-1).toNat) (putG KPlace (((gi d 0).rows.set (0+((gi d 4).int).toNat) (putG KPlace ((gi d 0).rows.getD (0+((gi d 4).int).toNat) []) 0 (gEta KPlace ((gi d 0).rows.getD (0+((gi d 4).int-1).toNat) [])))).getD (0+((gi d 4).int-1).toNat) []) 0 (gEta KPlace ((gi d 0).rows.getD (0+((gi d 4).int).toNat) [])))).length)&&true) then some (none,[.l (((gi d 0).rows.set (0+((gi d 4).int).toNat) (putG KPlace ((gi d 0).rows.getD (0+((gi d 4).int).toNat) []) 0 (gEta KPlace ((gi d 0).rows.getD (0+((gi d 4).int-1).toNat) [])))).set (0+((gi d 4).int-1).toNat) (putG KPlace (((gi d 0).rows.set (0+((gi d 4).int).toNat) (putG KPlace ((gi d 0).rows.getD (0+((gi d 4).int).toNat) []) 0 (gEta KPlace ((gi d 0).rows.getD (0+((gi d 4).int-1).toNat) [])))).getD (0+((gi d 4).int-1).toNat) []) 0 (gEta KPlace ((gi d 0).rows.getD (0+((gi d 4).int).toNat) [])))),.i (gi d 1).int,.i (gi d 2).int,.i (gi d 3).int,.i ((gi d 4).int-1)]) else none) else none) else none) else none) else none) else none) else none) else none) else none) else none) else none) else none) else (bif ((Nat.beq (gi d 0).rows.length (gi d 0).rows.length)&&true) then some (some 0,[.l (gi d 0).rows,.i (gi d 1).int,.i (gi d 2).int,.i (gi d 3).int]) else none))) else none) else none) else none) else none) else none) else (bif ((Nat.beq (gi d 0).rows.length (gi d 0).rows.length)&&true) then some (some 0,[.l (gi d 0).rows,.i (gi d 1).int,.i (gi d 2).int,.i (gi d 3).int]) else none))
def l_insS_Place_4:LSpec:=⟨4,[],⟨53,[(0,.s (.vec 0 3)),(1,.s (.int .i64)),(2,.s (.int .i64)),(3,.s (.fn 85)),(8,.s (.int .i64)),(9,.s (.int .i64))],[.vec KPlace 0]⟩,[.fix 0],[⟨.exit 2,⟨53,[(0,.s (.vec 0 3)),(1,.s (.int .i64)),(2,.s (.int .i64)),(3,.s (.fn 85)),(8,.s (.int .i64))],[.vec KPlace 0]⟩,[.fix 0]⟩],st_insS_Place_4⟩
theorem r_insS_Place_4:RoundOK P t27 nL0 1 (loopAt Tryz.f152 4) l_insS_Place_4:=fun d=>by kernel_rfl
def L_insS_Place_4:LT:=nL0.add 1 l_insS_Place_4
theorem L_insS_Place_4_ok:LpK P 1 L_insS_Place_4 (bodyOf Tryz.f152):=LpK.a hm t27_ok (nLk _ _ _) r_insS_Place_4
def st_insS_Place_1 (d:List G):Option (Option Nat × List G) :=
 (bif (ltI (gi d 3).int (gi d 2).int) then (loopB ((Nat.beq (gi d 0).rows.length (gi d 0).rows.length)&&true) (LRun st_insS_Place_4 [.l (gi d 0).rows,.i (gi d 1).int,.i (gi d 2).int,.i (gi d 3).int,.i (gi d 3).int]) fun cg2 g2=>(bif (inI ((gi g2 3).int+1)) then (bif ((Nat.beq (gi g2 0).rows.length (gi g2 0).rows.length)&&true) then some (none,[.l (gi g2 0).rows,.i (gi g2 1).int,.i (gi g2 2).int,.i ((gi g2 3).int+1)]) else none) else none)) else some (some 0,[.l (gi d 0).rows]))
def l_insS_Place_1:LSpec:=⟨1,[],⟨53,[(0,.s (.vec 0 3)),(1,.s (.int .i64)),(2,.s (.int .i64)),(3,.s (.fn 85)),(8,.s (.int .i64))],[.vec KPlace 0]⟩,[.fix 0],[⟨.exit 0,⟨53,[],[.vec KPlace 0]⟩,[.fix 0]⟩],st_insS_Place_1⟩
theorem r_insS_Place_1:RoundOK P t27 L_insS_Place_4 1 (loopAt Tryz.f152 1) l_insS_Place_1:=fun d=>by kernel_rfl
def L_insS_Place_1:LT:=L_insS_Place_4.add 1 l_insS_Place_1
theorem L_insS_Place_1_ok:LpK P 1 L_insS_Place_1 (bodyOf Tryz.f152):=LpK.a hm t27_ok L_insS_Place_4_ok r_insS_Place_1
def F_insS_Place (d:List G):Option (List G) :=
 (bif (inI ((gi d 1).int+1)) then (loopB ((Nat.beq (gi d 0).rows.length (gi d 0).rows.length)&&true) (LRun st_insS_Place_1 [.l (gi d 0).rows,.i (gi d 1).int,.i (gi d 2).int,.i ((gi d 1).int+1)]) fun cg3 g3=>some [.l (gi g3 0).rows]) else none)
def s_insS_Place:FSpec:=⟨152,[.s (.vec 0 3),.s (.int .i64),.s (.int .i64),.s (.fn 85)],[.vec KPlace 0],[.slot 0],[],[.vec KPlace 0],[.fix 0],[],F_insS_Place⟩
theorem b_insS_Place:BodyOK P t27 L_insS_Place_1 Tryz.f152 s_insS_Place:=fun d=>by kernel_rfl
theorem c_insS_Place:COK P s_insS_Place:=bdC hm t27_ok Tryz.func152 L_insS_Place_1_ok b_insS_Place
def t28:Tab:=t27.addW s_insS_Place
theorem t28_ok:TabOK P t28:=t27_ok.aW c_insS_Place

def st_sl_pdqsortCmpFunc_Place_2 (d:List G):Option (Option Nat × List G) :=
 (bif (inI ((gi d 2).int-(gi d 1).int)) then (bif (leI ((gi d 2).int-(gi d 1).int) 12) then (callB (((Nat.beq (gi d 0).rows.length (gi d 0).rows.length)&&true)&&(F_insS_Place [.l (gi d 0).rows,.i (gi d 1).int,.i (gi d 2).int]).isSome) (F_insS_Place [.l (gi d 0).rows,.i (gi d 1).int,.i (gi d 2).int]) fun g1=>some (some 0,[.l (gi g1 0).rows])) else (bif ((gi d 3).int==0) then none else (bif (!(gi d 4).bool) then none else none))) else none)
def l_sl_pdqsortCmpFunc_Place_2:LSpec:=⟨2,[],⟨148,[(0,.s (.vec 0 3)),(1,.s (.int .i64)),(2,.s (.int .i64)),(3,.s (.int .i64)),(4,.s (.fn 85)),(10,.s (.bool)),(11,.s (.bool))],[.vec KPlace 0]⟩,[.fix 0],[⟨.ret,⟨148,[],[.vec KPlace 0]⟩,[.fix 0]⟩],st_sl_pdqsortCmpFunc_Place_2⟩
theorem r_sl_pdqsortCmpFunc_Place_2:RoundOK P t28 nL0 1 (loopAt Tryz.f120 2) l_sl_pdqsortCmpFunc_Place_2:=fun d=>by kernel_rfl
def L_sl_pdqsortCmpFunc_Place_2:LT:=nL0.add 1 l_sl_pdqsortCmpFunc_Place_2
theorem L_sl_pdqsortCmpFunc_Place_2_ok:LpK P 1 L_sl_pdqsortCmpFunc_Place_2 (bodyOf Tryz.f120):=LpK.a hm t28_ok (nLk _ _ _) r_sl_pdqsortCmpFunc_Place_2
def F_sl_pdqsortCmpFunc_Place (d:List G):Option (List G) :=
 (loopB ((Nat.beq (gi d 0).rows.length (gi d 0).rows.length)&&true) (LRun st_sl_pdqsortCmpFunc_Place_2 [.l (gi d 0).rows,.i (gi d 1).int,.i (gi d 2).int,.i (gi d 3).int,.t true,.t true]) fun cg2 g2=>some [.l (gi g2 0).rows])
def s_sl_pdqsortCmpFunc_Place:FSpec:=⟨120,[.s (.vec 0 3),.s (.int .i64),.s (.int .i64),.s (.int .i64),.s (.fn 85)],[.vec KPlace 0],[.slot 0],[],[.vec KPlace 0],[.fix 0],[],F_sl_pdqsortCmpFunc_Place⟩
theorem b_sl_pdqsortCmpFunc_Place:BodyOK P t28 L_sl_pdqsortCmpFunc_Place_2 Tryz.f120 s_sl_pdqsortCmpFunc_Place:=fun d=>by kernel_rfl
theorem c_sl_pdqsortCmpFunc_Place:COK P s_sl_pdqsortCmpFunc_Place:=bdC hm t28_ok Tryz.func120 L_sl_pdqsortCmpFunc_Place_2_ok b_sl_pdqsortCmpFunc_Place
def t29:Tab:=t28.addW s_sl_pdqsortCmpFunc_Place
theorem t29_ok:TabOK P t29:=t28_ok.aW c_sl_pdqsortCmpFunc_Place

def F_sl_SortFunc_Place (d:List G):Option (List G) :=
 (callF (F_bits_Len [.i (IntKind.u64.wrap (((gi d 0).rows.length:Nat):Int))]) fun g1=>(callB (((Nat.beq (gi d 0).rows.length (gi d 0).rows.length)&&true)&&(F_sl_pdqsortCmpFunc_Place [.l (gi d 0).rows,.i 0,.i (((gi d 0).rows.length:Nat):Int),.i (gi g1 0).int]).isSome) (F_sl_pdqsortCmpFunc_Place [.l (gi d 0).rows,.i 0,.i (((gi d 0).rows.length:Nat):Int),.i (gi g1 0).int]) fun g2=>some [.l (gi g2 0).rows]))
def s_sl_SortFunc_Place:FSpec:=⟨84,[.s (.vec 0 3),.s (.fn 85)],[.vec KPlace 0],[.slot 0],[],[.vec KPlace 0],[.fix 0],[],F_sl_SortFunc_Place⟩
theorem b_sl_SortFunc_Place:BodyOK P t29 nL0 Tryz.f84 s_sl_SortFunc_Place:=fun d=>by kernel_rfl
theorem c_sl_SortFunc_Place:COK P s_sl_SortFunc_Place:=bdC hm t29_ok Tryz.func84 (nLk _ _ _) b_sl_SortFunc_Place
def t30:Tab:=t29.addW s_sl_SortFunc_Place
theorem t30_ok:TabOK P t30:=t29_ok.aW c_sl_SortFunc_Place

def tl_club_ranked_7 (d:List G):Option (Option Nat × List G) :=
 (bif (gi d 4).bool then (bif (inI ((gi d 1).int-1)) then (bif ((nnI ((gi d 1).int-1))&&(ltI ((gi d 1).int-1) (((gi d 0).rows.length:Nat):Int))) then (bif (decide ((0+((gi d 1).int-1).toNat)<(gi d 0).rows.length)) then (bif ((nnI (gi d 1).int)&&(ltI (gi d 1).int (((gi d 0).rows.length:Nat):Int))) then (bif (decide ((0+((gi d 1).int).toNat)<(gi d 0).rows.length)) then (bif ((Nat.beq (gi d 0).rows.length ((gi d 0).rows.set (0+((gi d 1).int).toNat) (putG KPlace ((gi d 0).rows.getD (0+((gi d 1).int).toNat) []) 0 [.i (gi ((gi d 0).rows.getD (0+((gi d 1).int-1).toNat) []) 0).int])).length)&&true) then some (some 0,[.l ((gi d 0).rows.set (0+((gi d 1).int).toNat) (putG KPlace ((gi d 0).rows.getD (0+((gi d 1).int).toNat) []) 0 [.i (gi ((gi d 0).rows.getD (0+((gi d 1).int-1).toNat) []) 0).int])),.i (gi d 2).int,.i (gi d 3).int]) else none) else none) else none) else none) else none) else none) else (bif ((Nat.beq (gi d 0).rows.length (gi d 0).rows.length)&&true) then some (some 0,[.l (gi d 0).rows,.i (gi d 2).int,.i (gi d 3).int]) else none))
def l_club_ranked_7c:LSpec:=⟨7,[],⟨45,[(0,.s (.vec 0 3)),(3,.s (.int .i64)),(7,.s (.int .i64)),(8,.s (.int .i64)),(32,.s (.bool))],[.vec KPlace 0]⟩,[.fix 0],[⟨.normal,⟨45,[(0,.s (.vec 0 3)),(7,.s (.int .i64)),(8,.s (.int .i64))],[.vec KPlace 0]⟩,[.fix 0]⟩],tl_club_ranked_7⟩
theorem r_club_ranked_7c:CutOK P t30 nL0 1 (cutAt Tryz.f50 7) l_club_ranked_7c:=fun d=>by kernel_rfl
def L_club_ranked_7c:LT:=nL0.addCut 1 l_club_ranked_7c
theorem L_club_ranked_7c_ok:LpK P 1 L_club_ranked_7c (bodyOf Tryz.f50):=LpK.aC hm t30_ok (nLk _ _ _) r_club_ranked_7c
def st_club_ranked_3 (d:List G):Option (Option Nat × List G) :=
 (bif (ltI (gi d 2).int (gi d 1).int) then (bif (inI ((gi d 2).int+1)) then (bif ((nnI (gi d 2).int)&&(ltI (gi d 2).int (((gi d 0).rows.length:Nat):Int))) then (bif (decide ((0+((gi d 2).int).toNat)<(gi d 0).rows.length)) then (bif (ltI 0 (gi d 2).int) then (bif ((nnI (gi d 2).int)&&(ltI (gi d 2).int (((gi d 0).rows.length:Nat):Int))) then (bif (decide ((0+((gi d 2).int).toNat)<((gi d 0).rows.set (0+((gi d 2).int).toNat) (putG KPlace ((gi d 0).rows.getD (0+((gi d 2).int).toNat) []) 0 [.i ((gi d 2).int+1)])).length)) then (bif (inI ((gi d 2).int-1)) then (bif ((nnI ((gi d 2).int-1))&&(ltI ((gi d 2).int-1) (((gi d 0).rows.length:Nat):Int))) then (bif (decide ((0+((gi d 2).int-1).toNat)<((gi d 0).rows.set (0+((gi d 2).int).toNat) (putG KPlace ((gi d 0).rows.getD (0+((gi d 2).int).toNat) []) 0 [.i ((gi d 2).int+1)])).length)) then (loopB ((Nat.beq (gi d 0).rows.length ((gi d 0).rows.set (0+((gi d 2).int).toNat) (putG KPlace ((gi d 0).rows.getD (0+((gi d 2).int).toNat) []) 0 [.i ((gi d 2).int+1)])).length)&&true) (cutR (tl_club_ranked_7 [.l ((gi d 0).rows.set (0+((gi d 2).int).toNat) (putG KPlace ((gi d 0).rows.getD (0+((gi d 2).int).toNat) []) 0 [.i ((gi d 2).int+1)])),.i (gi d 2).int,.i (gi d 1).int,.i (gi d 2).int,.t ((gi (((gi d 0).rows.set (0+((gi d 2).int).toNat) (putG KPlace ((gi d 0).rows.getD (0+((gi d 2).int).toNat) []) 0 [.i ((gi d 2).int+1)])).getD (0+((gi d 2).int).toNat) []) 1).int==(gi (((gi d 0).rows.set (0+((gi d 2).int).toNat) (putG KPlace ((gi d 0).rows.getD (0+((gi d 2).int).toNat) []) 0 [.i ((gi d 2).int+1)])).getD (0+((gi d 2).int-1).toNat) []) 1).int)])) fun cg2 g2=>(bif (inI ((gi g2 2).int+1)) then (bif ((Nat.beq (gi g2 0).rows.length (gi g2 0).rows.length)&&true) then some (none,[.l (gi g2 0).rows,.i (gi g2 1).int,.i ((gi g2 2).int+1)]) else none) else none)) else none) else none) else none) else none) else none) else (loopB ((Nat.beq (gi d 0).rows.length ((gi d 0).rows.set (0+((gi d 2).int).toNat) (putG KPlace ((gi d 0).rows.getD (0+((gi d 2).int).toNat) []) 0 [.i ((gi d 2).int+1)])).length)&&true) (cutR (tl_club_ranked_7 [.l ((gi d 0).rows.set (0+((gi d 2).int).toNat) (putG KPlace ((gi d 0).rows.getD (0+((gi d 2).int).toNat) []) 0 [.i ((gi d 2).int+1)])),.i (gi d 2).int,.i (gi d 1).int,.i (gi d 2).int,.t false])) fun cg3 g3=>(bif (inI ((gi g3 2).int+1)) then (bif ((Nat.beq (gi g3 0).rows.length (gi g3 0).rows.length)&&true) then some (none,[.l (gi g3 0).rows,.i (gi g3 1).int,.i ((gi g3 2).int+1)]) else none) else none))) else none) else none) else none) else (bif ((Nat.beq (gi d 0).rows.length (gi d 0).rows.length)&&true) then some (some 0,[.l (gi d 0).rows]) else none))
def l_club_ranked_3:LSpec:=⟨3,[],⟨45,[(0,.s (.vec 0 3)),(7,.s (.int .i64)),(8,.s (.int .i64))],[.vec KPlace 0]⟩,[.fix 0],[⟨.exit 0,⟨45,[(0,.s (.vec 0 3))],[.vec KPlace 0]⟩,[.fix 0]⟩],st_club_ranked_3⟩
theorem r_club_ranked_3:RoundOK P t30 L_club_ranked_7c 1 (loopAt Tryz.f50 3) l_club_ranked_3:=fun d=>by kernel_rfl
def L_club_ranked_3:LT:=L_club_ranked_7c.add 1 l_club_ranked_3
theorem L_club_ranked_3_ok:LpK P 1 L_club_ranked_3 (bodyOf Tryz.f50):=LpK.a hm t30_ok L_club_ranked_7c_ok r_club_ranked_3
def F_club_ranked (d:List G):Option (List G) :=
 (callB (((Nat.beq (gi d 0).rows.length (gi d 0).rows.length)&&true)&&(F_sl_SortFunc_Place [.l (gi d 0).rows]).isSome) (F_sl_SortFunc_Place [.l (gi d 0).rows]) fun g1=>(loopB ((Nat.beq (gi d 0).rows.length (gi g1 0).rows.length)&&true) (LRun st_club_ranked_3 [.l (gi g1 0).rows,.i (((gi d 0).rows.length:Nat):Int),.i 0]) fun cg4 g4=>(bif ((Nat.beq (gi g4 0).rows.length (gi g4 0).rows.length)&&true) then some [.l (gi g4 0).rows] else none)))
def s_club_ranked:FSpec:=⟨50,[.s (.vec 0 3)],[.vec KPlace 0],[.slot 0],[.s (.vec 0 3)],[.vec KPlace 0],[.fix 0],[],F_club_ranked⟩
theorem b_club_ranked:BodyOK P t30 L_club_ranked_3 Tryz.f50 s_club_ranked:=fun d=>by kernel_rfl
theorem c_club_ranked:COK P s_club_ranked:=bdC hm t30_ok Tryz.func50 L_club_ranked_3_ok b_club_ranked
def t31:Tab:=t30.addW s_club_ranked
theorem t31_ok:TabOK P t31:=t30_ok.aW c_club_ranked

def st_club_Table_8 (d:List G):Option (Option Nat × List G) :=
 (bif (ltI (gi d 4).int (gi d 3).int) then (bif ((nnI (gi d 4).int)&&(ltI (gi d 4).int (((gi d 2).rows.length:Nat):Int))) then (bif ((gi ((gi d 2).rows.getD (((gi d 4).int).toNat) []) 1).str.toList==(gi d 1).str.toList) then (bif ((Nat.beq (gi d 0).rows.length (gi d 0).rows.length)&&(decide (((gi d 0).rows.length+1)≤1048576))) then (bif (inI ((gi d 4).int+1)) then (bif ((Nat.beq ((gi d 0).rows++([[.i 0,.i (gi ((gi d 2).rows.getD (((gi d 4).int).toNat) []) 2).int,.s (gi ((gi d 2).rows.getD (((gi d 4).int).toNat) []) 0).str]]:List (List G))).length ((gi d 0).rows++([[.i 0,.i (gi ((gi d 2).rows.getD (((gi d 4).int).toNat) []) 2).int,.s (gi ((gi d 2).rows.getD (((gi d 4).int).toNat) []) 0).str]]:List (List G))).length)&&true) then some (none,[.l ((gi d 0).rows++([[.i 0,.i (gi ((gi d 2).rows.getD (((gi d 4).int).toNat) []) 2).int,.s (gi ((gi d 2).rows.getD (((gi d 4).int).toNat) []) 0).str]]:List (List G))),.s (gi d 1).str,.l (gi d 2).rows,.i (gi d 3).int,.i ((gi d 4).int+1)]) else none) else none) else none) else (bif (inI ((gi d 4).int+1)) then (bif ((Nat.beq (gi d 0).rows.length (gi d 0).rows.length)&&true) then some (none,[.l (gi d 0).rows,.s (gi d 1).str,.l (gi d 2).rows,.i (gi d 3).int,.i ((gi d 4).int+1)]) else none) else none)) else none) else (bif ((Nat.beq (gi d 0).rows.length (gi d 0).rows.length)&&true) then some (some 0,[.l (gi d 0).rows]) else none))
def l_club_Table_8:LSpec:=⟨8,[(7,KPlace)],⟨39,[(1,.s (.str)),(7,.s (.vec 0 3)),(18,.s (.list KEntrant)),(19,.s (.int .i64)),(20,.s (.int .i64))],[.vec KPlace 0]⟩,[.slot 7],[⟨.exit 0,⟨39,[(7,.s (.vec 0 3))],[.vec KPlace 0]⟩,[.slot 7]⟩],st_club_Table_8⟩
theorem r_club_Table_8:RoundOK P t31 nL0 0 (loopAt Tryz.f25 8) l_club_Table_8:=fun d=>by kernel_rfl
def L_club_Table_8:LT:=nL0.add 0 l_club_Table_8
theorem L_club_Table_8_ok:LpK P 0 L_club_Table_8 (bodyOf Tryz.f25):=LpK.a hm t31_ok (nLk _ _ _) r_club_Table_8
def F_club_Table (d:List G):Option (List G) :=
 (callF (F_club_CheckEntrants [.l (gi d 0).rows]) fun g1=>(bif ((gi g1 0).int != 0) then some [.l [],.i (gi g1 0).int] else (callF (F_kit_IsKey [.s (gi d 1).str]) fun g2=>(bif (!(gi g2 0).bool) then some [.l [],.i 5] else (loopB true (LRun st_club_Table_8 [.l [],.s (gi d 1).str,.l (gi d 0).rows,.i (((gi d 0).rows.length:Nat):Int),.i 0]) fun cg3 g3=>(callB (((Nat.beq (gi g3 0).rows.length (gi g3 0).rows.length)&&true)&&(F_club_ranked [.l (gi g3 0).rows]).isSome) (F_club_ranked [.l (gi g3 0).rows]) fun g4=>(bif ((Nat.beq (gi g4 0).rows.length (gi g4 0).rows.length)&&true) then some [.l (gi g4 0).rows,.i 0] else none)))))))
def s_club_Table:FSpec:=⟨25,[.s (.list KEntrant),.s (.str)],[],[],[.s (.list KPlace),.s (.int .i64)],[],[],[],F_club_Table⟩
theorem b_club_Table:BodyOK P t31 L_club_Table_8 Tryz.f25 s_club_Table:=fun d=>by kernel_rfl
theorem c_club_Table:COK P s_club_Table:=bdC hm t31_ok Tryz.func25 L_club_Table_8_ok b_club_Table
def t32:Tab:=t31.addP s_club_Table
theorem t32_ok:TabOK P t32:=t31_ok.aP c_club_Table

def st_sl_Reverse_int_1 (d:List G):Option (Option Nat × List G) :=
 (bif (ltI (gi d 1).int (gi d 2).int) then (bif ((nnI (gi d 2).int)&&(ltI (gi d 2).int (((gi d 0).rows.length:Nat):Int))) then (bif (decide ((0+((gi d 2).int).toNat)<(gi d 0).rows.length)) then (bif ((nnI (gi d 1).int)&&(ltI (gi d 1).int (((gi d 0).rows.length:Nat):Int))) then (bif (decide ((0+((gi d 1).int).toNat)<(gi d 0).rows.length)) then (bif ((nnI (gi d 1).int)&&(ltI (gi d 1).int (((gi d 0).rows.length:Nat):Int))) then (bif (decide ((0+((gi d 1).int).toNat)<(gi d 0).rows.length)) then (bif ((nnI (gi d 2).int)&&(ltI (gi d 2).int (((gi d 0).rows.length:Nat):Int))) then (bif (decide ((0+((gi d 2).int).toNat)<((gi d 0).rows.set (0+((gi d 1).int).toNat) (putG [.int .i64] ((gi d 0).rows.getD (0+((gi d 1).int).toNat) []) 0 [.i (gi ((gi d 0).rows.getD (0+((gi d 2).int).toNat) []) 0).int])).length)) then (bif (inI ((gi d 1).int+1)) then (bif (inI ((gi d 2).int-1)) then (bif ((Nat.beq (gi d 0).rows.length (((gi d 0).rows.set (0+((gi d 1).int).toNat) (putG [.int .i64] ((gi d 0).rows.getD (0+((gi d 1).int).toNat) []) 0 [.i (gi ((gi d 0).rows.getD (0+((gi d 2).int).toNat) []) 0).int])).set (0+((gi d 2).int).toNat) (putG [.int .i64] (((gi d 0).rows.set (0+((gi d 1).int).toNat) (putG [.int .i64] ((gi d 0).rows.getD (0+((gi d 1).int).toNat) []) 0 [.i (gi ((gi d 0).rows.getD (0+((gi d 2).int).toNat) []) 0).int])).getD (0+((gi d 2).int).toNat) []) 0 [.i (gi ((gi d 0).rows.getD (0+((gi d 1).int).toNat) []) 0).int])).length)&&true) then some (none,[.l (((gi d 0).rows.set (0+((gi d 1).int).toNat) (putG [.int .i64] ((gi d 0).rows.getD (0+((gi d 1).int).toNat) []) 0 [.i (gi ((gi d 0).rows.getD (0+((gi d 2).int).toNat) []) 0).int])).set (0+((gi d 2).int).toNat) (putG [.int .i64] (((gi d 0).rows.set (0+((gi d 1).int).toNat) (putG [.int .i64] ((gi d 0).rows.getD (0+((gi d 1).int).toNat) []) 0 [.i (gi ((gi d 0).rows.getD (0+((gi d 2).int).toNat) []) 0).int])).getD (0+((gi d 2).int).toNat) []) 0 [.i (gi ((gi d 0).rows.getD (0+((gi d 1).int).toNat) []) 0).int])),.i ((gi d 1).int+1),.i ((gi d 2).int-1)]) else none) else none) else none) else none) else none) else none) else none) else none) else none) else none) else none) else some (some 0,[.l (gi d 0).rows]))
def l_sl_Reverse_int_1:LSpec:=⟨1,[],⟨28,[(0,.s (.vec 0 1)),(2,.s (.int .i64)),(3,.s (.int .i64))],[.vec [.int .i64] 0]⟩,[.fix 0],[⟨.exit 0,⟨28,[],[.vec [.int .i64] 0]⟩,[.fix 0]⟩],st_sl_Reverse_int_1⟩
theorem r_sl_Reverse_int_1:RoundOK P t32 nL0 1 (loopAt Tryz.f163 1) l_sl_Reverse_int_1:=fun d=>by kernel_rfl
def L_sl_Reverse_int_1:LT:=nL0.add 1 l_sl_Reverse_int_1
theorem L_sl_Reverse_int_1_ok:LpK P 1 L_sl_Reverse_int_1 (bodyOf Tryz.f163):=LpK.a hm t32_ok (nLk _ _ _) r_sl_Reverse_int_1
def F_sl_Reverse_int (d:List G):Option (List G) :=
 (bif (inI ((((gi d 0).rows.length:Nat):Int)-1)) then (loopB ((Nat.beq (gi d 0).rows.length (gi d 0).rows.length)&&true) (LRun st_sl_Reverse_int_1 [.l (gi d 0).rows,.i 0,.i ((((gi d 0).rows.length:Nat):Int)-1)]) fun cg1 g1=>some [.l (gi g1 0).rows]) else none)
def s_sl_Reverse_int:FSpec:=⟨163,[.s (.vec 0 1)],[.vec [.int .i64] 0],[.slot 0],[],[.vec [.int .i64] 0],[.fix 0],[],F_sl_Reverse_int⟩
theorem b_sl_Reverse_int:BodyOK P t32 L_sl_Reverse_int_1 Tryz.f163 s_sl_Reverse_int:=fun d=>by kernel_rfl
theorem c_sl_Reverse_int:COK P s_sl_Reverse_int:=bdC hm t32_ok Tryz.func163 L_sl_Reverse_int_1_ok b_sl_Reverse_int
def t33:Tab:=t32.addW s_sl_Reverse_int
theorem t33_ok:TabOK P t33:=t32_ok.aW c_sl_Reverse_int

def sr_net_state_holders_2 (r d:List G):Option (List G) :=
 (bif (inI ((gi (mget [.int .i64] (gi d 6).rows [.i (gi (gi r 0).row 1).int] [.i 0]) 0).int+1)) then (bif ((((Nat.beq (gi d 3).rows.length (gi d 3).rows.length)&&true)&&true)&&true) then some [.l (gi d 0).rows,.l (gi d 1).rows,.l (gi d 2).rows,.l (gi d 3).rows,.l (gi d 4).rows,.i (((gi d 5).int.toNat:Nat):Int),.l (mput [.int .i64] (gi d 6).rows [.i (gi (gi r 0).row 1).int] [.i ((gi (mget [.int .i64] (gi d 6).rows [.i (gi (gi r 0).row 1).int] [.i 0]) 0).int+1)] (gi d 7).int.toNat),.i (((mclk [.int .i64] (gi d 6).rows [.i (gi (gi r 0).row 1).int] (gi d 7).int.toNat):Nat):Int),.i (((gi d 8).int.toNat:Nat):Int)] else none) else none)
def ri_net_state_holders_2 (d:List G) (b:Nat):List G:=[.l (gi d 0).rows,.l (gi d 1).rows,.l (gi d 2).rows,.l (gi d 3).rows,.l (gi d 4).rows,.i (((gi d 5).int.toNat:Nat):Int),.l (gi d 6).rows,.i (((gi d 7).int.toNat:Nat):Int),.i (b:Int)]
def rb_net_state_holders_2 (d:List G) (b:Nat):Bool:=((((Nat.beq (gi d 3).rows.length (gi d 3).rows.length)&&true)&&true)&&true)
def rs_net_state_holders_2:RSpec:=⟨⟨21,[(3,.s (.map 3)),(10,.s (.addr))],[.box [.vec 1 15,.list KCt,.list [.str],.list [.int .i64],.map 2],.vec KDeed 0,.map (.agg [.str,.int .i64]) (.one (.bool)),.map (.one (.int .i64)) (.one (.int .i64))]⟩,[.fix 0,.cell 0 0,.cell 0 4,.slot 3],[],(.agg [.str,.int .i64]),(.one (.bool)),2,0,9,10,11,12,13,fun d=>(gi d 8).int.toNat,ri_net_state_holders_2,rb_net_state_holders_2,sr_net_state_holders_2⟩
theorem w_net_state_holders_2:RRound P t33 nL0 3 rs_net_state_holders_2 (rOps2 (cutAt Tryz.f90 2)) (rBody (cutAt Tryz.f90 2)):=fun r d=>by kernel_rfl
def tr_net_state_holders_2 (d:List G):Option (Option Nat × List G) :=
 (bif ((((Nat.beq (gi d 3).rows.length (gi d 3).rows.length)&&true)&&true)&&true) then some (some 0,[.l (gi d 0).rows,.l (gi d 1).rows,.l (gi d 2).rows,.l (gi d 3).rows,.l (gi d 4).rows,.i (((gi d 5).int.toNat:Nat):Int),.l (gi d 6).rows,.i (((gi d 7).int.toNat:Nat):Int)]) else none)
def l_net_state_holders_2r:LSpec:=⟨6,[],⟨21,[(3,.s (.map 3)),(10,.s (.addr))],[.box [.vec 1 15,.list KCt,.list [.str],.list [.int .i64],.map 2],.vec KDeed 0,.map (.agg [.str,.int .i64]) (.one (.bool)),.map (.one (.int .i64)) (.one (.int .i64))]⟩,[],[⟨.ret,⟨21,[(2,.s (.map 3))],[.box [.vec 1 15,.list KCt,.list [.str],.list [.int .i64],.map 2],.vec KDeed 0,.map (.agg [.str,.int .i64]) (.one (.bool)),.map (.one (.int .i64)) (.one (.int .i64))]⟩,[.fix 0,.cell 0 0,.cell 0 4,.slot 2]⟩],tr_net_state_holders_2⟩
theorem v_net_state_holders_2:CutOK P t33 nL0 3 (rRest (cutAt Tryz.f90 2)) l_net_state_holders_2r:=fun d=>by kernel_rfl
def tl_net_state_holders_2 (d:List G):Option (Option Nat × List G) :=
 rangeR rs_net_state_holders_2 tr_net_state_holders_2 (gi d 4).rows ((gi d 5).int.toNat) d
def l_net_state_holders_2c:LSpec:=⟨2,[],⟨21,[(0,.s (.ptr 0 0)),(3,.s (.map 3))],[.box [.vec 1 15,.list KCt,.list [.str],.list [.int .i64],.map 2],.vec KDeed 0,.map (.agg [.str,.int .i64]) (.one (.bool)),.map (.one (.int .i64)) (.one (.int .i64))]⟩,[.fix 0,.cell 0 0,.cell 0 4,.slot 3],[⟨.ret,⟨21,[(2,.s (.map 3))],[.box [.vec 1 15,.list KCt,.list [.str],.list [.int .i64],.map 2],.vec KDeed 0,.map (.agg [.str,.int .i64]) (.one (.bool)),.map (.one (.int .i64)) (.one (.int .i64))]⟩,[.fix 0,.cell 0 0,.cell 0 4,.slot 2]⟩],tl_net_state_holders_2⟩
def L_net_state_holders_2c:LT:=nL0.addCut 3 l_net_state_holders_2c
theorem k_net_state_holders_2:∀ r d d',sr_net_state_holders_2 r d=some d'→(gi d' 4).rows=(gi d 4).rows∧(gi d' 5).int.toNat=(gi d 5).int.toNat:=by
 intro r d d' h
 unfold sr_net_state_holders_2 at h
 simp only [Bool.cond_eq_ite] at h
 repeat' split at h
 all_goals first | (cases h; done) | (cases h; exact ⟨rfl,rfl⟩)
theorem L_net_state_holders_2c_ok:LpK P 3 L_net_state_holders_2c (bodyOf Tryz.f90):=LpK.addRangeK (q:=l_net_state_holders_2c) (qr:=l_net_state_holders_2r) (sp:=rs_net_state_holders_2) (r0:=2) (b0:=0) (r1:=3) (b1:=1) (r2:=4) (rows:=fun d=>(gi d 4).rows) (clock:=fun d=>(gi d 5).int.toNat) (pre:=fun d=>preOf P t33 (rOps0 (cutAt Tryz.f90 2)) (mkSt l_net_state_holders_2c.inv d)) (ri:=fun d=>(gi d 4).rows) (ci:=fun d=>(gi d 5).int.toNat) hm t33_ok (fun d=>by kernel_rfl) k_net_state_holders_2 (by kernel_rfl) (by kernel_rfl) (nLk _ _ _) (by kernel_rfl) (by kernel_rfl) w_net_state_holders_2 (fun d=>by kernel_rfl) (fun d=>by kernel_rfl) (fun d=>by kernel_rfl) (fun d=>by kernel_rfl) (fun d=>by kernel_rfl) (fun d=>by kernel_rfl) (fun d b=>by kernel_rfl) (fun d b=>rfl) (fun d b=>⟨rfl,rfl⟩) rfl rfl v_net_state_holders_2 (fun d=>rfl)
def F_net_state_holders (d:List G):Option (List G) :=
 (loopB ((((Nat.beq (gi d 3).rows.length (gi d 3).rows.length)&&true)&&true)&&true) (cutR (tl_net_state_holders_2 [.l (gi d 0).rows,.l (gi d 1).rows,.l (gi d 2).rows,.l (gi d 3).rows,.l (gi d 4).rows,.i (((gi d 5).int.toNat:Nat):Int),.l [],.i 0])) fun cg1 g1=>(bif ((((Nat.beq (gi g1 3).rows.length (gi g1 3).rows.length)&&true)&&true)&&true) then some [.l (gi g1 0).rows,.l (gi g1 1).rows,.l (gi g1 2).rows,.l (gi g1 3).rows,.l (gi g1 4).rows,.i (((gi g1 5).int.toNat:Nat):Int),.l (gi g1 6).rows,.i (((gi g1 7).int.toNat:Nat):Int)] else none))
def s_net_state_holders:FSpec:=⟨90,[.s (.ptr 0 0)],[.box [.vec 1 15,.list KCt,.list [.str],.list [.int .i64],.map 2],.vec KDeed 0,.map (.agg [.str,.int .i64]) (.one (.bool))],[.slot 0,.cell 0 0,.cell 0 4],[.s (.map 3)],[.box [.vec 1 15,.list KCt,.list [.str],.list [.int .i64],.map 2],.vec KDeed 0,.map (.agg [.str,.int .i64]) (.one (.bool)),.map (.one (.int .i64)) (.one (.int .i64))],[.fix 0,.fix 1,.fix 2,.slot 0],[],F_net_state_holders⟩
theorem b_net_state_holders:BodyOK P t33 L_net_state_holders_2c Tryz.f90 s_net_state_holders:=fun d=>by kernel_rfl
theorem c_net_state_holders:COK P s_net_state_holders:=bdC hm t33_ok Tryz.func90 L_net_state_holders_2c_ok b_net_state_holders
def t34:Tab:=t33.addW s_net_state_holders
theorem t34_ok:TabOK P t34:=t33_ok.aW c_net_state_holders

theorem bw_k2_ready:BwFact P ⟨184,78,77,15,15,true⟩:=bwFact_of Tryz.func184 (by kernel_rfl) rfl rfl rfl ⟨⟨_,_,_,_,_,_,rfl,⟨rfl,rfl,rfl⟩,⟨rfl,rfl,rfl⟩,⟨rfl,rfl,rfl⟩,⟨rfl,rfl,rfl⟩⟩,⟨_,_,_,_,rfl,⟨rfl,rfl,rfl⟩,⟨rfl,rfl,rfl⟩⟩,⟨_,_,_,_,_,rfl,⟨rfl,rfl,rfl⟩,⟨rfl,rfl,rfl⟩,⟨rfl,rfl,rfl⟩⟩,⟨_,_,_,_,_,_,_,_,_,_,rfl,⟨rfl,rfl,rfl⟩,⟨rfl,rfl,rfl⟩,⟨rfl,rfl,rfl⟩,⟨rfl,rfl,rfl⟩,⟨rfl,rfl,rfl⟩,⟨rfl,rfl,rfl⟩,⟨rfl,rfl,rfl⟩,⟨rfl,rfl,rfl⟩⟩⟩ (by kernel_rfl)
def tl1_net_state_holders_2 (d:List G):Option (Option Nat × List G) :=
 range1 rs_net_state_holders_2 tr_net_state_holders_2 (gi d 4).rows ((gi d 5).int.toNat) d
theorem ind_net_state_holders_2 (d x:List G) (b:Nat):(foldR rs_net_state_holders_2.st rs_net_state_holders_2.adr [x] (rs_net_state_holders_2.init d b)).bind tr_net_state_holders_2=(foldR rs_net_state_holders_2.st rs_net_state_holders_2.adr [x] (rs_net_state_holders_2.init d 0)).bind tr_net_state_holders_2:=by
 simp only [foldR_one,rs_net_state_holders_2]
 unfold sr_net_state_holders_2 ri_net_state_holders_2 tr_net_state_holders_2
 dsimp +instances only [giC0,giCs]
 simp only [bind_cond,Option.bind_some,Option.bind_none]
 dsimp +instances only [giC0,giCs]
 simp only [intC,Int.toNat_natCast,beqC,cond_true]
def F1_net_state_holders (d:List G):Option (List G) :=
 (loopB ((((Nat.beq (gi d 3).rows.length (gi d 3).rows.length)&&true)&&true)&&true) (cutR (tl1_net_state_holders_2 [.l (gi d 0).rows,.l (gi d 1).rows,.l (gi d 2).rows,.l (gi d 3).rows,.l (gi d 4).rows,.i (((gi d 5).int.toNat:Nat):Int),.l [],.i 0])) fun cg1 g1=>(bif ((((Nat.beq (gi g1 3).rows.length (gi g1 3).rows.length)&&true)&&true)&&true) then some [.l (gi g1 0).rows,.l (gi g1 1).rows,.l (gi g1 2).rows,.l (gi g1 3).rows,.l (gi g1 4).rows,.i (((gi g1 5).int.toNat:Nat):Int),.l (gi g1 6).rows,.i (((gi g1 7).int.toNat:Nat):Int)] else none))
theorem F1_le {d r:List G} (h:F1_net_state_holders d=some r):F_net_state_holders d=some r :=
 loopB_le (fun v hv=>range1_le (fun b=>rfl) (ind_net_state_holders_2 _) hv) h
def s1_net_state_holders:FSpec:={ s_net_state_holders with F:=F1_net_state_holders }
def u_k2_ready:Tab:=t34.addW s1_net_state_holders
theorem u_k2_ready_ok:TabOK P u_k2_ready:=t34_ok.aW fun d r h=>c_net_state_holders d r (F1_le h)
def u0_k2_ready:Tab:=u_k2_ready.inline P 182 Tryz.f182 []
theorem u0_k2_ready_ok:TabOK P u0_k2_ready:=u_k2_ready_ok.inline hm Tryz.func182 (by kernel_rfl) []
def u1_k2_ready:Tab:=u0_k2_ready.inline P 183 Tryz.f183 []
theorem u1_k2_ready_ok:TabOK P u1_k2_ready:=u0_k2_ready_ok.inline hm Tryz.func183 (by kernel_rfl) []
def u2_k2_ready:Tab:=u1_k2_ready.inline P 160 Tryz.f160 []
theorem u2_k2_ready_ok:TabOK P u2_k2_ready:=u1_k2_ready_ok.inline hm Tryz.func160 (by kernel_rfl) []
def u3_k2_ready:Tab:=u2_k2_ready.inline P 122 Tryz.f122 []
theorem u3_k2_ready_ok:TabOK P u3_k2_ready:=u2_k2_ready_ok.inline hm Tryz.func122 (by kernel_rfl) []
def u4_k2_ready:Tab:=u3_k2_ready.inline P 87 Tryz.f87 []
theorem u4_k2_ready_ok:TabOK P u4_k2_ready:=u3_k2_ready_ok.inline hm Tryz.func87 (by kernel_rfl) []
def u5_k2_ready:Tab:=u4_k2_ready.inlineW P 162 Tryz.f162
theorem u5_k2_ready_ok:TabOK P u5_k2_ready:=u4_k2_ready_ok.inlineW hm Tryz.func162 (by kernel_rfl) (by kernel_rfl)
def u6_k2_ready:Tab:=u5_k2_ready.inlineB P ⟨184,78,77,15,15,true⟩ 3 123 Tryz.f123 [some [.int .i64]]
theorem u6_k2_ready_ok:TabOK P u6_k2_ready:=u5_k2_ready_ok.inlineB hm bw_k2_ready Tryz.func123 (by kernel_rfl) (by kernel_rfl) [some [.int .i64]]
def u7_k2_ready:Tab:=u6_k2_ready.inlineW P 60 Tryz.f60
theorem u7_k2_ready_ok:TabOK P u7_k2_ready:=u6_k2_ready_ok.inlineW hm Tryz.func60 (by kernel_rfl) (by kernel_rfl)
def u8_k2_ready:Tab:=u7_k2_ready.inlineW P 164 Tryz.f164
theorem u8_k2_ready_ok:TabOK P u8_k2_ready:=u7_k2_ready_ok.inlineW hm Tryz.func164 (by kernel_rfl) (by kernel_rfl)
def u9_k2_ready:Tab:=u8_k2_ready.inlineW P 125 Tryz.f125
theorem u9_k2_ready_ok:TabOK P u9_k2_ready:=u8_k2_ready_ok.inlineW hm Tryz.func125 (by kernel_rfl) (by kernel_rfl)
def u10_k2_ready:Tab:=u9_k2_ready.inline P 124 Tryz.f124 []
theorem u10_k2_ready_ok:TabOK P u10_k2_ready:=u9_k2_ready_ok.inline hm Tryz.func124 (by kernel_rfl) []
def u11_k2_ready:Tab:=u10_k2_ready.inlineW P 88 Tryz.f88
theorem u11_k2_ready_ok:TabOK P u11_k2_ready:=u10_k2_ready_ok.inlineW hm Tryz.func88 (by kernel_rfl) (by kernel_rfl)
def u12_k2_ready:Tab:=u11_k2_ready.inlineW P 51 Tryz.f51
theorem u12_k2_ready_ok:TabOK P u12_k2_ready:=u11_k2_ready_ok.inlineW hm Tryz.func51 (by kernel_rfl) (by kernel_rfl)
def u13_k2_ready:Tab:=u12_k2_ready.inlineW P 89 Tryz.f89
theorem u13_k2_ready_ok:TabOK P u13_k2_ready:=u12_k2_ready_ok.inlineW hm Tryz.func89 (by kernel_rfl) (by kernel_rfl)
def u14_k2_ready:Tab:=u13_k2_ready.inlineW P 52 Tryz.f52
theorem u14_k2_ready_ok:TabOK P u14_k2_ready:=u13_k2_ready_ok.inlineW hm Tryz.func52 (by kernel_rfl) (by kernel_rfl)
def u15_k2_ready:Tab:=u14_k2_ready.inline P 26 Tryz.f26 []
theorem u15_k2_ready_ok:TabOK P u15_k2_ready:=u14_k2_ready_ok.inline hm Tryz.func26 (by kernel_rfl) []
def u16_k2_ready:Tab:=u15_k2_ready.inline P 74 Tryz.f74 []
theorem u16_k2_ready_ok:TabOK P u16_k2_ready:=u15_k2_ready_ok.inline hm Tryz.func74 (by kernel_rfl) []
def u17_k2_ready:Tab:=u16_k2_ready.inline P 79 Tryz.f79 []
theorem u17_k2_ready_ok:TabOK P u17_k2_ready:=u16_k2_ready_ok.inline hm Tryz.func79 (by kernel_rfl) []
def u18_k2_ready:Tab:=u17_k2_ready.inline P 73 Tryz.f73 []
theorem u18_k2_ready_ok:TabOK P u18_k2_ready:=u17_k2_ready_ok.inline hm Tryz.func73 (by kernel_rfl) []
def u19_k2_ready:Tab:=u18_k2_ready.inline P 41 Tryz.f41 []
theorem u19_k2_ready_ok:TabOK P u19_k2_ready:=u18_k2_ready_ok.inline hm Tryz.func41 (by kernel_rfl) []
def u20_k2_ready:Tab:=u19_k2_ready.inline P 46 Tryz.f46 []
theorem u20_k2_ready_ok:TabOK P u20_k2_ready:=u19_k2_ready_ok.inline hm Tryz.func46 (by kernel_rfl) []
def u21_k2_ready:Tab:=u20_k2_ready.inline P 117 Tryz.f117 []
theorem u21_k2_ready_ok:TabOK P u21_k2_ready:=u20_k2_ready_ok.inline hm Tryz.func117 (by kernel_rfl) []
def u22_k2_ready:Tab:=u21_k2_ready.inline P 78 Tryz.f78 []
theorem u22_k2_ready_ok:TabOK P u22_k2_ready:=u21_k2_ready_ok.inline hm Tryz.func78 (by kernel_rfl) []
def u23_k2_ready:Tab:=u22_k2_ready.inlineW P 128 Tryz.f128
theorem u23_k2_ready_ok:TabOK P u23_k2_ready:=u22_k2_ready_ok.inlineW hm Tryz.func128 (by kernel_rfl) (by kernel_rfl)
def u24_k2_ready:Tab:=u23_k2_ready.inlineW P 94 Tryz.f94
theorem u24_k2_ready_ok:TabOK P u24_k2_ready:=u23_k2_ready_ok.inlineW hm Tryz.func94 (by kernel_rfl) (by kernel_rfl)
def u25_k2_ready:Tab:=u24_k2_ready.inlineW P 58 Tryz.f58
theorem u25_k2_ready_ok:TabOK P u25_k2_ready:=u24_k2_ready_ok.inlineW hm Tryz.func58 (by kernel_rfl) (by kernel_rfl)
def u26_k2_ready:Tab:=u25_k2_ready.inlineW P 80 Tryz.f80
theorem u26_k2_ready_ok:TabOK P u26_k2_ready:=u25_k2_ready_ok.inlineW hm Tryz.func80 (by kernel_rfl) (by kernel_rfl)
def u27_k2_ready:Tab:=u26_k2_ready.inlineW P 47 Tryz.f47
theorem u27_k2_ready_ok:TabOK P u27_k2_ready:=u26_k2_ready_ok.inlineW hm Tryz.func47 (by kernel_rfl) (by kernel_rfl)
def u28_k2_ready:Tab:=u27_k2_ready.inlineW P 48 Tryz.f48
theorem u28_k2_ready_ok:TabOK P u28_k2_ready:=u27_k2_ready_ok.inlineW hm Tryz.func48 (by kernel_rfl) (by kernel_rfl)
def u29_k2_ready:Tab:=u28_k2_ready.inlineW P 30 Tryz.f30
theorem u29_k2_ready_ok:TabOK P u29_k2_ready:=u28_k2_ready_ok.inlineW hm Tryz.func30 (by kernel_rfl) (by kernel_rfl)
def u30_k2_ready:Tab:=u29_k2_ready.inlineW P 11 Tryz.f11
theorem u30_k2_ready_ok:TabOK P u30_k2_ready:=u29_k2_ready_ok.inlineW hm Tryz.func11 (by kernel_rfl) (by kernel_rfl)
def u31_k2_ready:Tab:=u30_k2_ready.inline P 24 Tryz.f24 []
theorem u31_k2_ready_ok:TabOK P u31_k2_ready:=u30_k2_ready_ok.inline hm Tryz.func24 (by kernel_rfl) []
def u32_k2_ready:Tab:=u31_k2_ready.inline P 9 Tryz.f9 []
theorem u32_k2_ready_ok:TabOK P u32_k2_ready:=u31_k2_ready_ok.inline hm Tryz.func9 (by kernel_rfl) []
theorem q_k2_ready:PCall P 7 [] (.lit (.bool true)):=fn_pure (L:=nL0) hm u32_k2_ready_ok [] (fun _ _=>nLk _ _ _) Tryz.func7 rfl (by kernel_rfl) (by kernel_rfl)
def F_k2_ready (_:List G):Option (List G):=some [.t true]
def s_k2_ready:FSpec:=⟨7,[],[],[],[.s (.bool)],[],[],[],F_k2_ready⟩
theorem c_k2_ready:∀ d r,F_k2_ready d=some r→ACallX P 7 (s_k2_ready.args0 d) (denH (s_k2_ready.H0 d)) (s_k2_ready.out r) (denH (s_k2_ready.H1 r)):=fun d r h=>by
 cases (show some [G.t true]=some r from h)
 exact q_k2_ready []
def t35:Tab:=t34.addP s_k2_ready
theorem t35_ok:TabOK P t35:=t34_ok.aP c_k2_ready


def F_pilemake_Below (d:List G):Option (List G) :=
 (bif (ltI (gi d 1).int 1) then some [.i 0] else (bif (!((gi d 1).int==0)) then (bif (ltI (Int.tmod (gi d 0).int (gi d 1).int) 0) then (bif (inI ((Int.tmod (gi d 0).int (gi d 1).int)+(gi d 1).int)) then some [.i ((Int.tmod (gi d 0).int (gi d 1).int)+(gi d 1).int)] else none) else some [.i (Int.tmod (gi d 0).int (gi d 1).int)]) else none))
def s_pilemake_Below:FSpec:=⟨31,[.s (.int .i64),.s (.int .i64)],[],[],[.s (.int .i64)],[],[],[],F_pilemake_Below⟩
theorem b_pilemake_Below:BodyOK P t35 nL0 Tryz.f31 s_pilemake_Below:=fun d=>by kernel_rfl
theorem c_pilemake_Below:COK P s_pilemake_Below:=bdC hm t35_ok Tryz.func31 (nLk _ _ _) b_pilemake_Below
def t36:Tab:=t35.addP s_pilemake_Below
theorem t36_ok:TabOK P t36:=t35_ok.aP c_pilemake_Below

def F_mk_Next (d:List G):Option (List G) :=
 (bif (inI ((gi d 1).int+1)) then (bif ((((gi d 0).rows.length:Nat):Int)==0) then (bif (inI (((gi d 1).int+1)*7919)) then (callF (F_pilemake_Below [.i (((gi d 1).int+1)*7919),.i (gi d 2).int]) fun g1=>some [.l (gi d 0).rows,.i ((gi d 1).int+1),.i (gi g1 0).int]) else none) else (bif (inI (((gi d 1).int+1)-1)) then (bif (!((((gi d 0).rows.length:Nat):Int)==0)) then (bif (inI (((gi d 1).int+1)-1)) then (bif ((!((((gi d 0).rows.length:Nat):Int)==0))&&(inI (Int.tdiv (((gi d 1).int+1)-1) (((gi d 0).rows.length:Nat):Int)))) then (bif ((nnI (Int.tmod (((gi d 1).int+1)-1) (((gi d 0).rows.length:Nat):Int)))&&(ltI (Int.tmod (((gi d 1).int+1)-1) (((gi d 0).rows.length:Nat):Int)) (((gi d 0).rows.length:Nat):Int))) then (callF (F_pilemake_Below [.i (gi ((gi d 0).rows.getD ((Int.tmod (((gi d 1).int+1)-1) (((gi d 0).rows.length:Nat):Int)).toNat) []) 0).int,.i 1073741824]) fun g2=>(bif (inI (7919+(Int.tmod (((gi d 1).int+1)-1) (((gi d 0).rows.length:Nat):Int)))) then (bif (inI ((Int.tdiv (((gi d 1).int+1)-1) (((gi d 0).rows.length:Nat):Int))*(7919+(Int.tmod (((gi d 1).int+1)-1) (((gi d 0).rows.length:Nat):Int))))) then (bif (inI ((gi g2 0).int+((Int.tdiv (((gi d 1).int+1)-1) (((gi d 0).rows.length:Nat):Int))*(7919+(Int.tmod (((gi d 1).int+1)-1) (((gi d 0).rows.length:Nat):Int)))))) then (callF (F_pilemake_Below [.i ((gi g2 0).int+((Int.tdiv (((gi d 1).int+1)-1) (((gi d 0).rows.length:Nat):Int))*(7919+(Int.tmod (((gi d 1).int+1)-1) (((gi d 0).rows.length:Nat):Int))))),.i (gi d 2).int]) fun g3=>some [.l (gi d 0).rows,.i ((gi d 1).int+1),.i (gi g3 0).int]) else none) else none) else none)) else none) else none) else none) else none) else none)) else none)
def s_mk_Next:FSpec:=⟨15,[.s (.ptr 0 0),.s (.int .i64)],[.box [.list [.int .i64],.int .i64]],[.slot 0],[.s (.int .i64)],[.box [.list [.int .i64],.int .i64]],[.fix 0],[],F_mk_Next⟩
theorem b_mk_Next:BodyOK P t36 nL0 Tryz.f15 s_mk_Next:=fun d=>by kernel_rfl
theorem c_mk_Next:COK P s_mk_Next:=bdC hm t36_ok Tryz.func15 (nLk _ _ _) b_mk_Next
def t37:Tab:=t36.addW s_mk_Next
theorem t37_ok:TabOK P t37:=t36_ok.aW c_mk_Next

def F_mk_Range (d:List G):Option (List G) :=
 (bif (ltI (gi d 3).int (gi d 2).int) then some [.l (gi d 0).rows,.i (gi d 1).int,.i (gi d 2).int] else (bif (inI ((gi d 3).int-(gi d 2).int)) then (bif (inI (((gi d 3).int-(gi d 2).int)+1)) then (callF (F_mk_Next [.l (gi d 0).rows,.i (gi d 1).int,.i (((gi d 3).int-(gi d 2).int)+1)]) fun g1=>(bif (inI ((gi d 2).int+(gi g1 2).int)) then some [.l (gi g1 0).rows,.i (gi g1 1).int,.i ((gi d 2).int+(gi g1 2).int)] else none)) else none) else none))
def s_mk_Range:FSpec:=⟨5,[.s (.ptr 0 0),.s (.int .i64),.s (.int .i64)],[.box [.list [.int .i64],.int .i64]],[.slot 0],[.s (.int .i64)],[.box [.list [.int .i64],.int .i64]],[.fix 0],[],F_mk_Range⟩
theorem b_mk_Range:BodyOK P t37 nL0 Tryz.f5 s_mk_Range:=fun d=>by kernel_rfl
theorem c_mk_Range:COK P s_mk_Range:=bdC hm t37_ok Tryz.func5 (nLk _ _ _) b_mk_Range
def t38:Tab:=t37.addW s_mk_Range
theorem t38_ok:TabOK P t38:=t37_ok.aW c_mk_Range

def F_mk_Pick (d:List G):Option (List G) :=
 (callF (F_mk_Next [.l (gi d 0).rows,.i (gi d 1).int,.i (((gi d 2).rows.length:Nat):Int)]) fun g1=>(bif ((nnI (gi g1 2).int)&&(ltI (gi g1 2).int (((gi d 2).rows.length:Nat):Int))) then some [.l (gi g1 0).rows,.i (gi g1 1).int,.i (gi ((gi d 2).rows.getD (((gi g1 2).int).toNat) []) 0).int] else none))
def s_mk_Pick:FSpec:=⟨13,[.s (.ptr 0 0),.s (.list [.int .i64])],[.box [.list [.int .i64],.int .i64]],[.slot 0],[.s (.int .i64)],[.box [.list [.int .i64],.int .i64]],[.fix 0],[],F_mk_Pick⟩
theorem b_mk_Pick:BodyOK P t38 nL0 Tryz.f13 s_mk_Pick:=fun d=>by kernel_rfl
theorem c_mk_Pick:COK P s_mk_Pick:=bdC hm t38_ok Tryz.func13 (nLk _ _ _) b_mk_Pick
def t39:Tab:=t38.addW s_mk_Pick
theorem t39_ok:TabOK P t39:=t38_ok.aW c_mk_Pick

def F_mk_Some (d:List G):Option (List G) :=
 (callF (F_mk_Next [.l (gi d 0).rows,.i (gi d 1).int,.i (((gi d 2).rows.length:Nat):Int)]) fun g1=>(bif ((nnI (gi g1 2).int)&&(ltI (gi g1 2).int (((gi d 2).rows.length:Nat):Int))) then some [.l (gi g1 0).rows,.i (gi g1 1).int,.s (gi ((gi d 2).rows.getD (((gi g1 2).int).toNat) []) 0).str] else none))
def s_mk_Some:FSpec:=⟨14,[.s (.ptr 0 0),.s (.list [.str])],[.box [.list [.int .i64],.int .i64]],[.slot 0],[.s (.str)],[.box [.list [.int .i64],.int .i64]],[.fix 0],[],F_mk_Some⟩
theorem b_mk_Some:BodyOK P t39 nL0 Tryz.f14 s_mk_Some:=fun d=>by kernel_rfl
theorem c_mk_Some:COK P s_mk_Some:=bdC hm t39_ok Tryz.func14 (nLk _ _ _) b_mk_Some
def t40:Tab:=t39.addW s_mk_Some
theorem t40_ok:TabOK P t40:=t39_ok.aW c_mk_Some

def F_mk_Flip (d:List G):Option (List G) :=
 (callF (F_mk_Next [.l (gi d 0).rows,.i (gi d 1).int,.i (gi d 2).int]) fun g1=>some [.l (gi g1 0).rows,.i (gi g1 1).int,.t ((gi g1 2).int==0)])
def s_mk_Flip:FSpec:=⟨16,[.s (.ptr 0 0),.s (.int .i64)],[.box [.list [.int .i64],.int .i64]],[.slot 0],[.s (.bool)],[.box [.list [.int .i64],.int .i64]],[.fix 0],[],F_mk_Flip⟩
theorem b_mk_Flip:BodyOK P t40 nL0 Tryz.f16 s_mk_Flip:=fun d=>by kernel_rfl
theorem c_mk_Flip:COK P s_mk_Flip:=bdC hm t40_ok Tryz.func16 (nLk _ _ _) b_mk_Flip
def t41:Tab:=t40.addW s_mk_Flip
theorem t41_ok:TabOK P t41:=t40_ok.aW c_mk_Flip

def F_r2_sign (d:List G):Option (List G) :=
 (bif (ltI (gi d 0).int 0) then some [.i (-1)] else (bif (ltI 0 (gi d 0).int) then some [.i 1] else some [.i 0]))
def s_r2_sign:FSpec:=⟨33,[.s (.int .i64)],[],[],[.s (.int .i64)],[],[],[],F_r2_sign⟩
theorem b_r2_sign:BodyOK P t41 nL0 Tryz.f33 s_r2_sign:=fun d=>by kernel_rfl
theorem c_r2_sign:COK P s_r2_sign:=bdC hm t41_ok Tryz.func33 (nLk _ _ _) b_r2_sign
def t42:Tab:=t41.addP s_r2_sign
theorem t42_ok:TabOK P t42:=t41_ok.aP c_r2_sign

def F_r2_ContactOrder (d:List G):Option (List G) :=
 (bif ((gi (gi d 0).row 0).int != (gi (gi d 1).row 0).int) then (bif (inI ((gi (gi d 0).row 0).int-(gi (gi d 1).row 0).int)) then (callF (F_r2_sign [.i ((gi (gi d 0).row 0).int-(gi (gi d 1).row 0).int)]) fun g1=>some [.i (gi g1 0).int]) else none) else (bif (!((gi (gi d 0).row 3).str.toList==(gi (gi d 1).row 3).str.toList)) then (callF (F_strings_Compare [.s (gi (gi d 0).row 3).str,.s (gi (gi d 1).row 3).str]) fun g2=>some [.i (gi g2 0).int]) else (bif (!((gi (gi d 0).row 2).str.toList==(gi (gi d 1).row 2).str.toList)) then (callF (F_strings_Compare [.s (gi (gi d 0).row 2).str,.s (gi (gi d 1).row 2).str]) fun g3=>some [.i (gi g3 0).int]) else (bif (inI ((gi (gi d 0).row 1).int-(gi (gi d 1).row 1).int)) then (callF (F_r2_sign [.i ((gi (gi d 0).row 1).int-(gi (gi d 1).row 1).int)]) fun g4=>some [.i (gi g4 0).int]) else none))))
def s_r2_ContactOrder:FSpec:=⟨18,[.s (.row KCt),.s (.row KCt)],[],[],[.s (.int .i64)],[],[],[],F_r2_ContactOrder⟩
theorem b_r2_ContactOrder:BodyOK P t42 nL0 Tryz.f18 s_r2_ContactOrder:=fun d=>by kernel_rfl
theorem c_r2_ContactOrder:COK P s_r2_ContactOrder:=bdC hm t42_ok Tryz.func18 (nLk _ _ _) b_r2_ContactOrder
def t43:Tab:=t42.addP s_r2_ContactOrder
theorem t43_ok:TabOK P t43:=t42_ok.aP c_r2_ContactOrder

def st_insS_Contact_4 (d:List G):Option (Option Nat × List G) :=
 (bif (ltI (gi d 1).int (gi d 4).int) then (bif ((nnI (gi d 4).int)&&(ltI (gi d 4).int (((gi d 0).rows.length:Nat):Int))) then (bif (decide ((0+((gi d 4).int).toNat)<(gi d 0).rows.length)) then (bif (inI ((gi d 4).int-1)) then (bif ((nnI ((gi d 4).int-1))&&(ltI ((gi d 4).int-1) (((gi d 0).rows.length:Nat):Int))) then (bif (decide ((0+((gi d 4).int-1).toNat)<(gi d 0).rows.length)) then (callF (F_r2_ContactOrder [.l [(gEta KCt ((gi d 0).rows.getD (0+((gi d 4).int).toNat) []))],.l [(gEta KCt ((gi d 0).rows.getD (0+((gi d 4).int-1).toNat) []))]]) fun g1=>(bif (ltI (gi g1 0).int 0) then (bif (inI ((gi d 4).int-1)) then (bif (inI ((gi d 4).int-1)) then (bif ((nnI ((gi d 4).int-1))&&(ltI ((gi d 4).int-1) (((gi d 0).rows.length:Nat):Int))) then (bif (decide ((0+((gi d 4).int-1).toNat)<(gi d 0).rows.length)) then (bif ((nnI (gi d 4).int)&&(ltI (gi d 4).int (((gi d 0).rows.length:Nat):Int))) then (bif (decide ((0+((gi d 4).int).toNat)<(gi d 0).rows.length)) then (bif ((nnI (gi d 4).int)&&(ltI (gi d 4).int (((gi d 0).rows.length:Nat):Int))) then (bif (decide ((0+((gi d 4).int).toNat)<(gi d 0).rows.length)) then (bif ((nnI ((gi d 4).int-1))&&(ltI ((gi d 4).int-1) (((gi d 0).rows.length:Nat):Int))) then (bif (decide ((0+((gi d 4).int-1).toNat)<((gi d 0).rows.set (0+((gi d 4).int).toNat) (putG KCt ((gi d 0).rows.getD (0+((gi d 4).int).toNat) []) 0 (gEta KCt ((gi d 0).rows.getD (0+((gi d 4).int-1).toNat) [])))).length)) then (bif (inI ((gi d 4).int-1)) then (bif ((Nat.beq (gi d 0).rows.length (((gi d 0).rows.set (0+((gi d 4).int).toNat) (putG KCt ((gi d 0).rows.getD (0+((gi d 4).int).toNat) []) 0 (gEta KCt ((gi d 0).rows.getD (0+((gi d 4).int-1).toNat) [])))).set (0+((gi d 4).int-1).toNat) (putG KCt (((gi d 0).rows.set (0+((gi d 4).int).toNat) (putG KCt ((gi d 0).rows.getD (0+((gi d 4).int).toNat) []) 0 (gEta KCt ((gi d 0).rows.getD (0+((gi d 4).int-1).toNat) [])))).getD (0+((gi d 4).int-1).toNat) []) 0 (gEta KCt ((gi d 0).rows.getD (0+((gi d 4).int).toNat) [])))).length)&&true) then some (none,[.l (((gi d 0).rows.set (0+((gi d 4).int).toNat) (putG KCt ((gi d 0).rows.getD (0+((gi d 4).int).toNat) []) 0 (gEta KCt ((gi d 0).rows.getD (0+((gi d 4).int-1).toNat) [])))).set (0+((gi d 4).int-1).toNat) (putG KCt (((gi d 0).rows.set (0+((gi d 4).int).toNat) (putG KCt ((gi d 0).rows.getD (0+((gi d 4).int).toNat) []) 0 (gEta KCt ((gi d 0).rows.getD (0+((gi d 4).int-1).toNat) [])))).getD (0+((gi d 4).int-1).toNat) []) 0 (gEta KCt ((gi d 0).rows.getD (0+((gi d 4).int).toNat) [])))),.i (gi d 1).int,.i (gi d 2).int,.i (gi d 3).int,.i ((gi d 4).int-1)]) else none) else none) else none) else none) else none) else none) else none) else none) else none) else none) else none) else none) else (bif ((Nat.beq (gi d 0).rows.length (gi d 0).rows.length)&&true) then some (some 0,[.l (gi d 0).rows,.i (gi d 1).int,.i (gi d 2).int,.i (gi d 3).int]) else none))) else none) else none) else none) else none) else none) else (bif ((Nat.beq (gi d 0).rows.length (gi d 0).rows.length)&&true) then some (some 0,[.l (gi d 0).rows,.i (gi d 1).int,.i (gi d 2).int,.i (gi d 3).int]) else none))
def l_insS_Contact_4:LSpec:=⟨4,[],⟨53,[(0,.s (.vec 0 8)),(1,.s (.int .i64)),(2,.s (.int .i64)),(3,.s (.fn 18)),(8,.s (.int .i64)),(9,.s (.int .i64))],[.vec KCt 0]⟩,[.fix 0],[⟨.exit 2,⟨53,[(0,.s (.vec 0 8)),(1,.s (.int .i64)),(2,.s (.int .i64)),(3,.s (.fn 18)),(8,.s (.int .i64))],[.vec KCt 0]⟩,[.fix 0]⟩],st_insS_Contact_4⟩
theorem r_insS_Contact_4:RoundOK P t43 nL0 1 (loopAt Tryz.f60 4) l_insS_Contact_4:=fun d=>by kernel_rfl
def L_insS_Contact_4:LT:=nL0.add 1 l_insS_Contact_4
theorem L_insS_Contact_4_ok:LpK P 1 L_insS_Contact_4 (bodyOf Tryz.f60):=LpK.a hm t43_ok (nLk _ _ _) r_insS_Contact_4
def st_insS_Contact_1 (d:List G):Option (Option Nat × List G) :=
 (bif (ltI (gi d 3).int (gi d 2).int) then (loopB ((Nat.beq (gi d 0).rows.length (gi d 0).rows.length)&&true) (LRun st_insS_Contact_4 [.l (gi d 0).rows,.i (gi d 1).int,.i (gi d 2).int,.i (gi d 3).int,.i (gi d 3).int]) fun cg2 g2=>(bif (inI ((gi g2 3).int+1)) then (bif ((Nat.beq (gi g2 0).rows.length (gi g2 0).rows.length)&&true) then some (none,[.l (gi g2 0).rows,.i (gi g2 1).int,.i (gi g2 2).int,.i ((gi g2 3).int+1)]) else none) else none)) else some (some 0,[.l (gi d 0).rows]))
def l_insS_Contact_1:LSpec:=⟨1,[],⟨53,[(0,.s (.vec 0 8)),(1,.s (.int .i64)),(2,.s (.int .i64)),(3,.s (.fn 18)),(8,.s (.int .i64))],[.vec KCt 0]⟩,[.fix 0],[⟨.exit 0,⟨53,[],[.vec KCt 0]⟩,[.fix 0]⟩],st_insS_Contact_1⟩
theorem r_insS_Contact_1:RoundOK P t43 L_insS_Contact_4 1 (loopAt Tryz.f60 1) l_insS_Contact_1:=fun d=>by kernel_rfl
def L_insS_Contact_1:LT:=L_insS_Contact_4.add 1 l_insS_Contact_1
theorem L_insS_Contact_1_ok:LpK P 1 L_insS_Contact_1 (bodyOf Tryz.f60):=LpK.a hm t43_ok L_insS_Contact_4_ok r_insS_Contact_1
def F_insS_Contact (d:List G):Option (List G) :=
 (bif (inI ((gi d 1).int+1)) then (loopB ((Nat.beq (gi d 0).rows.length (gi d 0).rows.length)&&true) (LRun st_insS_Contact_1 [.l (gi d 0).rows,.i (gi d 1).int,.i (gi d 2).int,.i ((gi d 1).int+1)]) fun cg3 g3=>some [.l (gi g3 0).rows]) else none)
def s_insS_Contact:FSpec:=⟨60,[.s (.vec 0 8),.s (.int .i64),.s (.int .i64),.s (.fn 18)],[.vec KCt 0],[.slot 0],[],[.vec KCt 0],[.fix 0],[],F_insS_Contact⟩
theorem b_insS_Contact:BodyOK P t43 L_insS_Contact_1 Tryz.f60 s_insS_Contact:=fun d=>by kernel_rfl
theorem c_insS_Contact:COK P s_insS_Contact:=bdC hm t43_ok Tryz.func60 L_insS_Contact_1_ok b_insS_Contact
def t44:Tab:=t43.addW s_insS_Contact
theorem t44_ok:TabOK P t44:=t43_ok.aW c_insS_Contact

def st_stbS_Contact_2 (d:List G):Option (Option Nat × List G) :=
 (bif (leI (gi d 4).int (gi d 1).int) then (callB (((Nat.beq (gi d 0).rows.length (gi d 0).rows.length)&&true)&&(F_insS_Contact [.l (gi d 0).rows,.i (gi d 3).int,.i (gi d 4).int]).isSome) (F_insS_Contact [.l (gi d 0).rows,.i (gi d 3).int,.i (gi d 4).int]) fun g1=>(bif (inI ((gi d 4).int+(gi d 2).int)) then (bif ((Nat.beq (gi d 0).rows.length (gi g1 0).rows.length)&&true) then some (none,[.l (gi g1 0).rows,.i (gi d 1).int,.i (gi d 2).int,.i (gi d 4).int,.i ((gi d 4).int+(gi d 2).int)]) else none) else none)) else (bif ((Nat.beq (gi d 0).rows.length (gi d 0).rows.length)&&true) then some (some 0,[.l (gi d 0).rows,.i (gi d 1).int,.i (gi d 2).int,.i (gi d 3).int]) else none))
def l_stbS_Contact_2:LSpec:=⟨2,[],⟨63,[(0,.s (.vec 0 8)),(1,.s (.int .i64)),(2,.s (.fn 18)),(6,.s (.int .i64)),(7,.s (.int .i64)),(8,.s (.int .i64))],[.vec KCt 0]⟩,[.fix 0],[⟨.exit 0,⟨63,[(0,.s (.vec 0 8)),(1,.s (.int .i64)),(2,.s (.fn 18)),(6,.s (.int .i64)),(7,.s (.int .i64))],[.vec KCt 0]⟩,[.fix 0]⟩],st_stbS_Contact_2⟩
theorem r_stbS_Contact_2:RoundOK P t44 nL0 1 (loopAt Tryz.f32 2) l_stbS_Contact_2:=fun d=>by kernel_rfl
def L_stbS_Contact_2:LT:=nL0.add 1 l_stbS_Contact_2
theorem L_stbS_Contact_2_ok:LpK P 1 L_stbS_Contact_2 (bodyOf Tryz.f32):=LpK.a hm t44_ok (nLk _ _ _) r_stbS_Contact_2
def st_stbS_Contact_9 (d:List G):Option (Option Nat × List G) :=
 (bif (leI (gi d 4).int (gi d 1).int) then (bif (inI ((gi d 3).int+(gi d 2).int)) then none else none) else (bif ((Nat.beq (gi d 0).rows.length (gi d 0).rows.length)&&true) then some (some 0,[.l (gi d 0).rows,.i (gi d 1).int,.i (gi d 2).int,.i (gi d 3).int]) else none))
def l_stbS_Contact_9:LSpec:=⟨9,[],⟨63,[(0,.s (.vec 0 8)),(1,.s (.int .i64)),(2,.s (.fn 18)),(6,.s (.int .i64)),(7,.s (.int .i64)),(8,.s (.int .i64))],[.vec KCt 0]⟩,[.fix 0],[⟨.exit 4,⟨63,[(0,.s (.vec 0 8)),(1,.s (.int .i64)),(2,.s (.fn 18)),(6,.s (.int .i64)),(7,.s (.int .i64))],[.vec KCt 0]⟩,[.fix 0]⟩],st_stbS_Contact_9⟩
theorem r_stbS_Contact_9:RoundOK P t44 L_stbS_Contact_2 1 (loopAt Tryz.f32 9) l_stbS_Contact_9:=fun d=>by kernel_rfl
def L_stbS_Contact_9:LT:=L_stbS_Contact_2.add 1 l_stbS_Contact_9
theorem L_stbS_Contact_9_ok:LpK P 1 L_stbS_Contact_9 (bodyOf Tryz.f32):=LpK.a hm t44_ok L_stbS_Contact_2_ok r_stbS_Contact_9
def st_stbS_Contact_7 (d:List G):Option (Option Nat × List G) :=
 (bif (ltI (gi d 2).int (gi d 1).int) then (bif (inI (2*(gi d 2).int)) then (loopB ((Nat.beq (gi d 0).rows.length (gi d 0).rows.length)&&true) (LRun st_stbS_Contact_9 [.l (gi d 0).rows,.i (gi d 1).int,.i (gi d 2).int,.i 0,.i (2*(gi d 2).int)]) fun cg4 g4=>(bif (inI ((gi g4 3).int+(gi g4 2).int)) then (bif (ltI ((gi g4 3).int+(gi g4 2).int) (gi g4 1).int) then none else (bif (inI ((gi g4 2).int*2)) then (bif ((Nat.beq (gi g4 0).rows.length (gi g4 0).rows.length)&&true) then some (none,[.l (gi g4 0).rows,.i (gi g4 1).int,.i ((gi g4 2).int*2)]) else none) else none)) else none)) else none) else some (some 0,[.l (gi d 0).rows]))
def l_stbS_Contact_7:LSpec:=⟨7,[],⟨63,[(0,.s (.vec 0 8)),(1,.s (.int .i64)),(2,.s (.fn 18)),(6,.s (.int .i64))],[.vec KCt 0]⟩,[.fix 0],[⟨.exit 2,⟨63,[],[.vec KCt 0]⟩,[.fix 0]⟩],st_stbS_Contact_7⟩
theorem r_stbS_Contact_7:RoundOK P t44 L_stbS_Contact_9 1 (loopAt Tryz.f32 7) l_stbS_Contact_7:=fun d=>by kernel_rfl
def L_stbS_Contact_7:LT:=L_stbS_Contact_9.add 1 l_stbS_Contact_7
theorem L_stbS_Contact_7_ok:LpK P 1 L_stbS_Contact_7 (bodyOf Tryz.f32):=LpK.a hm t44_ok L_stbS_Contact_9_ok r_stbS_Contact_7
def F_stbS_Contact (d:List G):Option (List G) :=
 (loopB ((Nat.beq (gi d 0).rows.length (gi d 0).rows.length)&&true) (LRun st_stbS_Contact_2 [.l (gi d 0).rows,.i (gi d 1).int,.i 20,.i 0,.i 20]) fun cg2 g2=>(callB (((Nat.beq (gi g2 0).rows.length (gi g2 0).rows.length)&&true)&&(F_insS_Contact [.l (gi g2 0).rows,.i (gi g2 3).int,.i (gi g2 1).int]).isSome) (F_insS_Contact [.l (gi g2 0).rows,.i (gi g2 3).int,.i (gi g2 1).int]) fun g3=>(loopB ((Nat.beq (gi g2 0).rows.length (gi g3 0).rows.length)&&true) (LRun st_stbS_Contact_7 [.l (gi g3 0).rows,.i (gi g2 1).int,.i (gi g2 2).int]) fun cg5 g5=>some [.l (gi g5 0).rows])))
def s_stbS_Contact:FSpec:=⟨32,[.s (.vec 0 8),.s (.int .i64),.s (.fn 18)],[.vec KCt 0],[.slot 0],[],[.vec KCt 0],[.fix 0],[],F_stbS_Contact⟩
theorem b_stbS_Contact:BodyOK P t44 L_stbS_Contact_7 Tryz.f32 s_stbS_Contact:=fun d=>by kernel_rfl
theorem c_stbS_Contact:COK P s_stbS_Contact:=bdC hm t44_ok Tryz.func32 L_stbS_Contact_7_ok b_stbS_Contact
def t45:Tab:=t44.addW s_stbS_Contact
theorem t45_ok:TabOK P t45:=t44_ok.aW c_stbS_Contact

def F_srtS_Contact (d:List G):Option (List G) :=
 (callB (((Nat.beq (gi d 0).rows.length (gi d 0).rows.length)&&true)&&(F_stbS_Contact [.l (gi d 0).rows,.i (((gi d 0).rows.length:Nat):Int)]).isSome) (F_stbS_Contact [.l (gi d 0).rows,.i (((gi d 0).rows.length:Nat):Int)]) fun g1=>some [.l (gi g1 0).rows])
def s_srtS_Contact:FSpec:=⟨17,[.s (.vec 0 8),.s (.fn 18)],[.vec KCt 0],[.slot 0],[],[.vec KCt 0],[.fix 0],[],F_srtS_Contact⟩
theorem b_srtS_Contact:BodyOK P t45 nL0 Tryz.f17 s_srtS_Contact:=fun d=>by kernel_rfl
theorem c_srtS_Contact:COK P s_srtS_Contact:=bdC hm t45_ok Tryz.func17 (nLk _ _ _) b_srtS_Contact
def t46:Tab:=t45.addW s_srtS_Contact
theorem t46_ok:TabOK P t46:=t45_ok.aW c_srtS_Contact

def F_mk_RightSheets_1 (d:List G):Option (List G) :=
 (callF (F_r2_ContactOrder [.l [(gEta KCt (gi d 0).row)],.l [(gEta KCt (gi d 1).row)]]) fun g1=>some [.t ((gi g1 0).int==0)])
def s_mk_RightSheets_1:FSpec:=⟨20,[.s (.row KCt),.s (.row KCt)],[],[],[.s (.bool)],[],[],[],F_mk_RightSheets_1⟩
theorem b_mk_RightSheets_1:BodyOK P t46 nL0 Tryz.f20 s_mk_RightSheets_1:=fun d=>by kernel_rfl
theorem c_mk_RightSheets_1:COK P s_mk_RightSheets_1:=bdC hm t46_ok Tryz.func20 (nLk _ _ _) b_mk_RightSheets_1
def t47:Tab:=t46.addP s_mk_RightSheets_1
theorem t47_ok:TabOK P t47:=t46_ok.aP c_mk_RightSheets_1

def st_sl_CompactFunc_Contact_9 (d:List G):Option (Option Nat × List G) :=
 (bif (ltI (gi d 4).int (((gi d 3).int.toNat:Nat):Int)) then (bif ((nnI (gi d 4).int)&&(ltI (gi d 4).int (((gi d 3).int.toNat:Nat):Int))) then (bif (decide (((gi d 2).int.toNat+((gi d 4).int).toNat)<(gi d 0).rows.length)) then (bif (inI ((gi d 4).int-1)) then (bif ((nnI ((gi d 4).int-1))&&(ltI ((gi d 4).int-1) (((gi d 3).int.toNat:Nat):Int))) then (bif (decide (((gi d 2).int.toNat+((gi d 4).int-1).toNat)<(gi d 0).rows.length)) then (callF (F_mk_RightSheets_1 [.l [(gEta KCt ((gi d 0).rows.getD ((gi d 2).int.toNat+((gi d 4).int).toNat) []))],.l [(gEta KCt ((gi d 0).rows.getD ((gi d 2).int.toNat+((gi d 4).int-1).toNat) []))]]) fun g2=>(bif (!(gi g2 0).bool) then (bif ((nnI (gi d 4).int)&&(ltI (gi d 4).int (((gi d 3).int.toNat:Nat):Int))) then (bif (decide (((gi d 2).int.toNat+((gi d 4).int).toNat)<(gi d 0).rows.length)) then (bif ((nnI (gi d 1).int)&&(ltI (gi d 1).int (((gi d 0).rows.length:Nat):Int))) then (bif (decide ((0+((gi d 1).int).toNat)<(gi d 0).rows.length)) then (bif (inI ((gi d 1).int+1)) then (bif (inI ((gi d 4).int+1)) then (bif ((Nat.beq (gi d 0).rows.length ((gi d 0).rows.set (0+((gi d 1).int).toNat) (putG KCt ((gi d 0).rows.getD (0+((gi d 1).int).toNat) []) 0 (gEta KCt ((gi d 0).rows.getD ((gi d 2).int.toNat+((gi d 4).int).toNat) [])))).length)&&true) then some (none,[.l ((gi d 0).rows.set (0+((gi d 1).int).toNat) (putG KCt ((gi d 0).rows.getD (0+((gi d 1).int).toNat) []) 0 (gEta KCt ((gi d 0).rows.getD ((gi d 2).int.toNat+((gi d 4).int).toNat) [])))),.i ((gi d 1).int+1),.i (((gi d 2).int.toNat:Nat):Int),.i (((gi d 3).int.toNat:Nat):Int),.i ((gi d 4).int+1)]) else none) else none) else none) else none) else none) else none) else none) else (bif (inI ((gi d 4).int+1)) then (bif ((Nat.beq (gi d 0).rows.length (gi d 0).rows.length)&&true) then some (none,[.l (gi d 0).rows,.i (gi d 1).int,.i (((gi d 2).int.toNat:Nat):Int),.i (((gi d 3).int.toNat:Nat):Int),.i ((gi d 4).int+1)]) else none) else none))) else none) else none) else none) else none) else none) else (bif ((Nat.beq (gi d 0).rows.length (gi d 0).rows.length)&&true) then some (some 0,[.l (gi d 0).rows,.i (gi d 1).int]) else none))
def l_sl_CompactFunc_Contact_9:LSpec:=⟨9,[],⟨66,[(0,.s (.vec 0 8)),(1,.s (.fn 20)),(5,.s (.int .i64)),(6,.s (.sub 0 8)),(7,.s (.int .i64))],[.vec KCt 0]⟩,[.fix 0],[⟨.exit 2,⟨66,[(0,.s (.vec 0 8)),(5,.s (.int .i64))],[.vec KCt 0]⟩,[.fix 0]⟩],st_sl_CompactFunc_Contact_9⟩
theorem r_sl_CompactFunc_Contact_9:RoundOK P t47 nL0 1 (loopAt Tryz.f19 9) l_sl_CompactFunc_Contact_9:=fun d=>by kernel_rfl
def L_sl_CompactFunc_Contact_9:LT:=nL0.add 1 l_sl_CompactFunc_Contact_9
theorem L_sl_CompactFunc_Contact_9_ok:LpK P 1 L_sl_CompactFunc_Contact_9 (bodyOf Tryz.f19):=LpK.a hm t47_ok (nLk _ _ _) r_sl_CompactFunc_Contact_9
def st_sl_CompactFunc_Contact_4 (d:List G):Option (Option Nat × List G) :=
 (bif (ltI (gi d 1).int (((gi d 0).rows.length:Nat):Int)) then (bif ((nnI (gi d 1).int)&&(ltI (gi d 1).int (((gi d 0).rows.length:Nat):Int))) then (bif (decide ((0+((gi d 1).int).toNat)<(gi d 0).rows.length)) then (bif (inI ((gi d 1).int-1)) then (bif ((nnI ((gi d 1).int-1))&&(ltI ((gi d 1).int-1) (((gi d 0).rows.length:Nat):Int))) then (bif (decide ((0+((gi d 1).int-1).toNat)<(gi d 0).rows.length)) then (callF (F_mk_RightSheets_1 [.l [(gEta KCt ((gi d 0).rows.getD (0+((gi d 1).int).toNat) []))],.l [(gEta KCt ((gi d 0).rows.getD (0+((gi d 1).int-1).toNat) []))]]) fun g1=>(bif (gi g1 0).bool then (bif ((nnI (gi d 1).int)&&(leI (gi d 1).int (((gi d 0).rows.length:Nat):Int))) then (loopB ((Nat.beq (gi d 0).rows.length (gi d 0).rows.length)&&true) (LRun st_sl_CompactFunc_Contact_9 [.l (gi d 0).rows,.i (gi d 1).int,.i (((0+((gi d 1).int).toNat):Nat):Int),.i ((((gi d 0).rows.length-((gi d 1).int).toNat):Nat):Int),.i 1]) fun cg3 g3=>(bif ((nnI (gi g3 1).int)&&(leI (gi g3 1).int (((gi g3 0).rows.length:Nat):Int))) then (bif (Nat.ble ((0+((gi g3 1).int).toNat)+((gi g3 0).rows.length-((gi g3 1).int).toNat)) (gi g3 0).rows.length) then (bif ((nnI (gi g3 1).int)&&(leI (gi g3 1).int (((gi g3 0).rows.length:Nat):Int))) then some (some 0,[.l ((gi g3 0).rows.take (0+((gi g3 1).int).toNat)++List.replicate ((gi g3 0).rows.length-((gi g3 1).int).toNat) [.i 0,.i 0,.s (⟨#[]⟩:ByteArray),.s (⟨#[]⟩:ByteArray),.i 0,.i 0,.s (⟨#[]⟩:ByteArray),.s (⟨#[]⟩:ByteArray)]++(gi g3 0).rows.drop ((0+((gi g3 1).int).toNat)+((gi g3 0).rows.length-((gi g3 1).int).toNat))),.i (((((gi g3 1).int).toNat-0):Nat):Int)]) else none) else none) else none)) else none) else (bif (inI ((gi d 1).int+1)) then (bif ((Nat.beq (gi d 0).rows.length (gi d 0).rows.length)&&true) then some (none,[.l (gi d 0).rows,.i ((gi d 1).int+1)]) else none) else none))) else none) else none) else none) else none) else none) else (bif ((Nat.beq (gi d 0).rows.length (gi d 0).rows.length)&&true) then some (some 1,[.l (gi d 0).rows]) else none))
def l_sl_CompactFunc_Contact_4:LSpec:=⟨4,[],⟨66,[(0,.s (.vec 0 8)),(1,.s (.fn 20)),(5,.s (.int .i64))],[.vec KCt 0]⟩,[.fix 0],[⟨.ret,⟨66,[(4,.s (.pre 0 8))],[.vec KCt 0]⟩,[.fix 0]⟩,⟨.exit 0,⟨66,[(0,.s (.vec 0 8))],[.vec KCt 0]⟩,[.fix 0]⟩],st_sl_CompactFunc_Contact_4⟩
theorem r_sl_CompactFunc_Contact_4:RoundOK P t47 L_sl_CompactFunc_Contact_9 1 (loopAt Tryz.f19 4) l_sl_CompactFunc_Contact_4:=fun d=>by kernel_rfl
def L_sl_CompactFunc_Contact_4:LT:=L_sl_CompactFunc_Contact_9.add 1 l_sl_CompactFunc_Contact_4
theorem L_sl_CompactFunc_Contact_4_ok:LpK P 1 L_sl_CompactFunc_Contact_4 (bodyOf Tryz.f19):=LpK.a hm t47_ok L_sl_CompactFunc_Contact_9_ok r_sl_CompactFunc_Contact_4
def F_sl_CompactFunc_Contact (d:List G):Option (List G) :=
 (bif (ltI (((gi d 0).rows.length:Nat):Int) 2) then some [.l (gi d 0).rows,.i (((gi d 0).rows.length:Nat):Int)] else (loopB ((Nat.beq (gi d 0).rows.length (gi d 0).rows.length)&&true) (LRun st_sl_CompactFunc_Contact_4 [.l (gi d 0).rows,.i 1]) fun cg4 g4=>(bif Nat.beq cg4 0 then some [.l (gi g4 0).rows,.i (((gi g4 1).int.toNat:Nat):Int)] else some [.l (gi g4 0).rows,.i (((gi g4 0).rows.length:Nat):Int)])))
def s_sl_CompactFunc_Contact:FSpec:=⟨19,[.s (.vec 0 8),.s (.fn 20)],[.vec KCt 0],[.slot 0],[.s (.pre 0 8)],[.vec KCt 0],[.fix 0],[],F_sl_CompactFunc_Contact⟩
theorem b_sl_CompactFunc_Contact:BodyOK P t47 L_sl_CompactFunc_Contact_4 Tryz.f19 s_sl_CompactFunc_Contact:=fun d=>by kernel_rfl
theorem c_sl_CompactFunc_Contact:COK P s_sl_CompactFunc_Contact:=bdC hm t47_ok Tryz.func19 L_sl_CompactFunc_Contact_4_ok b_sl_CompactFunc_Contact
def t48:Tab:=t47.addW s_sl_CompactFunc_Contact
theorem t48_ok:TabOK P t48:=t47_ok.aW c_sl_CompactFunc_Contact

end
end Go.Proofs.SYtioeckojljemcaaGreatDoor
