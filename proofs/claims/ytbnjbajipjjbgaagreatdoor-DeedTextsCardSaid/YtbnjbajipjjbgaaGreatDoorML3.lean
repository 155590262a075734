/-
 What is proved here: functions of the program as functions on data. No condition.
-/
import Derived.Test.YtbnjbajipjjbgaaGreatDoorML2
set_option linter.all false
namespace Go.Proofs.SYtbnjbajipjjbgaaGreatDoor
open Go Go.AL Go.Proofs
noncomputable section
def F_kit_IsKey (d:List G):Option (List G) :=
 (bif (!((gi d 0).str.toList==(⟨#[]⟩:ByteArray).toList)) then (bif (leI (((gi d 0).str.size:Nat):Int) 40) then (bif (ltI 0 (((gi d 0).str.size:Nat):Int)) then (callF (F_strings_IndexByte [.s (⟨#[97,98,99,100,101,102,103,104,105,106,107,108,109,110,111,112,113,114,115,116,117,118,119,120,121,122]⟩:ByteArray),.i (((gi d 0).str.data.toList.getD 0 0).toNat:Int)]) fun g1=>(bif (leI 0 (gi g1 0).int) then (callF (F_strings_Trim [.s (gi d 0).str,.s (⟨#[97,98,99,100,101,102,103,104,105,106,107,108,109,110,111,112,113,114,115,116,117,118,119,120,121,122,48,49,50,51,52,53,54,55,56,57,45,95]⟩:ByteArray)]) fun g2=>some [.t ((gi g2 0).str.toList==(⟨#[]⟩:ByteArray).toList)]) else some [.t false])) else none) else some [.t false]) else some [.t false])
def s_kit_IsKey:FSpec:=⟨83,[.s (.str)],[],[],[.s (.bool)],[],[],[],F_kit_IsKey⟩
theorem b_kit_IsKey:BodyOK P t48 nL0 Tryz.f83 s_kit_IsKey:=fun d=>by kernel_rfl
theorem c_kit_IsKey:COK P s_kit_IsKey:=bdC hm t48_ok Tryz.func83 (nLk _ _ _) b_kit_IsKey
def t49:Tab:=t48.addP s_kit_IsKey
theorem t49_ok:TabOK P t49:=t48_ok.aP c_kit_IsKey

def F_kit_Outside (d:List G):Option (List G) :=
 (bif (ltI (gi d 0).int (gi d 1).int) then some [.t true] else some [.t (ltI (gi d 2).int (gi d 0).int)])
def s_kit_Outside:FSpec:=⟨84,[.s (.int .i64),.s (.int .i64),.s (.int .i64)],[],[],[.s (.bool)],[],[],[],F_kit_Outside⟩
theorem b_kit_Outside:BodyOK P t49 nL0 Tryz.f84 s_kit_Outside:=fun d=>by kernel_rfl
theorem c_kit_Outside:COK P s_kit_Outside:=bdC hm t49_ok Tryz.func84 (nLk _ _ _) b_kit_Outside
def t50:Tab:=t49.addP s_kit_Outside
theorem t50_ok:TabOK P t50:=t49_ok.aP c_kit_Outside

def F_kit_IsMoment (d:List G):Option (List G) :=
 (callF (F_kit_Outside [.i (gi d 0).int,.i 0,.i 345686399999]) fun g1=>some [.t (!(gi g1 0).bool)])
def s_kit_IsMoment:FSpec:=⟨85,[.s (.int .i64)],[],[],[.s (.bool)],[],[],[],F_kit_IsMoment⟩
theorem b_kit_IsMoment:BodyOK P t50 nL0 Tryz.f85 s_kit_IsMoment:=fun d=>by kernel_rfl
theorem c_kit_IsMoment:COK P s_kit_IsMoment:=bdC hm t50_ok Tryz.func85 (nLk _ _ _) b_kit_IsMoment
def t51:Tab:=t50.addP s_kit_IsMoment
theorem t51_ok:TabOK P t51:=t50_ok.aP c_kit_IsMoment

def F_kit_IsMode (d:List G):Option (List G) :=
 (callF (F_kit_Outside [.i (gi d 0).int,.i 1,.i 3]) fun g1=>some [.t (!(gi g1 0).bool)])
def s_kit_IsMode:FSpec:=⟨173,[.s (.int .i64)],[],[],[.s (.bool)],[],[],[],F_kit_IsMode⟩
theorem b_kit_IsMode:BodyOK P t51 nL0 Tryz.f173 s_kit_IsMode:=fun d=>by kernel_rfl
theorem c_kit_IsMode:COK P s_kit_IsMode:=bdC hm t51_ok Tryz.func173 (nLk _ _ _) b_kit_IsMode
def t52:Tab:=t51.addP s_kit_IsMode
theorem t52_ok:TabOK P t52:=t51_ok.aP c_kit_IsMode

def F_call_isLetter (d:List G):Option (List G) :=
 (bif (leI 97 (gi d 0).int) then some [.t (leI (gi d 0).int 122)] else some [.t false])
def s_call_isLetter:FSpec:=⟨214,[.s (.int .u8)],[],[],[.s (.bool)],[],[],[],F_call_isLetter⟩
theorem b_call_isLetter:BodyOK P t52 nL0 Tryz.f214 s_call_isLetter:=fun d=>by kernel_rfl
theorem c_call_isLetter:COK P s_call_isLetter:=bdC hm t52_ok Tryz.func214 (nLk _ _ _) b_call_isLetter
def t53:Tab:=t52.addP s_call_isLetter
theorem t53_ok:TabOK P t53:=t52_ok.aP c_call_isLetter

def F_call_isDigit (d:List G):Option (List G) :=
 (bif (leI 48 (gi d 0).int) then some [.t (leI (gi d 0).int 57)] else some [.t false])
def s_call_isDigit:FSpec:=⟨213,[.s (.int .u8)],[],[],[.s (.bool)],[],[],[],F_call_isDigit⟩
theorem b_call_isDigit:BodyOK P t53 nL0 Tryz.f213 s_call_isDigit:=fun d=>by kernel_rfl
theorem c_call_isDigit:COK P s_call_isDigit:=bdC hm t53_ok Tryz.func213 (nLk _ _ _) b_call_isDigit
def t54:Tab:=t53.addP s_call_isDigit
theorem t54_ok:TabOK P t54:=t53_ok.aP c_call_isDigit

def st_call_isPlain_2 (d:List G):Option (Option Nat × List G) :=
 (bif (ltI (gi d 3).int (gi d 2).int) then (bif ((nnI (gi d 3).int)&&(ltI (gi d 3).int (((gi d 0).str.size:Nat):Int))) then (callF (F_call_isLetter [.i (((gi d 0).str.data.toList.getD (((gi d 3).int).toNat) 0).toNat:Int)]) fun g1=>(bif (gi g1 0).bool then (bif (inI ((gi d 1).int+1)) then (bif (inI ((gi d 3).int+1)) then some (none,[.s (gi d 0).str,.i ((gi d 1).int+1),.i (gi d 2).int,.i ((gi d 3).int+1)]) else none) else none) else (bif ((nnI (gi d 3).int)&&(ltI (gi d 3).int (((gi d 0).str.size:Nat):Int))) then (callF (F_call_isDigit [.i (((gi d 0).str.data.toList.getD (((gi d 3).int).toNat) 0).toNat:Int)]) fun g2=>(bif (!(gi g2 0).bool) then some (some 0,[.i 0,.t false]) else (bif (inI ((gi d 3).int+1)) then some (none,[.s (gi d 0).str,.i (gi d 1).int,.i (gi d 2).int,.i ((gi d 3).int+1)]) else none))) else none))) else none) else some (some 1,[.i (gi d 1).int]))
def l_call_isPlain_2:LSpec:=⟨2,[],⟨25,[(0,.s (.str)),(2,.s (.int .i64)),(6,.s (.int .i64)),(7,.s (.int .i64))],[]⟩,[],[⟨.ret,⟨25,[(2,.s (.int .i64)),(3,.s (.bool))],[]⟩,[]⟩,⟨.exit 0,⟨25,[(2,.s (.int .i64))],[]⟩,[]⟩],st_call_isPlain_2⟩
theorem r_call_isPlain_2:RoundOK P t54 nL0 0 (loopAt Tryz.f212 2) l_call_isPlain_2:=fun d=>by kernel_rfl
def L_call_isPlain_2:LT:=nL0.add 0 l_call_isPlain_2
theorem L_call_isPlain_2_ok:LpK P 0 L_call_isPlain_2 (bodyOf Tryz.f212):=LpK.a hm t54_ok (nLk _ _ _) r_call_isPlain_2
def F_call_isPlain (d:List G):Option (List G) :=
 (loopB true (LRun st_call_isPlain_2 [.s (gi d 0).str,.i 0,.i (((gi d 0).str.size:Nat):Int),.i 0]) fun cg3 g3=>(bif Nat.beq cg3 0 then some [.i (gi g3 0).int,.t (gi g3 1).bool] else some [.i (gi g3 0).int,.t true]))
def s_call_isPlain:FSpec:=⟨212,[.s (.str)],[],[],[.s (.int .i64),.s (.bool)],[],[],[],F_call_isPlain⟩
theorem b_call_isPlain:BodyOK P t54 L_call_isPlain_2 Tryz.f212 s_call_isPlain:=fun d=>by kernel_rfl
theorem c_call_isPlain:COK P s_call_isPlain:=bdC hm t54_ok Tryz.func212 L_call_isPlain_2_ok b_call_isPlain
def t55:Tab:=t54.addP s_call_isPlain
theorem t55_ok:TabOK P t55:=t54_ok.aP c_call_isPlain

def F_call_split (d:List G):Option (List G) :=
 (callF (F_call_isPlain [.s (gi d 0).str]) fun g1=>(bif (!(gi g1 1).bool) then some [.i 0,.t false] else (bif (ltI 10 (((gi d 0).str.size:Nat):Int)) then some [.i 0,.t false] else (callF (F_strings_LastIndexAny [.s (gi d 0).str,.s (⟨#[48,49,50,51,52,53,54,55,56,57]⟩:ByteArray)]) fun g2=>(bif (ltI (gi g2 0).int 1) then some [.i 0,.t false] else (bif (ltI 3 (gi g2 0).int) then some [.i 0,.t false] else (bif (inI ((((gi d 0).str.size:Nat):Int)-(gi g2 0).int)) then (bif (inI (((((gi d 0).str.size:Nat):Int)-(gi g2 0).int)-1)) then (bif (ltI (((((gi d 0).str.size:Nat):Int)-(gi g2 0).int)-1) 1) then some [.i 0,.t false] else (bif (inI ((((gi d 0).str.size:Nat):Int)-(gi g2 0).int)) then (bif (inI (((((gi d 0).str.size:Nat):Int)-(gi g2 0).int)-1)) then (bif (ltI 4 (((((gi d 0).str.size:Nat):Int)-(gi g2 0).int)-1)) then some [.i 0,.t false] else (bif ((nnI (gi g2 0).int)&&(leI (gi g2 0).int (((gi d 0).str.size:Nat):Int))) then (callF (F_call_isPlain [.s ((gi d 0).str.extract 0 ((gi g2 0).int).toNat)]) fun g3=>some [.i (gi g2 0).int,.t (ltI 0 (gi g3 0).int)]) else none)) else none) else none)) else none) else none)))))))
def s_call_split:FSpec:=⟨211,[.s (.str)],[],[],[.s (.int .i64),.s (.bool)],[],[],[],F_call_split⟩
theorem b_call_split:BodyOK P t55 nL0 Tryz.f211 s_call_split:=fun d=>by kernel_rfl
theorem c_call_split:COK P s_call_split:=bdC hm t55_ok Tryz.func211 (nLk _ _ _) b_call_split
def t56:Tab:=t55.addP s_call_split
theorem t56_ok:TabOK P t56:=t55_ok.aP c_call_split

def F_call_based (d:List G):Option (List G) :=
 (callF (F_call_split [.s (gi d 0).str]) fun g1=>(bif (!(gi g1 1).bool) then some [.l [[.s (⟨#[]⟩:ByteArray),.s (⟨#[]⟩:ByteArray),.s (⟨#[]⟩:ByteArray),.i 0,.s (⟨#[]⟩:ByteArray)]],.t false] else (bif (inI ((gi g1 0).int+1)) then (bif ((nnI ((gi g1 0).int+1))&&(leI ((gi g1 0).int+1) (((gi d 0).str.size:Nat):Int))) then (bif (inI ((gi g1 0).int+1)) then (bif ((nnI ((gi g1 0).int+1))&&(leI ((gi g1 0).int+1) (((gi d 0).str.size:Nat):Int))) then some [.l [[.s (gi d 0).str,.s ((gi d 0).str.extract 0 ((gi g1 0).int+1).toNat),.s ((gi d 0).str.extract ((gi g1 0).int+1).toNat (gi d 0).str.size),.i 0,.s (⟨#[]⟩:ByteArray)]],.t true] else none) else none) else none) else none)))
def s_call_based:FSpec:=⟨207,[.s (.str)],[],[],[.s (.row KParts),.s (.bool)],[],[],[],F_call_based⟩
theorem b_call_based:BodyOK P t56 nL0 Tryz.f207 s_call_based:=fun d=>by kernel_rfl
theorem c_call_based:COK P s_call_based:=bdC hm t56_ok Tryz.func207 (nLk _ _ _) b_call_based
def t57:Tab:=t56.addP s_call_based
theorem t57_ok:TabOK P t57:=t56_ok.aP c_call_based

def F_call_isBegin (d:List G):Option (List G) :=
 (callF (F_call_isPlain [.s (gi d 0).str]) fun g1=>(bif (gi g1 1).bool then (bif (ltI 0 (gi g1 0).int) then some [.t (leI (((gi d 0).str.size:Nat):Int) 4)] else some [.t false]) else some [.t false]))
def s_call_isBegin:FSpec:=⟨208,[.s (.str)],[],[],[.s (.bool)],[],[],[],F_call_isBegin⟩
theorem b_call_isBegin:BodyOK P t57 nL0 Tryz.f208 s_call_isBegin:=fun d=>by kernel_rfl
theorem c_call_isBegin:COK P s_call_isBegin:=bdC hm t57_ok Tryz.func208 (nLk _ _ _) b_call_isBegin
def t58:Tab:=t57.addP s_call_isBegin
theorem t58_ok:TabOK P t58:=t57_ok.aP c_call_isBegin

def F_call_tail (d:List G):Option (List G) :=
 (bif ((gi d 0).str.toList==(⟨#[112]⟩:ByteArray).toList) then some [.i 3,.s (⟨#[]⟩:ByteArray),.t true] else (bif ((gi d 0).str.toList==(⟨#[109]⟩:ByteArray).toList) then some [.i 4,.s (⟨#[]⟩:ByteArray),.t true] else (bif ((gi d 0).str.toList==(⟨#[109,109]⟩:ByteArray).toList) then some [.i 5,.s (⟨#[]⟩:ByteArray),.t true] else (bif ((gi d 0).str.toList==(⟨#[97,109]⟩:ByteArray).toList) then some [.i 6,.s (⟨#[]⟩:ByteArray),.t true] else (bif ((((gi d 0).str.size:Nat):Int)==1) then (bif (ltI 0 (((gi d 0).str.size:Nat):Int)) then (callF (F_call_isDigit [.i (((gi d 0).str.data.toList.getD 0 0).toNat:Int)]) fun g1=>(bif (gi g1 0).bool then some [.i 2,.s (gi d 0).str,.t true] else (callF (F_call_isBegin [.s (gi d 0).str]) fun g2=>some [.i 1,.s (gi d 0).str,.t (gi g2 0).bool]))) else none) else (callF (F_call_isBegin [.s (gi d 0).str]) fun g3=>some [.i 1,.s (gi d 0).str,.t (gi g3 0).bool]))))))
def s_call_tail:FSpec:=⟨209,[.s (.str)],[],[],[.s (.int .i64),.s (.str),.s (.bool)],[],[],[],F_call_tail⟩
theorem b_call_tail:BodyOK P t58 nL0 Tryz.f209 s_call_tail:=fun d=>by kernel_rfl
theorem c_call_tail:COK P s_call_tail:=bdC hm t58_ok Tryz.func209 (nLk _ _ _) b_call_tail
def t59:Tab:=t58.addP s_call_tail
theorem t59_ok:TabOK P t59:=t58_ok.aP c_call_tail

def F_call_Parts (d:List G):Option (List G) :=
 (bif (ltI 14 (((gi d 0).str.size:Nat):Int)) then some [.l [[.s (⟨#[]⟩:ByteArray),.s (⟨#[]⟩:ByteArray),.s (⟨#[]⟩:ByteArray),.i 0,.s (⟨#[]⟩:ByteArray)]],.t false] else (callF (F_call_based [.s (gi d 0).str]) fun g1=>(bif (gi g1 1).bool then some [.l [(gEta KParts (gi g1 0).row)],.t true] else (callF (F_strings_Cut [.s (gi d 0).str,.s (⟨#[47]⟩:ByteArray)]) fun g2=>(bif (!(gi g2 2).bool) then some [.l [[.s (⟨#[]⟩:ByteArray),.s (⟨#[]⟩:ByteArray),.s (⟨#[]⟩:ByteArray),.i 0,.s (⟨#[]⟩:ByteArray)]],.t false] else (callF (F_call_based [.s (gi g2 1).str]) fun g3=>(bif (gi g3 1).bool then (callF (F_call_isBegin [.s (gi g2 0).str]) fun g4=>(bif (gi g4 0).bool then some [.l [[.s (gi (gi g3 0).row 0).str,.s (gi (gi g3 0).row 1).str,.s (gi (gi g3 0).row 2).str,.i 1,.s (gi g2 0).str]],.t true] else (callF (F_call_based [.s (gi g2 0).str]) fun g5=>(callF (F_call_tail [.s (gi g2 1).str]) fun g6=>(bif (!(gi g5 1).bool) then some [.l [[.s (⟨#[]⟩:ByteArray),.s (⟨#[]⟩:ByteArray),.s (⟨#[]⟩:ByteArray),.i 0,.s (⟨#[]⟩:ByteArray)]],.t false] else (bif (!(gi g6 2).bool) then some [.l [[.s (⟨#[]⟩:ByteArray),.s (⟨#[]⟩:ByteArray),.s (⟨#[]⟩:ByteArray),.i 0,.s (⟨#[]⟩:ByteArray)]],.t false] else some [.l [[.s (gi (gi g5 0).row 0).str,.s (gi (gi g5 0).row 1).str,.s (gi (gi g5 0).row 2).str,.i (gi g6 0).int,.s (gi g6 1).str]],.t true])))))) else (callF (F_call_based [.s (gi g2 0).str]) fun g7=>(callF (F_call_tail [.s (gi g2 1).str]) fun g8=>(bif (!(gi g7 1).bool) then some [.l [[.s (⟨#[]⟩:ByteArray),.s (⟨#[]⟩:ByteArray),.s (⟨#[]⟩:ByteArray),.i 0,.s (⟨#[]⟩:ByteArray)]],.t false] else (bif (!(gi g8 2).bool) then some [.l [[.s (⟨#[]⟩:ByteArray),.s (⟨#[]⟩:ByteArray),.s (⟨#[]⟩:ByteArray),.i 0,.s (⟨#[]⟩:ByteArray)]],.t false] else some [.l [[.s (gi (gi g7 0).row 0).str,.s (gi (gi g7 0).row 1).str,.s (gi (gi g7 0).row 2).str,.i (gi g8 0).int,.s (gi g8 1).str]],.t true])))))))))))
def s_call_Parts:FSpec:=⟨198,[.s (.str)],[],[],[.s (.row KParts),.s (.bool)],[],[],[],F_call_Parts⟩
theorem b_call_Parts:BodyOK P t59 nL0 Tryz.f198 s_call_Parts:=fun d=>by kernel_rfl
theorem c_call_Parts:COK P s_call_Parts:=bdC hm t59_ok Tryz.func198 (nLk _ _ _) b_call_Parts
def t60:Tab:=t59.addP s_call_Parts
theorem t60_ok:TabOK P t60:=t59_ok.aP c_call_Parts

def F_call_Is (d:List G):Option (List G) :=
 (callF (F_call_Parts [.s (gi d 0).str]) fun g1=>some [.t (gi g1 1).bool])
def s_call_Is:FSpec:=⟨174,[.s (.str)],[],[],[.s (.bool)],[],[],[],F_call_Is⟩
theorem b_call_Is:BodyOK P t60 nL0 Tryz.f174 s_call_Is:=fun d=>by kernel_rfl
theorem c_call_Is:COK P s_call_Is:=bdC hm t60_ok Tryz.func174 (nLk _ _ _) b_call_Is
def t61:Tab:=t60.addP s_call_Is
theorem t61_ok:TabOK P t61:=t60_ok.aP c_call_Is

def F_kit_IsName (d:List G):Option (List G) :=
 (bif ((gi d 0).str.toList==(⟨#[]⟩:ByteArray).toList) then some [.t true] else (callF (F_kit_IsKey [.s (gi d 0).str]) fun g1=>some [.t (gi g1 0).bool]))
def s_kit_IsName:FSpec:=⟨175,[.s (.str)],[],[],[.s (.bool)],[],[],[],F_kit_IsName⟩
theorem b_kit_IsName:BodyOK P t61 nL0 Tryz.f175 s_kit_IsName:=fun d=>by kernel_rfl
theorem c_kit_IsName:COK P s_kit_IsName:=bdC hm t61_ok Tryz.func175 (nLk _ _ _) b_kit_IsName
def t62:Tab:=t61.addP s_kit_IsName
theorem t62_ok:TabOK P t62:=t61_ok.aP c_kit_IsName

def F_log_CheckContact (d:List G):Option (List G) :=
 (callF (F_kit_IsMoment [.i (gi (gi d 0).row 0).int]) fun g1=>(bif (!(gi g1 0).bool) then some [.i 1] else (callF (F_kit_IsMode [.i (gi (gi d 0).row 1).int]) fun g2=>(bif (!(gi g2 0).bool) then some [.i 4] else (callF (F_kit_IsKey [.s (gi (gi d 0).row 2).str]) fun g3=>(bif (!(gi g3 0).bool) then some [.i 5] else (callF (F_call_Is [.s (gi (gi d 0).row 3).str]) fun g4=>(bif (!(gi g4 0).bool) then some [.i 3] else (callF (F_kit_Outside [.i (gi (gi d 0).row 4).int,.i 0,.i 99999]) fun g5=>(bif (gi g5 0).bool then some [.i 1] else (callF (F_kit_Outside [.i (gi (gi d 0).row 5).int,.i 0,.i 99999]) fun g6=>(bif (gi g6 0).bool then some [.i 1] else (callF (F_kit_IsName [.s (gi (gi d 0).row 6).str]) fun g7=>(bif (!(gi g7 0).bool) then some [.i 5] else (callF (F_kit_IsName [.s (gi (gi d 0).row 7).str]) fun g8=>(bif (!(gi g8 0).bool) then some [.i 5] else some [.i 0]))))))))))))))))
def s_log_CheckContact:FSpec:=⟨145,[.s (.row KCt)],[],[],[.s (.int .i64)],[],[],[],F_log_CheckContact⟩
theorem b_log_CheckContact:BodyOK P t62 nL0 Tryz.f145 s_log_CheckContact:=fun d=>by kernel_rfl
theorem c_log_CheckContact:COK P s_log_CheckContact:=bdC hm t62_ok Tryz.func145 (nLk _ _ _) b_log_CheckContact
def t63:Tab:=t62.addP s_log_CheckContact
theorem t63_ok:TabOK P t63:=t62_ok.aP c_log_CheckContact

def F_net_logFault (d:List G):Option (List G) :=
 (callF (F_log_CheckContact [.l [[.i (gi (gi d 0).row 4).int,.i (gi (gi d 0).row 5).int,.s (gi (gi d 0).row 6).str,.s (gi (gi d 0).row 7).str,.i (gi (gi d 0).row 8).int,.i (gi (gi d 0).row 9).int,.s (gi (gi d 0).row 10).str,.s (gi (gi d 0).row 11).str]]]) fun g1=>(bif ((gi g1 0).int != 0) then some [.i (gi g1 0).int] else (bif (ltI (gi (gi d 0).row 2).int (gi (gi d 0).row 4).int) then some [.i 1] else some [.i 0])))
def s_net_logFault:FSpec:=⟨112,[.s (.row KDeed)],[],[],[.s (.int .i64)],[],[],[],F_net_logFault⟩
theorem b_net_logFault:BodyOK P t63 nL0 Tryz.f112 s_net_logFault:=fun d=>by kernel_rfl
theorem c_net_logFault:COK P s_net_logFault:=bdC hm t63_ok Tryz.func112 (nLk _ _ _) b_net_logFault
def t64:Tab:=t63.addP s_net_logFault
theorem t64_ok:TabOK P t64:=t63_ok.aP c_net_logFault

def F_net_usedFault (d:List G):Option (List G) :=
 (bif ((gi (gi d 0).row 3).int==1) then (callF (F_net_logFault [.l [(gEta KDeed (gi d 0).row)]]) fun g1=>some [.i (gi g1 0).int]) else (bif ((gi (gi d 0).row 3).int==2) then (callF (F_kit_IsKey [.s (gi (gi d 0).row 12).str]) fun g2=>(bif (!(gi g2 0).bool) then some [.i 5] else some [.i 0])) else (bif ((gi (gi d 0).row 3).int==5) then (callF (F_kit_IsKey [.s (gi (gi d 0).row 13).str]) fun g3=>(bif (!(gi g3 0).bool) then some [.i 5] else (callF (F_kit_Outside [.i (gi (gi d 0).row 14).int,.i 1,.i 1000000]) fun g4=>(bif (gi g4 0).bool then some [.i 1] else some [.i 0])))) else (callF (F_kit_Outside [.i (gi (gi d 0).row 8).int,.i 1,.i 99999]) fun g5=>(bif (gi g5 0).bool then some [.i 1] else some [.i 0])))))
def s_net_usedFault:FSpec:=⟨86,[.s (.row KDeed)],[],[],[.s (.int .i64)],[],[],[],F_net_usedFault⟩
theorem b_net_usedFault:BodyOK P t64 nL0 Tryz.f86 s_net_usedFault:=fun d=>by kernel_rfl
theorem c_net_usedFault:COK P s_net_usedFault:=bdC hm t64_ok Tryz.func86 (nLk _ _ _) b_net_usedFault
def t65:Tab:=t64.addP s_net_usedFault
theorem t65_ok:TabOK P t65:=t64_ok.aP c_net_usedFault

def F_net_idle (d:List G):Option (List G) :=
 (bif ((gi (gi d 0).row 3).int==3) then (bif ((gi (gi d 0).row 3).int==1) then (bif ((gi (gi d 0).row 3).int==2) then (bif ((gi (gi d 0).row 3).int==5) then some [.t true] else (bif ((gi (gi d 0).row 13).str.toList==(⟨#[]⟩:ByteArray).toList) then some [.t ((gi (gi d 0).row 14).int==0)] else some [.t false])) else (bif ((gi (gi d 0).row 12).str.toList==(⟨#[]⟩:ByteArray).toList) then (bif ((gi (gi d 0).row 3).int==5) then some [.t true] else (bif ((gi (gi d 0).row 13).str.toList==(⟨#[]⟩:ByteArray).toList) then some [.t ((gi (gi d 0).row 14).int==0)] else some [.t false])) else some [.t false])) else (bif (rowEq KCt [.i (gi (gi d 0).row 4).int,.i (gi (gi d 0).row 5).int,.s (gi (gi d 0).row 6).str,.s (gi (gi d 0).row 7).str,.i (gi (gi d 0).row 8).int,.i (gi (gi d 0).row 9).int,.s (gi (gi d 0).row 10).str,.s (gi (gi d 0).row 11).str] [.i 0,.i 0,.s (⟨#[]⟩:ByteArray),.s (⟨#[]⟩:ByteArray),.i (gi (gi d 0).row 8).int,.i 0,.s (⟨#[]⟩:ByteArray),.s (⟨#[]⟩:ByteArray)]) then (bif ((gi (gi d 0).row 3).int==2) then (bif ((gi (gi d 0).row 3).int==5) then some [.t true] else (bif ((gi (gi d 0).row 13).str.toList==(⟨#[]⟩:ByteArray).toList) then some [.t ((gi (gi d 0).row 14).int==0)] else some [.t false])) else (bif ((gi (gi d 0).row 12).str.toList==(⟨#[]⟩:ByteArray).toList) then (bif ((gi (gi d 0).row 3).int==5) then some [.t true] else (bif ((gi (gi d 0).row 13).str.toList==(⟨#[]⟩:ByteArray).toList) then some [.t ((gi (gi d 0).row 14).int==0)] else some [.t false])) else some [.t false])) else some [.t false])) else (bif ((gi (gi d 0).row 3).int==4) then (bif ((gi (gi d 0).row 3).int==1) then (bif ((gi (gi d 0).row 3).int==2) then (bif ((gi (gi d 0).row 3).int==5) then some [.t true] else (bif ((gi (gi d 0).row 13).str.toList==(⟨#[]⟩:ByteArray).toList) then some [.t ((gi (gi d 0).row 14).int==0)] else some [.t false])) else (bif ((gi (gi d 0).row 12).str.toList==(⟨#[]⟩:ByteArray).toList) then (bif ((gi (gi d 0).row 3).int==5) then some [.t true] else (bif ((gi (gi d 0).row 13).str.toList==(⟨#[]⟩:ByteArray).toList) then some [.t ((gi (gi d 0).row 14).int==0)] else some [.t false])) else some [.t false])) else (bif (rowEq KCt [.i (gi (gi d 0).row 4).int,.i (gi (gi d 0).row 5).int,.s (gi (gi d 0).row 6).str,.s (gi (gi d 0).row 7).str,.i (gi (gi d 0).row 8).int,.i (gi (gi d 0).row 9).int,.s (gi (gi d 0).row 10).str,.s (gi (gi d 0).row 11).str] [.i 0,.i 0,.s (⟨#[]⟩:ByteArray),.s (⟨#[]⟩:ByteArray),.i (gi (gi d 0).row 8).int,.i 0,.s (⟨#[]⟩:ByteArray),.s (⟨#[]⟩:ByteArray)]) then (bif ((gi (gi d 0).row 3).int==2) then (bif ((gi (gi d 0).row 3).int==5) then some [.t true] else (bif ((gi (gi d 0).row 13).str.toList==(⟨#[]⟩:ByteArray).toList) then some [.t ((gi (gi d 0).row 14).int==0)] else some [.t false])) else (bif ((gi (gi d 0).row 12).str.toList==(⟨#[]⟩:ByteArray).toList) then (bif ((gi (gi d 0).row 3).int==5) then some [.t true] else (bif ((gi (gi d 0).row 13).str.toList==(⟨#[]⟩:ByteArray).toList) then some [.t ((gi (gi d 0).row 14).int==0)] else some [.t false])) else some [.t false])) else some [.t false])) else (bif ((gi (gi d 0).row 3).int==1) then (bif ((gi (gi d 0).row 3).int==2) then (bif ((gi (gi d 0).row 3).int==5) then some [.t true] else (bif ((gi (gi d 0).row 13).str.toList==(⟨#[]⟩:ByteArray).toList) then some [.t ((gi (gi d 0).row 14).int==0)] else some [.t false])) else (bif ((gi (gi d 0).row 12).str.toList==(⟨#[]⟩:ByteArray).toList) then (bif ((gi (gi d 0).row 3).int==5) then some [.t true] else (bif ((gi (gi d 0).row 13).str.toList==(⟨#[]⟩:ByteArray).toList) then some [.t ((gi (gi d 0).row 14).int==0)] else some [.t false])) else some [.t false])) else (bif (rowEq KCt [.i (gi (gi d 0).row 4).int,.i (gi (gi d 0).row 5).int,.s (gi (gi d 0).row 6).str,.s (gi (gi d 0).row 7).str,.i (gi (gi d 0).row 8).int,.i (gi (gi d 0).row 9).int,.s (gi (gi d 0).row 10).str,.s (gi (gi d 0).row 11).str] [.i 0,.i 0,.s (⟨#[]⟩:ByteArray),.s (⟨#[]⟩:ByteArray),.i 0,.i 0,.s (⟨#[]⟩:ByteArray),.s (⟨#[]⟩:ByteArray)]) then (bif ((gi (gi d 0).row 3).int==2) then (bif ((gi (gi d 0).row 3).int==5) then some [.t true] else (bif ((gi (gi d 0).row 13).str.toList==(⟨#[]⟩:ByteArray).toList) then some [.t ((gi (gi d 0).row 14).int==0)] else some [.t false])) else (bif ((gi (gi d 0).row 12).str.toList==(⟨#[]⟩:ByteArray).toList) then (bif ((gi (gi d 0).row 3).int==5) then some [.t true] else (bif ((gi (gi d 0).row 13).str.toList==(⟨#[]⟩:ByteArray).toList) then some [.t ((gi (gi d 0).row 14).int==0)] else some [.t false])) else some [.t false])) else some [.t false]))))
def s_net_idle:FSpec:=⟨87,[.s (.row KDeed)],[],[],[.s (.bool)],[],[],[],F_net_idle⟩
theorem b_net_idle:BodyOK P t65 nL0 Tryz.f87 s_net_idle:=fun d=>by kernel_rfl
theorem c_net_idle:COK P s_net_idle:=bdC hm t65_ok Tryz.func87 (nLk _ _ _) b_net_idle
def t66:Tab:=t65.addP s_net_idle
theorem t66_ok:TabOK P t66:=t65_ok.aP c_net_idle

def F_net_formed (d:List G):Option (List G) :=
 (callF (F_kit_IsKey [.s (gi (gi d 0).row 0).str]) fun g1=>(bif (!(gi g1 0).bool) then some [.i 5] else (callF (F_kit_Outside [.i (gi (gi d 0).row 1).int,.i 1,.i 1000000]) fun g2=>(bif (gi g2 0).bool then some [.i 1] else (callF (F_kit_IsMoment [.i (gi (gi d 0).row 2).int]) fun g3=>(bif (!(gi g3 0).bool) then some [.i 1] else (callF (F_kit_Outside [.i (gi (gi d 0).row 3).int,.i 1,.i 5]) fun g4=>(bif (gi g4 0).bool then some [.i 4] else (callF (F_net_usedFault [.l [(gEta KDeed (gi d 0).row)]]) fun g5=>(bif ((gi g5 0).int != 0) then some [.i (gi g5 0).int] else (callF (F_net_idle [.l [(gEta KDeed (gi d 0).row)]]) fun g6=>(bif (!(gi g6 0).bool) then some [.i 3] else some [.i 0]))))))))))))
def s_net_formed:FSpec:=⟨50,[.s (.row KDeed)],[],[],[.s (.int .i64)],[],[],[],F_net_formed⟩
theorem b_net_formed:BodyOK P t66 nL0 Tryz.f50 s_net_formed:=fun d=>by kernel_rfl
theorem c_net_formed:COK P s_net_formed:=bdC hm t66_ok Tryz.func50 (nLk _ _ _) b_net_formed
def t67:Tab:=t66.addP s_net_formed
theorem t67_ok:TabOK P t67:=t66_ok.aP c_net_formed

def F_cmp_isNaN_int (d:List G):Option (List G) :=
 some [.t ((gi d 0).int != (gi d 0).int)]
def s_cmp_isNaN_int:FSpec:=⟨113,[.s (.int .i64)],[],[],[.s (.bool)],[],[],[],F_cmp_isNaN_int⟩
theorem b_cmp_isNaN_int:BodyOK P t67 nL0 Tryz.f113 s_cmp_isNaN_int:=fun d=>by kernel_rfl
theorem c_cmp_isNaN_int:COK P s_cmp_isNaN_int:=bdC hm t67_ok Tryz.func113 (nLk _ _ _) b_cmp_isNaN_int
def t68:Tab:=t67.addP s_cmp_isNaN_int
theorem t68_ok:TabOK P t68:=t67_ok.aP c_cmp_isNaN_int

def F_cmp_Compare_int (d:List G):Option (List G) :=
 (callF (F_cmp_isNaN_int [.i (gi d 0).int]) fun g1=>(callF (F_cmp_isNaN_int [.i (gi d 1).int]) fun g2=>(bif (gi g1 0).bool then (bif (gi g2 0).bool then some [.i 0] else some [.i (-1)]) else (bif (gi g2 0).bool then some [.i 1] else (bif (ltI (gi d 0).int (gi d 1).int) then some [.i (-1)] else (bif (ltI (gi d 1).int (gi d 0).int) then some [.i 1] else some [.i 0]))))))
def s_cmp_Compare_int:FSpec:=⟨89,[.s (.int .i64),.s (.int .i64)],[],[],[.s (.int .i64)],[],[],[],F_cmp_Compare_int⟩
theorem b_cmp_Compare_int:BodyOK P t68 nL0 Tryz.f89 s_cmp_Compare_int:=fun d=>by kernel_rfl
theorem c_cmp_Compare_int:COK P s_cmp_Compare_int:=bdC hm t68_ok Tryz.func89 (nLk _ _ _) b_cmp_Compare_int
def t69:Tab:=t68.addP s_cmp_Compare_int
theorem t69_ok:TabOK P t69:=t68_ok.aP c_cmp_Compare_int

def st_cmp_Or_int_3 (d:List G):Option (Option Nat × List G) :=
 (bif (ltI (gi d 3).int (gi d 2).int) then (bif ((nnI (gi d 3).int)&&(ltI (gi d 3).int (((gi d 1).rows.length:Nat):Int))) then (bif ((gi ((gi d 1).rows.getD (((gi d 3).int).toNat) []) 0).int != (gi d 0).int) then some (some 0,[.i (gi ((gi d 1).rows.getD (((gi d 3).int).toNat) []) 0).int]) else (bif (inI ((gi d 3).int+1)) then some (none,[.i (gi d 0).int,.l (gi d 1).rows,.i (gi d 2).int,.i ((gi d 3).int+1)]) else none)) else none) else some (some 1,[.i (gi d 0).int]))
def l_cmp_Or_int_3:LSpec:=⟨3,[],⟨18,[(3,.s (.int .i64)),(6,.s (.list [.int .i64])),(7,.s (.int .i64)),(8,.s (.int .i64))],[]⟩,[],[⟨.ret,⟨18,[(2,.s (.int .i64))],[]⟩,[]⟩,⟨.exit 0,⟨18,[(3,.s (.int .i64))],[]⟩,[]⟩],st_cmp_Or_int_3⟩
theorem r_cmp_Or_int_3:RoundOK P t69 nL0 0 (loopAt Tryz.f88 3) l_cmp_Or_int_3:=fun d=>by kernel_rfl
def L_cmp_Or_int_3:LT:=nL0.add 0 l_cmp_Or_int_3
theorem L_cmp_Or_int_3_ok:LpK P 0 L_cmp_Or_int_3 (bodyOf Tryz.f88):=LpK.a hm t69_ok (nLk _ _ _) r_cmp_Or_int_3
def F_cmp_Or_int (d:List G):Option (List G) :=
 (loopB true (LRun st_cmp_Or_int_3 [.i 0,.l (gi d 0).rows,.i (((gi d 0).rows.length:Nat):Int),.i 0]) fun cg1 g1=>(bif Nat.beq cg1 0 then some [.i (gi g1 0).int] else some [.i (gi g1 0).int]))
def s_cmp_Or_int:FSpec:=⟨88,[.s (.list [.int .i64])],[],[],[.s (.int .i64)],[],[],[],F_cmp_Or_int⟩
theorem b_cmp_Or_int:BodyOK P t69 L_cmp_Or_int_3 Tryz.f88 s_cmp_Or_int:=fun d=>by kernel_rfl
theorem c_cmp_Or_int:COK P s_cmp_Or_int:=bdC hm t69_ok Tryz.func88 L_cmp_Or_int_3_ok b_cmp_Or_int
def t70:Tab:=t69.addP s_cmp_Or_int
theorem t70_ok:TabOK P t70:=t69_ok.aP c_cmp_Or_int

def F_net_compare (d:List G):Option (List G) :=
 (callF (F_cmp_Compare_int [.i (gi (gi d 0).row 2).int,.i (gi (gi d 1).row 2).int]) fun g1=>(callF (F_strings_Compare [.s (gi (gi d 0).row 0).str,.s (gi (gi d 1).row 0).str]) fun g2=>(callF (F_cmp_Compare_int [.i (gi (gi d 0).row 1).int,.i (gi (gi d 1).row 1).int]) fun g3=>(callF (F_cmp_Or_int [.l [[.i (gi g1 0).int],[.i (gi g2 0).int],[.i (gi g3 0).int]]]) fun g4=>some [.i (gi g4 0).int]))))
def s_net_compare:FSpec:=⟨51,[.s (.row KDeed),.s (.row KDeed)],[],[],[.s (.int .i64)],[],[],[],F_net_compare⟩
theorem b_net_compare:BodyOK P t70 nL0 Tryz.f51 s_net_compare:=fun d=>by kernel_rfl
theorem c_net_compare:COK P s_net_compare:=bdC hm t70_ok Tryz.func51 (nLk _ _ _) b_net_compare
def t71:Tab:=t70.addP s_net_compare
theorem t71_ok:TabOK P t71:=t70_ok.aP c_net_compare

def st_net_CheckDeeds_4 (d:List G):Option (Option Nat × List G) :=
 (bif (ltI (gi d 3).int (gi d 2).int) then (bif ((nnI (gi d 3).int)&&(ltI (gi d 3).int (((gi d 1).rows.length:Nat):Int))) then (callF (F_net_formed [.l [(gEta KDeed ((gi d 1).rows.getD (((gi d 3).int).toNat) []))]]) fun g1=>(bif ((gi g1 0).int != 0) then some (some 0,[.i (gi g1 0).int]) else (bif (ltI 0 (gi d 3).int) then (bif (inI ((gi d 3).int-1)) then (bif ((nnI ((gi d 3).int-1))&&(ltI ((gi d 3).int-1) (((gi d 0).rows.length:Nat):Int))) then (callF (F_net_compare [.l [(gEta KDeed ((gi d 0).rows.getD (((gi d 3).int-1).toNat) []))],.l [(gEta KDeed ((gi d 1).rows.getD (((gi d 3).int).toNat) []))]]) fun g2=>(bif (leI 0 (gi g2 0).int) then some (some 0,[.i 7]) else (bif (inI ((gi d 3).int+1)) then some (none,[.l (gi d 0).rows,.l (gi d 1).rows,.i (gi d 2).int,.i ((gi d 3).int+1)]) else none))) else none) else none) else (bif (inI ((gi d 3).int+1)) then some (none,[.l (gi d 0).rows,.l (gi d 1).rows,.i (gi d 2).int,.i ((gi d 3).int+1)]) else none)))) else none) else some (some 1,[.l (gi d 0).rows]))
def l_net_CheckDeeds_4:LSpec:=⟨4,[],⟨56,[(0,.s (.list KDeed)),(13,.s (.list KDeed)),(14,.s (.int .i64)),(15,.s (.int .i64))],[]⟩,[],[⟨.ret,⟨56,[(2,.s (.int .i64))],[]⟩,[]⟩,⟨.exit 0,⟨56,[(0,.s (.list KDeed))],[]⟩,[]⟩],st_net_CheckDeeds_4⟩
theorem r_net_CheckDeeds_4:RoundOK P t71 nL0 0 (loopAt Tryz.f24 4) l_net_CheckDeeds_4:=fun d=>by kernel_rfl
def L_net_CheckDeeds_4:LT:=nL0.add 0 l_net_CheckDeeds_4
theorem L_net_CheckDeeds_4_ok:LpK P 0 L_net_CheckDeeds_4 (bodyOf Tryz.f24):=LpK.a hm t71_ok (nLk _ _ _) r_net_CheckDeeds_4
def st_net_CheckDeeds_14 (d:List G):Option (Option Nat × List G) :=
 (bif (ltI (gi d 4).int (gi d 3).int) then (bif ((nnI (gi d 4).int)&&(ltI (gi d 4).int (((gi d 2).rows.length:Nat):Int))) then (bif (gi (mget [.str,.int .i64] (gi d 0).rows (gEta [.str,.int .i64] ((gi d 2).rows.getD (((gi d 4).int).toNat) [])) [.t false]) 0).bool then some (some 0,[.i 6]) else (bif (inI ((gi d 4).int+1)) then some (none,[.l (mput [.str,.int .i64] (gi d 0).rows (gEta [.str,.int .i64] ((gi d 2).rows.getD (((gi d 4).int).toNat) [])) [.t true] (gi d 1).int.toNat),.i (((mclk [.str,.int .i64] (gi d 0).rows (gEta [.str,.int .i64] ((gi d 2).rows.getD (((gi d 4).int).toNat) [])) (gi d 1).int.toNat):Nat):Int),.l (gi d 2).rows,.i (gi d 3).int,.i ((gi d 4).int+1)]) else none)) else none) else some (some 1,[]))
def l_net_CheckDeeds_14:LSpec:=⟨14,[],⟨56,[(6,.s (.map 0)),(39,.s (.list KDeed)),(40,.s (.int .i64)),(41,.s (.int .i64))],[.map (.agg [.str,.int .i64]) (.one (.bool))]⟩,[.slot 6],[⟨.ret,⟨56,[(2,.s (.int .i64))],[]⟩,[]⟩,⟨.exit 2,⟨56,[],[]⟩,[]⟩],st_net_CheckDeeds_14⟩
theorem r_net_CheckDeeds_14:RoundOK P t71 L_net_CheckDeeds_4 0 (loopAt Tryz.f24 14) l_net_CheckDeeds_14:=fun d=>by kernel_rfl
def L_net_CheckDeeds_14:LT:=L_net_CheckDeeds_4.add 0 l_net_CheckDeeds_14
theorem L_net_CheckDeeds_14_ok:LpK P 0 L_net_CheckDeeds_14 (bodyOf Tryz.f24):=LpK.a hm t71_ok L_net_CheckDeeds_4_ok r_net_CheckDeeds_14
def F_net_CheckDeeds (d:List G):Option (List G) :=
 (bif (ltI 2000 (((gi d 0).rows.length:Nat):Int)) then some [.i 2] else (loopB true (LRun st_net_CheckDeeds_4 [.l (gi d 0).rows,.l (gi d 0).rows,.i (((gi d 0).rows.length:Nat):Int),.i 0]) fun cg3 g3=>(bif Nat.beq cg3 0 then some [.i (gi g3 0).int] else (loopB true (LRun st_net_CheckDeeds_14 [.l [],.i 0,.l (gi g3 0).rows,.i (((gi g3 0).rows.length:Nat):Int),.i 0]) fun cg4 g4=>(bif Nat.beq cg4 0 then some [.i (gi g4 0).int] else some [.i 0])))))
def s_net_CheckDeeds:FSpec:=⟨24,[.s (.list KDeed)],[],[],[.s (.int .i64)],[],[],[],F_net_CheckDeeds⟩
theorem b_net_CheckDeeds:BodyOK P t71 L_net_CheckDeeds_14 Tryz.f24 s_net_CheckDeeds:=fun d=>by kernel_rfl
theorem c_net_CheckDeeds:COK P s_net_CheckDeeds:=bdC hm t71_ok Tryz.func24 L_net_CheckDeeds_14_ok b_net_CheckDeeds
def t72:Tab:=t71.addP s_net_CheckDeeds
theorem t72_ok:TabOK P t72:=t71_ok.aP c_net_CheckDeeds

def F_net_kindWords (d:List G):Option (List G) :=
 some [.l [[.s (⟨#[]⟩:ByteArray)],[.s (⟨#[108,111,103]⟩:ByteArray)],[.s (⟨#[116,117,110,101]⟩:ByteArray)],[.s (⟨#[104,101,108,100]⟩:ByteArray)],[.s (⟨#[102,114,101,101]⟩:ByteArray)],[.s (⟨#[117,110,100,111]⟩:ByteArray)]]]
def s_net_kindWords:FSpec:=⟨53,[],[],[],[.s (.list [.str])],[],[],[],F_net_kindWords⟩
theorem b_net_kindWords:BodyOK P t72 nL0 Tryz.f53 s_net_kindWords:=fun d=>by kernel_rfl
theorem c_net_kindWords:COK P s_net_kindWords:=bdC hm t72_ok Tryz.func53 (nLk _ _ _) b_net_kindWords
def t73:Tab:=t72.addP s_net_kindWords
theorem t73_ok:TabOK P t73:=t72_ok.aP c_net_kindWords

def F_kit_ModeWords (d:List G):Option (List G) :=
 some [.l [[.s (⟨#[]⟩:ByteArray)],[.s (⟨#[99,111,100,101]⟩:ByteArray)],[.s (⟨#[118,111,105,99,101]⟩:ByteArray)],[.s (⟨#[100,97,116,97]⟩:ByteArray)]]]
def s_kit_ModeWords:FSpec:=⟨91,[],[],[],[.s (.list [.str])],[],[],[],F_kit_ModeWords⟩
theorem b_kit_ModeWords:BodyOK P t73 nL0 Tryz.f91 s_kit_ModeWords:=fun d=>by kernel_rfl
theorem c_kit_ModeWords:COK P s_kit_ModeWords:=bdC hm t73_ok Tryz.func91 (nLk _ _ _) b_kit_ModeWords
def t74:Tab:=t73.addP s_kit_ModeWords
theorem t74_ok:TabOK P t74:=t73_ok.aP c_kit_ModeWords

def F_kit_Dash (d:List G):Option (List G) :=
 (bif ((gi d 0).str.toList==(⟨#[]⟩:ByteArray).toList) then some [.s (⟨#[45]⟩:ByteArray)] else some [.s (gi d 0).str])
def s_kit_Dash:FSpec:=⟨92,[.s (.str)],[],[],[.s (.str)],[],[],[],F_kit_Dash⟩
theorem b_kit_Dash:BodyOK P t74 nL0 Tryz.f92 s_kit_Dash:=fun d=>by kernel_rfl
theorem c_kit_Dash:COK P s_kit_Dash:=bdC hm t74_ok Tryz.func92 (nLk _ _ _) b_kit_Dash
def t75:Tab:=t74.addP s_kit_Dash
theorem t75_ok:TabOK P t75:=t74_ok.aP c_kit_Dash

def F_stringslite_HasSuffix (d:List G):Option (List G) :=
 (bif (leI (((gi d 1).str.size:Nat):Int) (((gi d 0).str.size:Nat):Int)) then (bif (inI ((((gi d 0).str.size:Nat):Int)-(((gi d 1).str.size:Nat):Int))) then (bif ((nnI ((((gi d 0).str.size:Nat):Int)-(((gi d 1).str.size:Nat):Int)))&&(leI ((((gi d 0).str.size:Nat):Int)-(((gi d 1).str.size:Nat):Int)) (((gi d 0).str.size:Nat):Int))) then some [.t (((gi d 0).str.extract ((((gi d 0).str.size:Nat):Int)-(((gi d 1).str.size:Nat):Int)).toNat (gi d 0).str.size).toList==(gi d 1).str.toList)] else none) else none) else some [.t false])
def s_stringslite_HasSuffix:FSpec:=⟨120,[.s (.str),.s (.str)],[],[],[.s (.bool)],[],[],[],F_stringslite_HasSuffix⟩
theorem b_stringslite_HasSuffix:BodyOK P t75 nL0 Tryz.f120 s_stringslite_HasSuffix:=fun d=>by kernel_rfl
theorem c_stringslite_HasSuffix:COK P s_stringslite_HasSuffix:=bdC hm t75_ok Tryz.func120 (nLk _ _ _) b_stringslite_HasSuffix
def t76:Tab:=t75.addP s_stringslite_HasSuffix
theorem t76_ok:TabOK P t76:=t75_ok.aP c_stringslite_HasSuffix

def F_stringslite_CutSuffix (d:List G):Option (List G) :=
 (callF (F_stringslite_HasSuffix [.s (gi d 0).str,.s (gi d 1).str]) fun g1=>(bif (!(gi g1 0).bool) then some [.s (gi d 0).str,.t false] else (bif (inI ((((gi d 0).str.size:Nat):Int)-(((gi d 1).str.size:Nat):Int))) then (bif ((nnI ((((gi d 0).str.size:Nat):Int)-(((gi d 1).str.size:Nat):Int)))&&(leI ((((gi d 0).str.size:Nat):Int)-(((gi d 1).str.size:Nat):Int)) (((gi d 0).str.size:Nat):Int))) then some [.s ((gi d 0).str.extract 0 ((((gi d 0).str.size:Nat):Int)-(((gi d 1).str.size:Nat):Int)).toNat),.t true] else none) else none)))
def s_stringslite_CutSuffix:FSpec:=⟨96,[.s (.str),.s (.str)],[],[],[.s (.str),.s (.bool)],[],[],[],F_stringslite_CutSuffix⟩
theorem b_stringslite_CutSuffix:BodyOK P t76 nL0 Tryz.f96 s_stringslite_CutSuffix:=fun d=>by kernel_rfl
theorem c_stringslite_CutSuffix:COK P s_stringslite_CutSuffix:=bdC hm t76_ok Tryz.func96 (nLk _ _ _) b_stringslite_CutSuffix
def t77:Tab:=t76.addP s_stringslite_CutSuffix
theorem t77_ok:TabOK P t77:=t76_ok.aP c_stringslite_CutSuffix

def F_strings_CutSuffix (d:List G):Option (List G) :=
 (callF (F_stringslite_CutSuffix [.s (gi d 0).str,.s (gi d 1).str]) fun g1=>some [.s (gi g1 0).str,.t (gi g1 1).bool])
def s_strings_CutSuffix:FSpec:=⟨65,[.s (.str),.s (.str)],[],[],[.s (.str),.s (.bool)],[],[],[],F_strings_CutSuffix⟩
theorem b_strings_CutSuffix:BodyOK P t77 nL0 Tryz.f65 s_strings_CutSuffix:=fun d=>by kernel_rfl
theorem c_strings_CutSuffix:COK P s_strings_CutSuffix:=bdC hm t77_ok Tryz.func65 (nLk _ _ _) b_strings_CutSuffix
def t78:Tab:=t77.addP s_strings_CutSuffix
theorem t78_ok:TabOK P t78:=t77_ok.aP c_strings_CutSuffix

def F_strings_genSplit (d:List G):Option (List G) :=
 splitF d
def s_strings_genSplit:FSpec:=⟨97,[.s (.str),.s (.str),.s (.int .i64),.s (.int .i64)],[],[],[.s (.list [.str])],[],[],[],F_strings_genSplit⟩
theorem c_strings_genSplit:∀ d r,F_strings_genSplit d=some r→ACallX P 97 (s_strings_genSplit.args0 d) (denH (s_strings_genSplit.H0 d)) (s_strings_genSplit.out r) (denH (s_strings_genSplit.H1 r)):=fun d r h=>split_call Tryz.laysSplit (by kernel_rfl) d r h
def t79:Tab:=t78.addP s_strings_genSplit
theorem t79_ok:TabOK P t79:=t78_ok.aP c_strings_genSplit

def F_strings_Split (d:List G):Option (List G) :=
 (callF (F_strings_genSplit [.s (gi d 0).str,.s (gi d 1).str,.i 0,.i (-1)]) fun g1=>some [.l (gi g1 0).rows])
def s_strings_Split:FSpec:=⟨66,[.s (.str),.s (.str)],[],[],[.s (.list [.str])],[],[],[],F_strings_Split⟩
theorem b_strings_Split:BodyOK P t79 nL0 Tryz.f66 s_strings_Split:=fun d=>by kernel_rfl
theorem c_strings_Split:COK P s_strings_Split:=bdC hm t79_ok Tryz.func66 (nLk _ _ _) b_strings_Split
def t80:Tab:=t79.addP s_strings_Split
theorem t80_ok:TabOK P t80:=t79_ok.aP c_strings_Split

def F_kit_Lines (d:List G):Option (List G) :=
 (bif ((gi d 0).str.toList==(⟨#[]⟩:ByteArray).toList) then some [.l [],.t true] else (callF (F_strings_CutSuffix [.s (gi d 0).str,.s (⟨#[10]⟩:ByteArray)]) fun g1=>(callF (F_strings_Split [.s (gi g1 0).str,.s (⟨#[10]⟩:ByteArray)]) fun g2=>some [.l (gi g2 0).rows,.t (gi g1 1).bool])))
def s_kit_Lines:FSpec:=⟨36,[.s (.str)],[],[],[.s (.list [.str]),.s (.bool)],[],[],[],F_kit_Lines⟩
theorem b_kit_Lines:BodyOK P t80 nL0 Tryz.f36 s_kit_Lines:=fun d=>by kernel_rfl
theorem c_kit_Lines:COK P s_kit_Lines:=bdC hm t80_ok Tryz.func36 (nLk _ _ _) b_kit_Lines
def t81:Tab:=t80.addP s_kit_Lines
theorem t81_ok:TabOK P t81:=t80_ok.aP c_kit_Lines

def st_kit_Words_3 (d:List G):Option (Option Nat × List G) :=
 (bif (ltI (gi d 3).int (gi d 2).int) then (bif ((nnI (gi d 3).int)&&(ltI (gi d 3).int (((gi d 1).rows.length:Nat):Int))) then (bif ((gi ((gi d 1).rows.getD (((gi d 3).int).toNat) []) 0).str.toList==(⟨#[]⟩:ByteArray).toList) then some (some 0,[.l [],.t false]) else (bif (inI ((gi d 3).int+1)) then some (none,[.l (gi d 0).rows,.l (gi d 1).rows,.i (gi d 2).int,.i ((gi d 3).int+1)]) else none)) else none) else some (some 1,[.l (gi d 0).rows]))
def l_kit_Words_3:LSpec:=⟨3,[],⟨19,[(4,.s (.list [.str])),(9,.s (.list [.str])),(10,.s (.int .i64)),(11,.s (.int .i64))],[]⟩,[],[⟨.ret,⟨19,[(2,.s (.list [.str])),(3,.s (.bool))],[]⟩,[]⟩,⟨.exit 0,⟨19,[(4,.s (.list [.str]))],[]⟩,[]⟩],st_kit_Words_3⟩
theorem r_kit_Words_3:RoundOK P t81 nL0 0 (loopAt Tryz.f67 3) l_kit_Words_3:=fun d=>by kernel_rfl
def L_kit_Words_3:LT:=nL0.add 0 l_kit_Words_3
theorem L_kit_Words_3_ok:LpK P 0 L_kit_Words_3 (bodyOf Tryz.f67):=LpK.a hm t81_ok (nLk _ _ _) r_kit_Words_3
def F_kit_Words (d:List G):Option (List G) :=
 (callF (F_strings_Split [.s (gi d 0).str,.s (⟨#[32]⟩:ByteArray)]) fun g1=>(loopB true (LRun st_kit_Words_3 [.l (gi g1 0).rows,.l (gi g1 0).rows,.i (((gi g1 0).rows.length:Nat):Int),.i 0]) fun cg2 g2=>(bif Nat.beq cg2 0 then some [.l (gi g2 0).rows,.t (gi g2 1).bool] else some [.l (gi g2 0).rows,.t true])))
def s_kit_Words:FSpec:=⟨67,[.s (.str)],[],[],[.s (.list [.str]),.s (.bool)],[],[],[],F_kit_Words⟩
theorem b_kit_Words:BodyOK P t81 L_kit_Words_3 Tryz.f67 s_kit_Words:=fun d=>by kernel_rfl
theorem c_kit_Words:COK P s_kit_Words:=bdC hm t81_ok Tryz.func67 L_kit_Words_3_ok b_kit_Words
def t82:Tab:=t81.addP s_kit_Words
theorem t82_ok:TabOK P t82:=t81_ok.aP c_kit_Words

def F_stringslite_HasPrefix (d:List G):Option (List G) :=
 (bif (leI (((gi d 1).str.size:Nat):Int) (((gi d 0).str.size:Nat):Int)) then (bif ((nnI (((gi d 1).str.size:Nat):Int))&&(leI (((gi d 1).str.size:Nat):Int) (((gi d 0).str.size:Nat):Int))) then some [.t (((gi d 0).str.extract 0 (gi d 1).str.size).toList==(gi d 1).str.toList)] else none) else some [.t false])
def s_stringslite_HasPrefix:FSpec:=⟨133,[.s (.str),.s (.str)],[],[],[.s (.bool)],[],[],[],F_stringslite_HasPrefix⟩
theorem b_stringslite_HasPrefix:BodyOK P t82 nL0 Tryz.f133 s_stringslite_HasPrefix:=fun d=>by kernel_rfl
theorem c_stringslite_HasPrefix:COK P s_stringslite_HasPrefix:=bdC hm t82_ok Tryz.func133 (nLk _ _ _) b_stringslite_HasPrefix
def t83:Tab:=t82.addP s_stringslite_HasPrefix
theorem t83_ok:TabOK P t83:=t82_ok.aP c_stringslite_HasPrefix

def F_stringslite_CutPrefix (d:List G):Option (List G) :=
 (callF (F_stringslite_HasPrefix [.s (gi d 0).str,.s (gi d 1).str]) fun g1=>(bif (!(gi g1 0).bool) then some [.s (gi d 0).str,.t false] else (bif ((nnI (((gi d 1).str.size:Nat):Int))&&(leI (((gi d 1).str.size:Nat):Int) (((gi d 0).str.size:Nat):Int))) then some [.s ((gi d 0).str.extract (gi d 1).str.size (gi d 0).str.size),.t true] else none)))
def s_stringslite_CutPrefix:FSpec:=⟨124,[.s (.str),.s (.str)],[],[],[.s (.str),.s (.bool)],[],[],[],F_stringslite_CutPrefix⟩
theorem b_stringslite_CutPrefix:BodyOK P t83 nL0 Tryz.f124 s_stringslite_CutPrefix:=fun d=>by kernel_rfl
theorem c_stringslite_CutPrefix:COK P s_stringslite_CutPrefix:=bdC hm t83_ok Tryz.func124 (nLk _ _ _) b_stringslite_CutPrefix
def t84:Tab:=t83.addP s_stringslite_CutPrefix
theorem t84_ok:TabOK P t84:=t83_ok.aP c_stringslite_CutPrefix

def F_strings_CutPrefix (d:List G):Option (List G) :=
 (callF (F_stringslite_CutPrefix [.s (gi d 0).str,.s (gi d 1).str]) fun g1=>some [.s (gi g1 0).str,.t (gi g1 1).bool])
def s_strings_CutPrefix:FSpec:=⟨99,[.s (.str),.s (.str)],[],[],[.s (.str),.s (.bool)],[],[],[],F_strings_CutPrefix⟩
theorem b_strings_CutPrefix:BodyOK P t84 nL0 Tryz.f99 s_strings_CutPrefix:=fun d=>by kernel_rfl
theorem c_strings_CutPrefix:COK P s_strings_CutPrefix:=bdC hm t84_ok Tryz.func99 (nLk _ _ _) b_strings_CutPrefix
def t85:Tab:=t84.addP s_strings_CutPrefix
theorem t85_ok:TabOK P t85:=t84_ok.aP c_strings_CutPrefix

def F_strconv_Atoi (d:List G):Option (List G) :=
 atoiF d
def s_strconv_Atoi:FSpec:=⟨77,[.s (.str)],[],[],[.s (.int .i64),.s (.nilI)],[],[],[],F_strconv_Atoi⟩
theorem c_strconv_Atoi:∀ d r,F_strconv_Atoi d=some r→ACallX P 77 (s_strconv_Atoi.args0 d) (denH (s_strconv_Atoi.H0 d)) (s_strconv_Atoi.out r) (denH (s_strconv_Atoi.H1 r)):=fun d r h=>atoi_call Tryz.laysAtoi d r h
def t86:Tab:=t85.addP s_strconv_Atoi
theorem t86_ok:TabOK P t86:=t85_ok.aP c_strconv_Atoi

def F_kit_Number (d:List G):Option (List G) :=
 (callF (F_strings_CutPrefix [.s (gi d 0).str,.s (⟨#[45]⟩:ByteArray)]) fun g1=>(bif ((gi g1 0).str.toList==(⟨#[]⟩:ByteArray).toList) then some [.i 0,.t false] else (bif (ltI (gi d 1).int (((gi g1 0).str.size:Nat):Int)) then some [.i 0,.t false] else (callF (F_strings_Trim [.s (gi g1 0).str,.s (⟨#[48,49,50,51,52,53,54,55,56,57]⟩:ByteArray)]) fun g2=>(bif (!((gi g2 0).str.toList==(⟨#[]⟩:ByteArray).toList)) then some [.i 0,.t false] else (bif (ltI 0 (((gi g1 0).str.size:Nat):Int)) then (bif ((((gi g1 0).str.data.toList.getD 0 0).toNat:Int)==48) then (bif (ltI 1 (((gi g1 0).str.size:Nat):Int)) then some [.i 0,.t false] else (bif (gi g1 1).bool then some [.i 0,.t false] else (callF (F_strconv_Atoi [.s (gi g1 0).str]) fun g3=>(bif (gi g1 1).bool then (bif (inI (0-(gi g3 0).int)) then some [.i (0-(gi g3 0).int),.t true] else none) else some [.i (gi g3 0).int,.t true])))) else (callF (F_strconv_Atoi [.s (gi g1 0).str]) fun g4=>(bif (gi g1 1).bool then (bif (inI (0-(gi g4 0).int)) then some [.i (0-(gi g4 0).int),.t true] else none) else some [.i (gi g4 0).int,.t true]))) else none))))))
def s_kit_Number:FSpec:=⟨71,[.s (.str),.s (.int .i64)],[],[],[.s (.int .i64),.s (.bool)],[],[],[],F_kit_Number⟩
theorem b_kit_Number:BodyOK P t86 nL0 Tryz.f71 s_kit_Number:=fun d=>by kernel_rfl
theorem c_kit_Number:COK P s_kit_Number:=bdC hm t86_ok Tryz.func71 (nLk _ _ _) b_kit_Number
def t87:Tab:=t86.addP s_kit_Number
theorem t87_ok:TabOK P t87:=t86_ok.aP c_kit_Number

def st_kit_Numbers_3 (d:List G):Option (Option Nat × List G) :=
 (bif (ltI (gi d 3).int (gi d 2).int) then (bif ((nnI (gi d 3).int)&&(ltI (gi d 3).int (((gi d 1).rows.length:Nat):Int))) then (callF (F_kit_Number [.s (gi ((gi d 1).rows.getD (((gi d 3).int).toNat) []) 0).str,.i 15]) fun g1=>(bif (!(gi g1 1).bool) then some (some 0,[.l [],.t false]) else (bif ((Nat.beq (gi d 0).rows.length (gi d 0).rows.length)&&(decide (((gi d 0).rows.length+1)≤1048576))) then (bif (inI ((gi d 3).int+1)) then (bif ((Nat.beq ((gi d 0).rows++([[.i (gi g1 0).int]]:List (List G))).length ((gi d 0).rows++([[.i (gi g1 0).int]]:List (List G))).length)&&true) then some (none,[.l ((gi d 0).rows++([[.i (gi g1 0).int]]:List (List G))),.l (gi d 1).rows,.i (gi d 2).int,.i ((gi d 3).int+1)]) else none) else none) else none))) else none) else (bif ((Nat.beq (gi d 0).rows.length (gi d 0).rows.length)&&true) then some (some 1,[.l (gi d 0).rows]) else none))
def l_kit_Numbers_3:LSpec:=⟨3,[(4,[.int .i64])],⟨28,[(4,.s (.vec 0 1)),(9,.s (.list [.str])),(10,.s (.int .i64)),(11,.s (.int .i64))],[.vec [.int .i64] 0]⟩,[.slot 4],[⟨.ret,⟨28,[(2,.s (.list [.int .i64])),(3,.s (.bool))],[]⟩,[]⟩,⟨.exit 0,⟨28,[(4,.s (.vec 0 1))],[.vec [.int .i64] 0]⟩,[.slot 4]⟩],st_kit_Numbers_3⟩
theorem r_kit_Numbers_3:RoundOK P t87 nL0 0 (loopAt Tryz.f68 3) l_kit_Numbers_3:=fun d=>by kernel_rfl
def L_kit_Numbers_3:LT:=nL0.add 0 l_kit_Numbers_3
theorem L_kit_Numbers_3_ok:LpK P 0 L_kit_Numbers_3 (bodyOf Tryz.f68):=LpK.a hm t87_ok (nLk _ _ _) r_kit_Numbers_3
def F_kit_Numbers (d:List G):Option (List G) :=
 (loopB true (LRun st_kit_Numbers_3 [.l [],.l (gi d 0).rows,.i (((gi d 0).rows.length:Nat):Int),.i 0]) fun cg2 g2=>(bif Nat.beq cg2 0 then some [.l (gi g2 0).rows,.t (gi g2 1).bool] else (bif ((Nat.beq (gi g2 0).rows.length (gi g2 0).rows.length)&&true) then some [.l (gi g2 0).rows,.t true] else none)))
def s_kit_Numbers:FSpec:=⟨68,[.s (.list [.str])],[],[],[.s (.list [.int .i64]),.s (.bool)],[],[],[],F_kit_Numbers⟩
theorem b_kit_Numbers:BodyOK P t87 L_kit_Numbers_3 Tryz.f68 s_kit_Numbers:=fun d=>by kernel_rfl
theorem c_kit_Numbers:COK P s_kit_Numbers:=bdC hm t87_ok Tryz.func68 L_kit_Numbers_3_ok b_kit_Numbers
def t88:Tab:=t87.addP s_kit_Numbers
theorem t88_ok:TabOK P t88:=t87_ok.aP c_kit_Numbers

def st_sl_Index_string_2 (d:List G):Option (Option Nat × List G) :=
 (bif (ltI (gi d 3).int (gi d 2).int) then (bif ((nnI (gi d 3).int)&&(ltI (gi d 3).int (((gi d 0).rows.length:Nat):Int))) then (bif ((gi d 1).str.toList==(gi ((gi d 0).rows.getD (((gi d 3).int).toNat) []) 0).str.toList) then some (some 0,[.i (gi d 3).int]) else (bif (inI ((gi d 3).int+1)) then some (none,[.l (gi d 0).rows,.s (gi d 1).str,.i (gi d 2).int,.i ((gi d 3).int+1)]) else none)) else none) else some (some 1,[]))
def l_sl_Index_string_2:LSpec:=⟨2,[],⟨19,[(0,.s (.list [.str])),(1,.s (.str)),(7,.s (.int .i64)),(8,.s (.int .i64))],[]⟩,[],[⟨.ret,⟨19,[(4,.s (.int .i64))],[]⟩,[]⟩,⟨.exit 0,⟨19,[],[]⟩,[]⟩],st_sl_Index_string_2⟩
theorem r_sl_Index_string_2:RoundOK P t88 nL0 0 (loopAt Tryz.f69 2) l_sl_Index_string_2:=fun d=>by kernel_rfl
def L_sl_Index_string_2:LT:=nL0.add 0 l_sl_Index_string_2
theorem L_sl_Index_string_2_ok:LpK P 0 L_sl_Index_string_2 (bodyOf Tryz.f69):=LpK.a hm t88_ok (nLk _ _ _) r_sl_Index_string_2
def F_sl_Index_string (d:List G):Option (List G) :=
 (loopB true (LRun st_sl_Index_string_2 [.l (gi d 0).rows,.s (gi d 1).str,.i (((gi d 0).rows.length:Nat):Int),.i 0]) fun cg1 g1=>(bif Nat.beq cg1 0 then some [.i (gi g1 0).int] else some [.i (-1)]))
def s_sl_Index_string:FSpec:=⟨69,[.s (.list [.str]),.s (.str)],[],[],[.s (.int .i64)],[],[],[],F_sl_Index_string⟩
theorem b_sl_Index_string:BodyOK P t88 L_sl_Index_string_2 Tryz.f69 s_sl_Index_string:=fun d=>by kernel_rfl
theorem c_sl_Index_string:COK P s_sl_Index_string:=bdC hm t88_ok Tryz.func69 L_sl_Index_string_2_ok b_sl_Index_string
def t89:Tab:=t88.addP s_sl_Index_string
theorem t89_ok:TabOK P t89:=t88_ok.aP c_sl_Index_string

def F_kit_Undash (d:List G):Option (List G) :=
 (bif ((gi d 0).str.toList==(⟨#[45]⟩:ByteArray).toList) then some [.s (⟨#[]⟩:ByteArray)] else some [.s (gi d 0).str])
def s_kit_Undash:FSpec:=⟨98,[.s (.str)],[],[],[.s (.str)],[],[],[],F_kit_Undash⟩
theorem b_kit_Undash:BodyOK P t89 nL0 Tryz.f98 s_kit_Undash:=fun d=>by kernel_rfl
theorem c_kit_Undash:COK P s_kit_Undash:=bdC hm t89_ok Tryz.func98 (nLk _ _ _) b_kit_Undash
def t90:Tab:=t89.addP s_kit_Undash
theorem t90_ok:TabOK P t90:=t89_ok.aP c_kit_Undash

def F_log_ReadWords (d:List G):Option (List G) :=
 (bif ((((gi d 0).rows.length:Nat):Int) != 8) then some [.l [[.i 0,.i 0,.s (⟨#[]⟩:ByteArray),.s (⟨#[]⟩:ByteArray),.i 0,.i 0,.s (⟨#[]⟩:ByteArray),.s (⟨#[]⟩:ByteArray)]],.t false] else (callF (F_kit_ModeWords []) fun g1=>(bif (ltI 1 (((gi d 0).rows.length:Nat):Int)) then (callF (F_sl_Index_string [.l (gi g1 0).rows,.s (gi ((gi d 0).rows.getD 1 []) 0).str]) fun g2=>(bif (ltI 0 (((gi d 0).rows.length:Nat):Int)) then (bif (ltI 4 (((gi d 0).rows.length:Nat):Int)) then (bif (ltI 6 (((gi d 0).rows.length:Nat):Int)) then (callF (F_kit_Numbers [.l [[.s (gi ((gi d 0).rows.getD 0 []) 0).str],[.s (gi ((gi d 0).rows.getD 4 []) 0).str],[.s (gi ((gi d 0).rows.getD 6 []) 0).str]]]) fun g3=>(bif (!(gi g3 1).bool) then some [.l [[.i 0,.i 0,.s (⟨#[]⟩:ByteArray),.s (⟨#[]⟩:ByteArray),.i 0,.i 0,.s (⟨#[]⟩:ByteArray),.s (⟨#[]⟩:ByteArray)]],.t false] else (bif (ltI (gi g2 0).int 1) then some [.l [[.i 0,.i 0,.s (⟨#[]⟩:ByteArray),.s (⟨#[]⟩:ByteArray),.i 0,.i 0,.s (⟨#[]⟩:ByteArray),.s (⟨#[]⟩:ByteArray)]],.t false] else (bif (ltI 0 (((gi g3 0).rows.length:Nat):Int)) then (bif (ltI 2 (((gi d 0).rows.length:Nat):Int)) then (bif (ltI 3 (((gi d 0).rows.length:Nat):Int)) then (bif (ltI 1 (((gi g3 0).rows.length:Nat):Int)) then (bif (ltI 5 (((gi d 0).rows.length:Nat):Int)) then (callF (F_kit_Undash [.s (gi ((gi d 0).rows.getD 5 []) 0).str]) fun g4=>(bif (ltI 2 (((gi g3 0).rows.length:Nat):Int)) then (bif (ltI 7 (((gi d 0).rows.length:Nat):Int)) then (callF (F_kit_Undash [.s (gi ((gi d 0).rows.getD 7 []) 0).str]) fun g5=>some [.l [[.i (gi ((gi g3 0).rows.getD 0 []) 0).int,.i (gi g2 0).int,.s (gi ((gi d 0).rows.getD 2 []) 0).str,.s (gi ((gi d 0).rows.getD 3 []) 0).str,.i (gi ((gi g3 0).rows.getD 1 []) 0).int,.i (gi ((gi g3 0).rows.getD 2 []) 0).int,.s (gi g4 0).str,.s (gi g5 0).str]],.t true]) else none) else none)) else none) else none) else none) else none) else none)))) else none) else none) else none)) else none)))
def s_log_ReadWords:FSpec:=⟨70,[.s (.list [.str])],[],[],[.s (.row KCt),.s (.bool)],[],[],[],F_log_ReadWords⟩
theorem b_log_ReadWords:BodyOK P t90 nL0 Tryz.f70 s_log_ReadWords:=fun d=>by kernel_rfl
theorem c_log_ReadWords:COK P s_log_ReadWords:=bdC hm t90_ok Tryz.func70 (nLk _ _ _) b_log_ReadWords
def t91:Tab:=t90.addP s_log_ReadWords
theorem t91_ok:TabOK P t91:=t90_ok.aP c_log_ReadWords

def tl_net_readDeed_15 (d:List G):Option (Option Nat × List G) :=
 (bif (gi d 31).bool then (bif (ltI 0 (((gi d 30).rows.length:Nat):Int)) then (callF (F_kit_Number [.s (gi ((gi d 30).rows.getD 0 []) 0).str,.i 15]) fun g6=>some (some 0,[.s (gi d 0).str,.i (gi d 1).int,.i (gi d 2).int,.i (gi d 3).int,.i (gi d 4).int,.i (gi d 5).int,.s (gi d 6).str,.s (gi d 7).str,.i (gi d 8).int,.i (gi d 9).int,.s (gi d 10).str,.s (gi d 11).str,.s (gi d 12).str,.s (gi d 13).str,.i (gi d 14).int,.s (gi d 15).str,.i (gi d 16).int,.i (gi d 17).int,.i (gi d 18).int,.i (gi d 19).int,.i (gi d 20).int,.s (gi d 21).str,.s (gi d 22).str,.i (gi g6 0).int,.i (gi d 24).int,.s (gi d 25).str,.s (gi d 26).str,.s (gi d 27).str,.s (gi d 28).str,.i (gi d 29).int,.t (gi g6 1).bool])) else none) else (bif ((gi d 18).int==5) then (bif ((((gi d 30).rows.length:Nat):Int)==2) then (bif (ltI 0 (((gi d 30).rows.length:Nat):Int)) then (bif (ltI 1 (((gi d 30).rows.length:Nat):Int)) then (callF (F_kit_Number [.s (gi ((gi d 30).rows.getD 1 []) 0).str,.i 15]) fun g7=>some (some 0,[.s (gi d 0).str,.i (gi d 1).int,.i (gi d 2).int,.i (gi d 3).int,.i (gi d 4).int,.i (gi d 5).int,.s (gi d 6).str,.s (gi d 7).str,.i (gi d 8).int,.i (gi d 9).int,.s (gi d 10).str,.s (gi d 11).str,.s (gi d 12).str,.s (gi d 13).str,.i (gi d 14).int,.s (gi d 15).str,.i (gi d 16).int,.i (gi d 17).int,.i (gi d 18).int,.i (gi d 19).int,.i (gi d 20).int,.s (gi d 21).str,.s (gi d 22).str,.i (gi d 23).int,.i (gi d 24).int,.s (gi d 25).str,.s (gi d 26).str,.s (gi d 27).str,.s (gi ((gi d 30).rows.getD 0 []) 0).str,.i (gi g7 0).int,.t (gi g7 1).bool])) else none) else none) else some (some 1,[.s (⟨#[]⟩:ByteArray),.i 0,.i 0,.i 0,.i 0,.i 0,.s (⟨#[]⟩:ByteArray),.s (⟨#[]⟩:ByteArray),.i 0,.i 0,.s (⟨#[]⟩:ByteArray),.s (⟨#[]⟩:ByteArray),.s (⟨#[]⟩:ByteArray),.s (⟨#[]⟩:ByteArray),.i 0,.t false])) else some (some 1,[.s (⟨#[]⟩:ByteArray),.i 0,.i 0,.i 0,.i 0,.i 0,.s (⟨#[]⟩:ByteArray),.s (⟨#[]⟩:ByteArray),.i 0,.i 0,.s (⟨#[]⟩:ByteArray),.s (⟨#[]⟩:ByteArray),.s (⟨#[]⟩:ByteArray),.s (⟨#[]⟩:ByteArray),.i 0,.t false])))
def l_net_readDeed_15c:LSpec:=⟨15,[],⟨118,[(2,.s (.ptr 0 0)),(7,.s (.ptr 1 0)),(8,.s (.list [.str])),(72,.s (.bool))],[.box [.str,.int .i64,.int .i64,.int .i64,.int .i64,.int .i64,.str,.str,.int .i64,.int .i64,.str,.str,.str,.str,.int .i64],.box [.str,.int .i64,.int .i64,.int .i64,.int .i64,.int .i64,.str,.str,.int .i64,.int .i64,.str,.str,.str,.str,.int .i64]]⟩,[.slot 2,.slot 7],[⟨.normal,⟨118,[(2,.s (.ptr 0 0)),(5,.s (.bool)),(7,.s (.ptr 1 0))],[.box [.str,.int .i64,.int .i64,.int .i64,.int .i64,.int .i64,.str,.str,.int .i64,.int .i64,.str,.str,.str,.str,.int .i64],.box [.str,.int .i64,.int .i64,.int .i64,.int .i64,.int .i64,.str,.str,.int .i64,.int .i64,.str,.str,.str,.str,.int .i64]]⟩,[.slot 2,.slot 7]⟩,⟨.ret,⟨118,[(2,.s (.ptr 0 0)),(3,.s (.bool))],[.box [.str,.int .i64,.int .i64,.int .i64,.int .i64,.int .i64,.str,.str,.int .i64,.int .i64,.str,.str,.str,.str,.int .i64]]⟩,[.slot 2]⟩],tl_net_readDeed_15⟩
theorem r_net_readDeed_15c:CutOK P t91 nL0 0 (cutAt Tryz.f37 15) l_net_readDeed_15c:=fun d=>by kernel_rfl
def L_net_readDeed_15c:LT:=nL0.addCut 0 l_net_readDeed_15c
theorem L_net_readDeed_15c_ok:LpK P 0 L_net_readDeed_15c (bodyOf Tryz.f37):=LpK.aC hm t91_ok (nLk _ _ _) r_net_readDeed_15c
def tl_net_readDeed_13 (d:List G):Option (Option Nat × List G) :=
 (bif (gi d 32).bool then (bif (ltI 0 (((gi d 31).rows.length:Nat):Int)) then some (some 0,[.s (gi d 0).str,.i (gi d 1).int,.i (gi d 2).int,.i (gi d 3).int,.i (gi d 4).int,.i (gi d 5).int,.s (gi d 6).str,.s (gi d 7).str,.i (gi d 8).int,.i (gi d 9).int,.s (gi d 10).str,.s (gi d 11).str,.s (gi d 12).str,.s (gi d 13).str,.i (gi d 14).int,.s (gi d 15).str,.i (gi d 16).int,.i (gi d 17).int,.i (gi d 18).int,.i (gi d 19).int,.i (gi d 20).int,.s (gi d 21).str,.s (gi d 22).str,.i (gi d 23).int,.i (gi d 24).int,.s (gi d 25).str,.s (gi d 26).str,.s (gi ((gi d 31).rows.getD 0 []) 0).str,.s (gi d 28).str,.i (gi d 29).int,.t (gi d 30).bool]) else none) else (bif ((gi d 18).int==3) then (loopB true (cutR (tl_net_readDeed_15 [.s (gi d 0).str,.i (gi d 1).int,.i (gi d 2).int,.i (gi d 3).int,.i (gi d 4).int,.i (gi d 5).int,.s (gi d 6).str,.s (gi d 7).str,.i (gi d 8).int,.i (gi d 9).int,.s (gi d 10).str,.s (gi d 11).str,.s (gi d 12).str,.s (gi d 13).str,.i (gi d 14).int,.s (gi d 15).str,.i (gi d 16).int,.i (gi d 17).int,.i (gi d 18).int,.i (gi d 19).int,.i (gi d 20).int,.s (gi d 21).str,.s (gi d 22).str,.i (gi d 23).int,.i (gi d 24).int,.s (gi d 25).str,.s (gi d 26).str,.s (gi d 27).str,.s (gi d 28).str,.i (gi d 29).int,.l (gi d 31).rows,.t ((((gi d 31).rows.length:Nat):Int)==1)])) fun cg8 g8=>(bif Nat.beq cg8 0 then some (some 0,[.s (gi g8 0).str,.i (gi g8 1).int,.i (gi g8 2).int,.i (gi g8 3).int,.i (gi g8 4).int,.i (gi g8 5).int,.s (gi g8 6).str,.s (gi g8 7).str,.i (gi g8 8).int,.i (gi g8 9).int,.s (gi g8 10).str,.s (gi g8 11).str,.s (gi g8 12).str,.s (gi g8 13).str,.i (gi g8 14).int,.s (gi g8 15).str,.i (gi g8 16).int,.i (gi g8 17).int,.i (gi g8 18).int,.i (gi g8 19).int,.i (gi g8 20).int,.s (gi g8 21).str,.s (gi g8 22).str,.i (gi g8 23).int,.i (gi g8 24).int,.s (gi g8 25).str,.s (gi g8 26).str,.s (gi g8 27).str,.s (gi g8 28).str,.i (gi g8 29).int,.t (gi g8 30).bool]) else some (some 1,[.s (gi g8 0).str,.i (gi g8 1).int,.i (gi g8 2).int,.i (gi g8 3).int,.i (gi g8 4).int,.i (gi g8 5).int,.s (gi g8 6).str,.s (gi g8 7).str,.i (gi g8 8).int,.i (gi g8 9).int,.s (gi g8 10).str,.s (gi g8 11).str,.s (gi g8 12).str,.s (gi g8 13).str,.i (gi g8 14).int,.t (gi g8 15).bool]))) else (bif ((gi d 18).int==4) then (loopB true (cutR (tl_net_readDeed_15 [.s (gi d 0).str,.i (gi d 1).int,.i (gi d 2).int,.i (gi d 3).int,.i (gi d 4).int,.i (gi d 5).int,.s (gi d 6).str,.s (gi d 7).str,.i (gi d 8).int,.i (gi d 9).int,.s (gi d 10).str,.s (gi d 11).str,.s (gi d 12).str,.s (gi d 13).str,.i (gi d 14).int,.s (gi d 15).str,.i (gi d 16).int,.i (gi d 17).int,.i (gi d 18).int,.i (gi d 19).int,.i (gi d 20).int,.s (gi d 21).str,.s (gi d 22).str,.i (gi d 23).int,.i (gi d 24).int,.s (gi d 25).str,.s (gi d 26).str,.s (gi d 27).str,.s (gi d 28).str,.i (gi d 29).int,.l (gi d 31).rows,.t ((((gi d 31).rows.length:Nat):Int)==1)])) fun cg9 g9=>(bif Nat.beq cg9 0 then some (some 0,[.s (gi g9 0).str,.i (gi g9 1).int,.i (gi g9 2).int,.i (gi g9 3).int,.i (gi g9 4).int,.i (gi g9 5).int,.s (gi g9 6).str,.s (gi g9 7).str,.i (gi g9 8).int,.i (gi g9 9).int,.s (gi g9 10).str,.s (gi g9 11).str,.s (gi g9 12).str,.s (gi g9 13).str,.i (gi g9 14).int,.s (gi g9 15).str,.i (gi g9 16).int,.i (gi g9 17).int,.i (gi g9 18).int,.i (gi g9 19).int,.i (gi g9 20).int,.s (gi g9 21).str,.s (gi g9 22).str,.i (gi g9 23).int,.i (gi g9 24).int,.s (gi g9 25).str,.s (gi g9 26).str,.s (gi g9 27).str,.s (gi g9 28).str,.i (gi g9 29).int,.t (gi g9 30).bool]) else some (some 1,[.s (gi g9 0).str,.i (gi g9 1).int,.i (gi g9 2).int,.i (gi g9 3).int,.i (gi g9 4).int,.i (gi g9 5).int,.s (gi g9 6).str,.s (gi g9 7).str,.i (gi g9 8).int,.i (gi g9 9).int,.s (gi g9 10).str,.s (gi g9 11).str,.s (gi g9 12).str,.s (gi g9 13).str,.i (gi g9 14).int,.t (gi g9 15).bool]))) else (loopB true (cutR (tl_net_readDeed_15 [.s (gi d 0).str,.i (gi d 1).int,.i (gi d 2).int,.i (gi d 3).int,.i (gi d 4).int,.i (gi d 5).int,.s (gi d 6).str,.s (gi d 7).str,.i (gi d 8).int,.i (gi d 9).int,.s (gi d 10).str,.s (gi d 11).str,.s (gi d 12).str,.s (gi d 13).str,.i (gi d 14).int,.s (gi d 15).str,.i (gi d 16).int,.i (gi d 17).int,.i (gi d 18).int,.i (gi d 19).int,.i (gi d 20).int,.s (gi d 21).str,.s (gi d 22).str,.i (gi d 23).int,.i (gi d 24).int,.s (gi d 25).str,.s (gi d 26).str,.s (gi d 27).str,.s (gi d 28).str,.i (gi d 29).int,.l (gi d 31).rows,.t false])) fun cg10 g10=>(bif Nat.beq cg10 0 then some (some 0,[.s (gi g10 0).str,.i (gi g10 1).int,.i (gi g10 2).int,.i (gi g10 3).int,.i (gi g10 4).int,.i (gi g10 5).int,.s (gi g10 6).str,.s (gi g10 7).str,.i (gi g10 8).int,.i (gi g10 9).int,.s (gi g10 10).str,.s (gi g10 11).str,.s (gi g10 12).str,.s (gi g10 13).str,.i (gi g10 14).int,.s (gi g10 15).str,.i (gi g10 16).int,.i (gi g10 17).int,.i (gi g10 18).int,.i (gi g10 19).int,.i (gi g10 20).int,.s (gi g10 21).str,.s (gi g10 22).str,.i (gi g10 23).int,.i (gi g10 24).int,.s (gi g10 25).str,.s (gi g10 26).str,.s (gi g10 27).str,.s (gi g10 28).str,.i (gi g10 29).int,.t (gi g10 30).bool]) else some (some 1,[.s (gi g10 0).str,.i (gi g10 1).int,.i (gi g10 2).int,.i (gi g10 3).int,.i (gi g10 4).int,.i (gi g10 5).int,.s (gi g10 6).str,.s (gi g10 7).str,.i (gi g10 8).int,.i (gi g10 9).int,.s (gi g10 10).str,.s (gi g10 11).str,.s (gi g10 12).str,.s (gi g10 13).str,.i (gi g10 14).int,.t (gi g10 15).bool]))))))
def l_net_readDeed_13c:LSpec:=⟨13,[],⟨118,[(2,.s (.ptr 0 0)),(5,.s (.bool)),(7,.s (.ptr 1 0)),(8,.s (.list [.str])),(59,.s (.bool))],[.box [.str,.int .i64,.int .i64,.int .i64,.int .i64,.int .i64,.str,.str,.int .i64,.int .i64,.str,.str,.str,.str,.int .i64],.box [.str,.int .i64,.int .i64,.int .i64,.int .i64,.int .i64,.str,.str,.int .i64,.int .i64,.str,.str,.str,.str,.int .i64]]⟩,[.slot 2,.slot 7],[⟨.normal,⟨118,[(2,.s (.ptr 0 0)),(5,.s (.bool)),(7,.s (.ptr 1 0))],[.box [.str,.int .i64,.int .i64,.int .i64,.int .i64,.int .i64,.str,.str,.int .i64,.int .i64,.str,.str,.str,.str,.int .i64],.box [.str,.int .i64,.int .i64,.int .i64,.int .i64,.int .i64,.str,.str,.int .i64,.int .i64,.str,.str,.str,.str,.int .i64]]⟩,[.slot 2,.slot 7]⟩,⟨.ret,⟨118,[(2,.s (.ptr 0 0)),(3,.s (.bool))],[.box [.str,.int .i64,.int .i64,.int .i64,.int .i64,.int .i64,.str,.str,.int .i64,.int .i64,.str,.str,.str,.str,.int .i64]]⟩,[.slot 2]⟩],tl_net_readDeed_13⟩
theorem r_net_readDeed_13c:CutOK P t91 L_net_readDeed_15c 0 (cutAt Tryz.f37 13) l_net_readDeed_13c:=fun d=>by kernel_rfl
def L_net_readDeed_13c:LT:=L_net_readDeed_15c.addCut 0 l_net_readDeed_13c
theorem L_net_readDeed_13c_ok:LpK P 0 L_net_readDeed_13c (bodyOf Tryz.f37):=LpK.aC hm t91_ok L_net_readDeed_15c_ok r_net_readDeed_13c
def F_net_readDeed (d:List G):Option (List G) :=
 (callF (F_kit_Words [.s (gi d 0).str]) fun g1=>(bif (!(gi g1 1).bool) then some [.l [[.s (⟨#[]⟩:ByteArray),.i 0,.i 0,.i 0,.i 0,.i 0,.s (⟨#[]⟩:ByteArray),.s (⟨#[]⟩:ByteArray),.i 0,.i 0,.s (⟨#[]⟩:ByteArray),.s (⟨#[]⟩:ByteArray),.s (⟨#[]⟩:ByteArray),.s (⟨#[]⟩:ByteArray),.i 0]],.t false] else (bif (leI (((gi g1 0).rows.length:Nat):Int) 4) then some [.l [[.s (⟨#[]⟩:ByteArray),.i 0,.i 0,.i 0,.i 0,.i 0,.s (⟨#[]⟩:ByteArray),.s (⟨#[]⟩:ByteArray),.i 0,.i 0,.s (⟨#[]⟩:ByteArray),.s (⟨#[]⟩:ByteArray),.s (⟨#[]⟩:ByteArray),.s (⟨#[]⟩:ByteArray),.i 0]],.t false] else (bif (leI 3 (((gi g1 0).rows.length:Nat):Int)) then (callF (F_kit_Numbers [.l (((gi g1 0).rows.drop 1).take (3-1))]) fun g2=>(bif (!(gi g2 1).bool) then some [.l [[.s (⟨#[]⟩:ByteArray),.i 0,.i 0,.i 0,.i 0,.i 0,.s (⟨#[]⟩:ByteArray),.s (⟨#[]⟩:ByteArray),.i 0,.i 0,.s (⟨#[]⟩:ByteArray),.s (⟨#[]⟩:ByteArray),.s (⟨#[]⟩:ByteArray),.s (⟨#[]⟩:ByteArray),.i 0]],.t false] else (bif (ltI 0 (((gi g1 0).rows.length:Nat):Int)) then (bif (ltI 0 (((gi g2 0).rows.length:Nat):Int)) then (bif (ltI 1 (((gi g2 0).rows.length:Nat):Int)) then (callF (F_net_kindWords []) fun g3=>(bif (ltI 3 (((gi g1 0).rows.length:Nat):Int)) then (callF (F_sl_Index_string [.l (gi g3 0).rows,.s (gi ((gi g1 0).rows.getD 3 []) 0).str]) fun g4=>(bif (leI 4 (((gi g1 0).rows.length:Nat):Int)) then (bif ((gi g4 0).int==1) then (callF (F_log_ReadWords [.l ((gi g1 0).rows.drop 4)]) fun g5=>some [.l [[.s (gi ((gi g1 0).rows.getD 0 []) 0).str,.i (gi ((gi g2 0).rows.getD 0 []) 0).int,.i (gi ((gi g2 0).rows.getD 1 []) 0).int,.i (gi g4 0).int,.i (gi (gi g5 0).row 0).int,.i (gi (gi g5 0).row 1).int,.s (gi (gi g5 0).row 2).str,.s (gi (gi g5 0).row 3).str,.i (gi (gi g5 0).row 4).int,.i (gi (gi g5 0).row 5).int,.s (gi (gi g5 0).row 6).str,.s (gi (gi g5 0).row 7).str,.s (⟨#[]⟩:ByteArray),.s (⟨#[]⟩:ByteArray),.i 0]],.t (gi g5 1).bool]) else (bif ((gi g4 0).int==2) then (loopB true (cutR (tl_net_readDeed_13 [.s (⟨#[]⟩:ByteArray),.i 0,.i 0,.i 0,.i 0,.i 0,.s (⟨#[]⟩:ByteArray),.s (⟨#[]⟩:ByteArray),.i 0,.i 0,.s (⟨#[]⟩:ByteArray),.s (⟨#[]⟩:ByteArray),.s (⟨#[]⟩:ByteArray),.s (⟨#[]⟩:ByteArray),.i 0,.s (gi ((gi g1 0).rows.getD 0 []) 0).str,.i (gi ((gi g2 0).rows.getD 0 []) 0).int,.i (gi ((gi g2 0).rows.getD 1 []) 0).int,.i (gi g4 0).int,.i 0,.i 0,.s (⟨#[]⟩:ByteArray),.s (⟨#[]⟩:ByteArray),.i 0,.i 0,.s (⟨#[]⟩:ByteArray),.s (⟨#[]⟩:ByteArray),.s (⟨#[]⟩:ByteArray),.s (⟨#[]⟩:ByteArray),.i 0,.t (gi g2 1).bool,.l ((gi g1 0).rows.drop 4),.t (((((gi g1 0).rows.drop 4).length:Nat):Int)==1)])) fun cg11 g11=>(bif Nat.beq cg11 0 then some [.l [[.s (gi g11 15).str,.i (gi g11 16).int,.i (gi g11 17).int,.i (gi g11 18).int,.i (gi g11 19).int,.i (gi g11 20).int,.s (gi g11 21).str,.s (gi g11 22).str,.i (gi g11 23).int,.i (gi g11 24).int,.s (gi g11 25).str,.s (gi g11 26).str,.s (gi g11 27).str,.s (gi g11 28).str,.i (gi g11 29).int]],.t (gi g11 30).bool] else some [.l [(gEta KDeed g11)],.t (gi g11 15).bool])) else (loopB true (cutR (tl_net_readDeed_13 [.s (⟨#[]⟩:ByteArray),.i 0,.i 0,.i 0,.i 0,.i 0,.s (⟨#[]⟩:ByteArray),.s (⟨#[]⟩:ByteArray),.i 0,.i 0,.s (⟨#[]⟩:ByteArray),.s (⟨#[]⟩:ByteArray),.s (⟨#[]⟩:ByteArray),.s (⟨#[]⟩:ByteArray),.i 0,.s (gi ((gi g1 0).rows.getD 0 []) 0).str,.i (gi ((gi g2 0).rows.getD 0 []) 0).int,.i (gi ((gi g2 0).rows.getD 1 []) 0).int,.i (gi g4 0).int,.i 0,.i 0,.s (⟨#[]⟩:ByteArray),.s (⟨#[]⟩:ByteArray),.i 0,.i 0,.s (⟨#[]⟩:ByteArray),.s (⟨#[]⟩:ByteArray),.s (⟨#[]⟩:ByteArray),.s (⟨#[]⟩:ByteArray),.i 0,.t (gi g2 1).bool,.l ((gi g1 0).rows.drop 4),.t false])) fun cg12 g12=>(bif Nat.beq cg12 0 then some [.l [[.s (gi g12 15).str,.i (gi g12 16).int,.i (gi g12 17).int,.i (gi g12 18).int,.i (gi g12 19).int,.i (gi g12 20).int,.s (gi g12 21).str,.s (gi g12 22).str,.i (gi g12 23).int,.i (gi g12 24).int,.s (gi g12 25).str,.s (gi g12 26).str,.s (gi g12 27).str,.s (gi g12 28).str,.i (gi g12 29).int]],.t (gi g12 30).bool] else some [.l [(gEta KDeed g12)],.t (gi g12 15).bool])))) else none)) else none)) else none) else none) else none))) else none))))
def s_net_readDeed:FSpec:=⟨37,[.s (.str)],[],[],[.s (.row KDeed),.s (.bool)],[],[],[],F_net_readDeed⟩
theorem b_net_readDeed:BodyOK P t91 L_net_readDeed_13c Tryz.f37 s_net_readDeed:=fun d=>by kernel_rfl
theorem c_net_readDeed:COK P s_net_readDeed:=bdC hm t91_ok Tryz.func37 L_net_readDeed_13c_ok b_net_readDeed
def t92:Tab:=t91.addP s_net_readDeed
theorem t92_ok:TabOK P t92:=t91_ok.aP c_net_readDeed

def st_net_Read_6 (d:List G):Option (Option Nat × List G) :=
 (bif (ltI (gi d 5).int (gi d 4).int) then (bif ((nnI (gi d 5).int)&&(ltI (gi d 5).int (((gi d 3).rows.length:Nat):Int))) then (callF (F_net_readDeed [.s (gi ((gi d 3).rows.getD (((gi d 5).int).toNat) []) 0).str]) fun g2=>(bif (!(gi g2 1).bool) then some (some 0,[.l [],.i (gi d 5).int,.i 9]) else (bif (!(gi d 2).bool) then (bif (inI ((((gi d 1).rows.length:Nat):Int)-1)) then (bif ((gi d 5).int==((((gi d 1).rows.length:Nat):Int)-1)) then some (some 0,[.l [],.i (gi d 5).int,.i 9]) else (bif ((Nat.beq (gi d 0).rows.length (gi d 0).rows.length)&&(decide (((gi d 0).rows.length+1)≤1048576))) then (bif (inI ((gi d 5).int+1)) then (bif ((Nat.beq ((gi d 0).rows++([(gEta KDeed (gi g2 0).row)]:List (List G))).length ((gi d 0).rows++([(gEta KDeed (gi g2 0).row)]:List (List G))).length)&&true) then some (none,[.l ((gi d 0).rows++([(gEta KDeed (gi g2 0).row)]:List (List G))),.l (gi d 1).rows,.t (gi d 2).bool,.l (gi d 3).rows,.i (gi d 4).int,.i ((gi d 5).int+1)]) else none) else none) else none)) else none) else (bif ((Nat.beq (gi d 0).rows.length (gi d 0).rows.length)&&(decide (((gi d 0).rows.length+1)≤1048576))) then (bif (inI ((gi d 5).int+1)) then (bif ((Nat.beq ((gi d 0).rows++([(gEta KDeed (gi g2 0).row)]:List (List G))).length ((gi d 0).rows++([(gEta KDeed (gi g2 0).row)]:List (List G))).length)&&true) then some (none,[.l ((gi d 0).rows++([(gEta KDeed (gi g2 0).row)]:List (List G))),.l (gi d 1).rows,.t (gi d 2).bool,.l (gi d 3).rows,.i (gi d 4).int,.i ((gi d 5).int+1)]) else none) else none) else none)))) else none) else (bif ((Nat.beq (gi d 0).rows.length (gi d 0).rows.length)&&true) then some (some 1,[.l (gi d 0).rows]) else none))
def l_net_Read_6:LSpec:=⟨6,[(7,KDeed)],⟨58,[(5,.s (.list [.str])),(6,.s (.bool)),(7,.s (.vec 0 15)),(21,.s (.list [.str])),(22,.s (.int .i64)),(23,.s (.int .i64))],[.vec KDeed 0]⟩,[.slot 7],[⟨.ret,⟨58,[(2,.s (.list KDeed)),(3,.s (.int .i64)),(4,.s (.int .i64))],[]⟩,[]⟩,⟨.exit 0,⟨58,[(7,.s (.vec 0 15))],[.vec KDeed 0]⟩,[.slot 7]⟩],st_net_Read_6⟩
theorem r_net_Read_6:RoundOK P (t92.lessPf [24]) nL0 0 (loopAt Tryz.f10 6) l_net_Read_6:=fun d=>by kernel_rfl
def L_net_Read_6:LT:=nL0.add 0 l_net_Read_6
theorem L_net_Read_6_ok:LpK P 0 L_net_Read_6 (bodyOf Tryz.f10):=LpK.add hm (t92_ok.lessPf [24]) (by kernel_rfl) (nLk _ _ _) r_net_Read_6
def F_net_Read (d:List G):Option (List G) :=
 (bif (ltI 200000 (((gi d 0).str.size:Nat):Int)) then some [.l [],.i 0,.i 2] else (callF (F_kit_Lines [.s (gi d 0).str]) fun g1=>(loopB true (LRun st_net_Read_6 [.l [],.l (gi g1 0).rows,.t (gi g1 1).bool,.l (gi g1 0).rows,.i (((gi g1 0).rows.length:Nat):Int),.i 0]) fun cg3 g3=>(bif Nat.beq cg3 0 then some [.l (gi g3 0).rows,.i (gi g3 1).int,.i (gi g3 2).int] else (callB (((Nat.beq (gi g3 0).rows.length (gi g3 0).rows.length)&&true)&&(F_net_CheckDeeds [.l (gi g3 0).rows]).isSome) (F_net_CheckDeeds [.l (gi g3 0).rows]) fun g4=>(bif ((gi g4 0).int != 0) then some [.l [],.i 0,.i (gi g4 0).int] else (bif ((Nat.beq (gi g3 0).rows.length (gi g3 0).rows.length)&&true) then some [.l (gi g3 0).rows,.i 0,.i 0] else none)))))))
def s_net_Read:FSpec:=⟨10,[.s (.str)],[],[],[.s (.list KDeed),.s (.int .i64),.s (.int .i64)],[],[],[],F_net_Read⟩
theorem b_net_Read:BodyOK P (t92.lessPf [24]) L_net_Read_6 Tryz.f10 s_net_Read:=fun d=>by kernel_rfl
theorem c_net_Read:COK P s_net_Read:=bodyC hm (t92_ok.lessPf [24]) Tryz.func10 (by kernel_rfl) L_net_Read_6_ok b_net_Read (by kernel_rfl)
def t93:Tab:=t92.addP s_net_Read
theorem t93_ok:TabOK P t93:=t92_ok.aP c_net_Read

def F_sl_Contains_string (d:List G):Option (List G) :=
 (callF (F_sl_Index_string [.l (gi d 0).rows,.s (gi d 1).str]) fun g1=>some [.t (leI 0 (gi g1 0).int)])
def s_sl_Contains_string:FSpec:=⟨73,[.s (.list [.str]),.s (.str)],[],[],[.s (.bool)],[],[],[],F_sl_Contains_string⟩
theorem b_sl_Contains_string:BodyOK P t93 nL0 Tryz.f73 s_sl_Contains_string:=fun d=>by kernel_rfl
theorem c_sl_Contains_string:COK P s_sl_Contains_string:=bdC hm t93_ok Tryz.func73 (nLk _ _ _) b_sl_Contains_string
def t94:Tab:=t93.addP s_sl_Contains_string
theorem t94_ok:TabOK P t94:=t93_ok.aP c_sl_Contains_string

def F_r2_Words (d:List G):Option (List G) :=
 (callF (F_strings_Split [.s (gi d 0).str,.s (⟨#[32]⟩:ByteArray)]) fun g1=>(callF (F_sl_Contains_string [.l (gi g1 0).rows,.s (⟨#[]⟩:ByteArray)]) fun g2=>some [.l (gi g1 0).rows,.t (!(gi g2 0).bool)]))
def s_r2_Words:FSpec:=⟨40,[.s (.str)],[],[],[.s (.list [.str]),.s (.bool)],[],[],[],F_r2_Words⟩
theorem b_r2_Words:BodyOK P t94 nL0 Tryz.f40 s_r2_Words:=fun d=>by kernel_rfl
theorem c_r2_Words:COK P s_r2_Words:=bdC hm t94_ok Tryz.func40 (nLk _ _ _) b_r2_Words
def t95:Tab:=t94.addP s_r2_Words
theorem t95_ok:TabOK P t95:=t94_ok.aP c_r2_Words

def F_stringslite_TrimPrefix (d:List G):Option (List G) :=
 (callF (F_stringslite_HasPrefix [.s (gi d 0).str,.s (gi d 1).str]) fun g1=>(bif (gi g1 0).bool then (bif ((nnI (((gi d 1).str.size:Nat):Int))&&(leI (((gi d 1).str.size:Nat):Int) (((gi d 0).str.size:Nat):Int))) then some [.s ((gi d 0).str.extract (gi d 1).str.size (gi d 0).str.size)] else none) else some [.s (gi d 0).str]))
def s_stringslite_TrimPrefix:FSpec:=⟨102,[.s (.str),.s (.str)],[],[],[.s (.str)],[],[],[],F_stringslite_TrimPrefix⟩
theorem b_stringslite_TrimPrefix:BodyOK P t95 nL0 Tryz.f102 s_stringslite_TrimPrefix:=fun d=>by kernel_rfl
theorem c_stringslite_TrimPrefix:COK P s_stringslite_TrimPrefix:=bdC hm t95_ok Tryz.func102 (nLk _ _ _) b_stringslite_TrimPrefix
def t96:Tab:=t95.addP s_stringslite_TrimPrefix
theorem t96_ok:TabOK P t96:=t95_ok.aP c_stringslite_TrimPrefix

def F_strings_TrimPrefix (d:List G):Option (List G) :=
 (callF (F_stringslite_TrimPrefix [.s (gi d 0).str,.s (gi d 1).str]) fun g1=>some [.s (gi g1 0).str])
def s_strings_TrimPrefix:FSpec:=⟨75,[.s (.str),.s (.str)],[],[],[.s (.str)],[],[],[],F_strings_TrimPrefix⟩
theorem b_strings_TrimPrefix:BodyOK P t96 nL0 Tryz.f75 s_strings_TrimPrefix:=fun d=>by kernel_rfl
theorem c_strings_TrimPrefix:COK P s_strings_TrimPrefix:=bdC hm t96_ok Tryz.func75 (nLk _ _ _) b_strings_TrimPrefix
def t97:Tab:=t96.addP s_strings_TrimPrefix
theorem t97_ok:TabOK P t97:=t96_ok.aP c_strings_TrimPrefix

def F_r2_Number (d:List G):Option (List G) :=
 (callF (F_strings_TrimPrefix [.s (gi d 0).str,.s (⟨#[45]⟩:ByteArray)]) fun g1=>(bif ((gi g1 0).str.toList==(⟨#[]⟩:ByteArray).toList) then some [.i 0,.t false] else (bif (ltI (gi d 1).int (((gi g1 0).str.size:Nat):Int)) then some [.i 0,.t false] else (callF (F_r2_only [.s (gi g1 0).str,.s (⟨#[48,49,50,51,52,53,54,55,56,57]⟩:ByteArray)]) fun g2=>(bif (!(gi g2 0).bool) then some [.i 0,.t false] else (callF (F_strconv_Atoi [.s (gi d 0).str]) fun g3=>(callF (F_strconv_Itoa [.i (gi g3 0).int]) fun g4=>some [.i (gi g3 0).int,.t ((gi g4 0).str.toList==(gi d 0).str.toList)])))))))
def s_r2_Number:FSpec:=⟨43,[.s (.str),.s (.int .i64)],[],[],[.s (.int .i64),.s (.bool)],[],[],[],F_r2_Number⟩
theorem b_r2_Number:BodyOK P t97 nL0 Tryz.f43 s_r2_Number:=fun d=>by kernel_rfl
theorem c_r2_Number:COK P s_r2_Number:=bdC hm t97_ok Tryz.func43 (nLk _ _ _) b_r2_Number
def t98:Tab:=t97.addP s_r2_Number
theorem t98_ok:TabOK P t98:=t97_ok.aP c_r2_Number

def st_r2_NumbersIn_4 (d:List G):Option (Option Nat × List G) :=
 (bif (ltI (gi d 5).int (gi d 4).int) then (bif ((nnI (gi d 5).int)&&(ltI (gi d 5).int (((gi d 3).rows.length:Nat):Int))) then (callF (F_r2_Number [.s (gi ((gi d 3).rows.getD (((gi d 5).int).toNat) []) 0).str,.i (gi d 1).int]) fun g1=>(bif ((Nat.beq (gi d 0).rows.length (gi d 0).rows.length)&&(decide (((gi d 0).rows.length+1)≤1048576))) then (bif (gi d 2).bool then (bif (inI ((gi d 5).int+1)) then (bif ((Nat.beq ((gi d 0).rows++([[.i (gi g1 0).int]]:List (List G))).length ((gi d 0).rows++([[.i (gi g1 0).int]]:List (List G))).length)&&true) then some (none,[.l ((gi d 0).rows++([[.i (gi g1 0).int]]:List (List G))),.i (gi d 1).int,.t (gi g1 1).bool,.l (gi d 3).rows,.i (gi d 4).int,.i ((gi d 5).int+1)]) else none) else none) else (bif (inI ((gi d 5).int+1)) then (bif ((Nat.beq ((gi d 0).rows++([[.i (gi g1 0).int]]:List (List G))).length ((gi d 0).rows++([[.i (gi g1 0).int]]:List (List G))).length)&&true) then some (none,[.l ((gi d 0).rows++([[.i (gi g1 0).int]]:List (List G))),.i (gi d 1).int,.t false,.l (gi d 3).rows,.i (gi d 4).int,.i ((gi d 5).int+1)]) else none) else none)) else none)) else none) else (bif ((Nat.beq (gi d 0).rows.length (gi d 0).rows.length)&&true) then some (some 0,[.l (gi d 0).rows,.t (gi d 2).bool]) else none))
def l_r2_NumbersIn_4:LSpec:=⟨4,[(6,[.int .i64])],⟨35,[(1,.s (.int .i64)),(6,.s (.vec 0 1)),(7,.s (.bool)),(12,.s (.list [.str])),(13,.s (.int .i64)),(14,.s (.int .i64))],[.vec [.int .i64] 0]⟩,[.slot 6],[⟨.exit 0,⟨35,[(6,.s (.vec 0 1)),(7,.s (.bool))],[.vec [.int .i64] 0]⟩,[.slot 6]⟩],st_r2_NumbersIn_4⟩
theorem r_r2_NumbersIn_4:RoundOK P t98 nL0 0 (loopAt Tryz.f41 4) l_r2_NumbersIn_4:=fun d=>by kernel_rfl
def L_r2_NumbersIn_4:LT:=nL0.add 0 l_r2_NumbersIn_4
theorem L_r2_NumbersIn_4_ok:LpK P 0 L_r2_NumbersIn_4 (bodyOf Tryz.f41):=LpK.a hm t98_ok (nLk _ _ _) r_r2_NumbersIn_4
def F_r2_NumbersIn (d:List G):Option (List G) :=
 (loopB true (LRun st_r2_NumbersIn_4 [.l [],.i (gi d 1).int,.t true,.l (gi d 0).rows,.i (((gi d 0).rows.length:Nat):Int),.i 0]) fun cg2 g2=>(bif ((Nat.beq (gi g2 0).rows.length (gi g2 0).rows.length)&&true) then some [.l (gi g2 0).rows,.t (gi g2 1).bool] else none))
def s_r2_NumbersIn:FSpec:=⟨41,[.s (.list [.str]),.s (.int .i64)],[],[],[.s (.list [.int .i64]),.s (.bool)],[],[],[],F_r2_NumbersIn⟩
theorem b_r2_NumbersIn:BodyOK P t98 L_r2_NumbersIn_4 Tryz.f41 s_r2_NumbersIn:=fun d=>by kernel_rfl
theorem c_r2_NumbersIn:COK P s_r2_NumbersIn:=bdC hm t98_ok Tryz.func41 L_r2_NumbersIn_4_ok b_r2_NumbersIn
def t99:Tab:=t98.addP s_r2_NumbersIn
theorem t99_ok:TabOK P t99:=t98_ok.aP c_r2_NumbersIn

def F_r2_undash (d:List G):Option (List G) :=
 (bif ((gi d 0).str.toList==(⟨#[45]⟩:ByteArray).toList) then some [.s (⟨#[]⟩:ByteArray)] else some [.s (gi d 0).str])
def s_r2_undash:FSpec:=⟨74,[.s (.str)],[],[],[.s (.str)],[],[],[],F_r2_undash⟩
theorem b_r2_undash:BodyOK P t99 nL0 Tryz.f74 s_r2_undash:=fun d=>by kernel_rfl
theorem c_r2_undash:COK P s_r2_undash:=bdC hm t99_ok Tryz.func74 (nLk _ _ _) b_r2_undash
def t100:Tab:=t99.addP s_r2_undash
theorem t100_ok:TabOK P t100:=t99_ok.aP c_r2_undash

def F_r2_ContactIn (d:List G):Option (List G) :=
 (bif ((((gi d 0).rows.length:Nat):Int) != 8) then some [.l [[.i 0,.i 0,.s (⟨#[]⟩:ByteArray),.s (⟨#[]⟩:ByteArray),.i 0,.i 0,.s (⟨#[]⟩:ByteArray),.s (⟨#[]⟩:ByteArray)]],.t false] else (bif (ltI 0 (((gi d 0).rows.length:Nat):Int)) then (bif (ltI 4 (((gi d 0).rows.length:Nat):Int)) then (bif (ltI 6 (((gi d 0).rows.length:Nat):Int)) then (callF (F_r2_NumbersIn [.l [[.s (gi ((gi d 0).rows.getD 0 []) 0).str],[.s (gi ((gi d 0).rows.getD 4 []) 0).str],[.s (gi ((gi d 0).rows.getD 6 []) 0).str]],.i 15]) fun g1=>(bif (ltI 0 (((gi g1 0).rows.length:Nat):Int)) then (callF (F_r2_plainModes []) fun g2=>(bif (ltI 1 (((gi d 0).rows.length:Nat):Int)) then (callF (F_sl_Index_string [.l (gi g2 0).rows,.s (gi ((gi d 0).rows.getD 1 []) 0).str]) fun g3=>(bif (ltI 2 (((gi d 0).rows.length:Nat):Int)) then (bif (ltI 3 (((gi d 0).rows.length:Nat):Int)) then (bif (ltI 1 (((gi g1 0).rows.length:Nat):Int)) then (bif (ltI 5 (((gi d 0).rows.length:Nat):Int)) then (callF (F_r2_undash [.s (gi ((gi d 0).rows.getD 5 []) 0).str]) fun g4=>(bif (ltI 2 (((gi g1 0).rows.length:Nat):Int)) then (bif (ltI 7 (((gi d 0).rows.length:Nat):Int)) then (callF (F_r2_undash [.s (gi ((gi d 0).rows.getD 7 []) 0).str]) fun g5=>(bif (gi g1 1).bool then some [.l [[.i (gi ((gi g1 0).rows.getD 0 []) 0).int,.i (gi g3 0).int,.s (gi ((gi d 0).rows.getD 2 []) 0).str,.s (gi ((gi d 0).rows.getD 3 []) 0).str,.i (gi ((gi g1 0).rows.getD 1 []) 0).int,.i (gi ((gi g1 0).rows.getD 2 []) 0).int,.s (gi g4 0).str,.s (gi g5 0).str]],.t (ltI 0 (gi g3 0).int)] else some [.l [[.i (gi ((gi g1 0).rows.getD 0 []) 0).int,.i (gi g3 0).int,.s (gi ((gi d 0).rows.getD 2 []) 0).str,.s (gi ((gi d 0).rows.getD 3 []) 0).str,.i (gi ((gi g1 0).rows.getD 1 []) 0).int,.i (gi ((gi g1 0).rows.getD 2 []) 0).int,.s (gi g4 0).str,.s (gi g5 0).str]],.t false])) else none) else none)) else none) else none) else none) else none)) else none)) else none)) else none) else none) else none))
def s_r2_ContactIn:FSpec:=⟨42,[.s (.list [.str])],[],[],[.s (.row KCt),.s (.bool)],[],[],[],F_r2_ContactIn⟩
theorem b_r2_ContactIn:BodyOK P t100 nL0 Tryz.f42 s_r2_ContactIn:=fun d=>by kernel_rfl
theorem c_r2_ContactIn:COK P s_r2_ContactIn:=bdC hm t100_ok Tryz.func42 (nLk _ _ _) b_r2_ContactIn
def t101:Tab:=t100.addP s_r2_ContactIn
theorem t101_ok:TabOK P t101:=t100_ok.aP c_r2_ContactIn

def F_r2_DeedsRead_1 (d:List G):Option (List G) :=
 (callF (F_r2_Words [.s (gi d 1).str]) fun g1=>(bif (!(gi g1 1).bool) then (bif ((((Nat.beq (gi d 0).rows.length (gi d 0).rows.length)&&true)&&true)&&true) then some [.l (gi d 0).rows,.t false] else none) else (bif (ltI (((gi g1 0).rows.length:Nat):Int) 5) then (bif ((((Nat.beq (gi d 0).rows.length (gi d 0).rows.length)&&true)&&true)&&true) then some [.l (gi d 0).rows,.t false] else none) else (bif (ltI 3 (((gi g1 0).rows.length:Nat):Int)) then (bif ((((gi g1 0).rows.length:Nat):Int) != (gi (mget [.str] (mput [.str] (mput [.str] (mput [.str] (mput [.str] (mput [.str] [] [.s (⟨#[108,111,103]⟩:ByteArray)] [.i 12] 0) [.s (⟨#[116,117,110,101]⟩:ByteArray)] [.i 5] (mclk [.str] [] [.s (⟨#[108,111,103]⟩:ByteArray)] 0)) [.s (⟨#[104,101,108,100]⟩:ByteArray)] [.i 5] (mclk [.str] (mput [.str] [] [.s (⟨#[108,111,103]⟩:ByteArray)] [.i 12] 0) [.s (⟨#[116,117,110,101]⟩:ByteArray)] (mclk [.str] [] [.s (⟨#[108,111,103]⟩:ByteArray)] 0))) [.s (⟨#[102,114,101,101]⟩:ByteArray)] [.i 5] (mclk [.str] (mput [.str] (mput [.str] [] [.s (⟨#[108,111,103]⟩:ByteArray)] [.i 12] 0) [.s (⟨#[116,117,110,101]⟩:ByteArray)] [.i 5] (mclk [.str] [] [.s (⟨#[108,111,103]⟩:ByteArray)] 0)) [.s (⟨#[104,101,108,100]⟩:ByteArray)] (mclk [.str] (mput [.str] [] [.s (⟨#[108,111,103]⟩:ByteArray)] [.i 12] 0) [.s (⟨#[116,117,110,101]⟩:ByteArray)] (mclk [.str] [] [.s (⟨#[108,111,103]⟩:ByteArray)] 0)))) [.s (⟨#[117,110,100,111]⟩:ByteArray)] [.i 6] (mclk [.str] (mput [.str] (mput [.str] (mput [.str] [] [.s (⟨#[108,111,103]⟩:ByteArray)] [.i 12] 0) [.s (⟨#[116,117,110,101]⟩:ByteArray)] [.i 5] (mclk [.str] [] [.s (⟨#[108,111,103]⟩:ByteArray)] 0)) [.s (⟨#[104,101,108,100]⟩:ByteArray)] [.i 5] (mclk [.str] (mput [.str] [] [.s (⟨#[108,111,103]⟩:ByteArray)] [.i 12] 0) [.s (⟨#[116,117,110,101]⟩:ByteArray)] (mclk [.str] [] [.s (⟨#[108,111,103]⟩:ByteArray)] 0))) [.s (⟨#[102,114,101,101]⟩:ByteArray)] (mclk [.str] (mput [.str] (mput [.str] [] [.s (⟨#[108,111,103]⟩:ByteArray)] [.i 12] 0) [.s (⟨#[116,117,110,101]⟩:ByteArray)] [.i 5] (mclk [.str] [] [.s (⟨#[108,111,103]⟩:ByteArray)] 0)) [.s (⟨#[104,101,108,100]⟩:ByteArray)] (mclk [.str] (mput [.str] [] [.s (⟨#[108,111,103]⟩:ByteArray)] [.i 12] 0) [.s (⟨#[116,117,110,101]⟩:ByteArray)] (mclk [.str] [] [.s (⟨#[108,111,103]⟩:ByteArray)] 0))))) [.s (gi ((gi g1 0).rows.getD 3 []) 0).str] [.i 0]) 0).int) then (bif ((((Nat.beq (gi d 0).rows.length (gi d 0).rows.length)&&true)&&true)&&true) then some [.l (gi d 0).rows,.t false] else none) else (bif (leI 3 (((gi g1 0).rows.length:Nat):Int)) then (callF (F_r2_NumbersIn [.l (((gi g1 0).rows.drop 1).take (3-1)),.i 15]) fun g2=>(bif (ltI 0 (((gi g1 0).rows.length:Nat):Int)) then (bif (ltI 0 (((gi g2 0).rows.length:Nat):Int)) then (bif (ltI 1 (((gi g2 0).rows.length:Nat):Int)) then (bif (ltI 3 (((gi g1 0).rows.length:Nat):Int)) then (bif ((gi ((gi g1 0).rows.getD 3 []) 0).str.toList==(⟨#[108,111,103]⟩:ByteArray).toList) then (bif (leI 4 (((gi g1 0).rows.length:Nat):Int)) then (callF (F_r2_ContactIn [.l ((gi g1 0).rows.drop 4)]) fun g3=>(bif ((Nat.beq (gi d 0).rows.length (gi d 0).rows.length)&&(decide (((gi d 0).rows.length+1)≤1048576))) then (bif (gi g2 1).bool then (bif ((((Nat.beq ((gi d 0).rows++([[.s (gi ((gi g1 0).rows.getD 0 []) 0).str,.i (gi ((gi g2 0).rows.getD 0 []) 0).int,.i (gi ((gi g2 0).rows.getD 1 []) 0).int,.i 1,.i (gi (gi g3 0).row 0).int,.i (gi (gi g3 0).row 1).int,.s (gi (gi g3 0).row 2).str,.s (gi (gi g3 0).row 3).str,.i (gi (gi g3 0).row 4).int,.i (gi (gi g3 0).row 5).int,.s (gi (gi g3 0).row 6).str,.s (gi (gi g3 0).row 7).str,.s (⟨#[]⟩:ByteArray),.s (⟨#[]⟩:ByteArray),.i 0]]:List (List G))).length ((gi d 0).rows++([[.s (gi ((gi g1 0).rows.getD 0 []) 0).str,.i (gi ((gi g2 0).rows.getD 0 []) 0).int,.i (gi ((gi g2 0).rows.getD 1 []) 0).int,.i 1,.i (gi (gi g3 0).row 0).int,.i (gi (gi g3 0).row 1).int,.s (gi (gi g3 0).row 2).str,.s (gi (gi g3 0).row 3).str,.i (gi (gi g3 0).row 4).int,.i (gi (gi g3 0).row 5).int,.s (gi (gi g3 0).row 6).str,.s (gi (gi g3 0).row 7).str,.s (⟨#[]⟩:ByteArray),.s (⟨#[]⟩:ByteArray),.i 0]]:List (List G))).length)&&true)&&true)&&true) then some [.l ((gi d 0).rows++([[.s (gi ((gi g1 0).rows.getD 0 []) 0).str,.i (gi ((gi g2 0).rows.getD 0 []) 0).int,.i (gi ((gi g2 0).rows.getD 1 []) 0).int,.i 1,.i (gi (gi g3 0).row 0).int,.i (gi (gi g3 0).row 1).int,.s (gi (gi g3 0).row 2).str,.s (gi (gi g3 0).row 3).str,.i (gi (gi g3 0).row 4).int,.i (gi (gi g3 0).row 5).int,.s (gi (gi g3 0).row 6).str,.s (gi (gi g3 0).row 7).str,.s (⟨#[]⟩:ByteArray),.s (⟨#[]⟩:ByteArray),.i 0]]:List (List G))),.t (gi g3 1).bool] else none) else (bif ((((Nat.beq ((gi d 0).rows++([[.s (gi ((gi g1 0).rows.getD 0 []) 0).str,.i (gi ((gi g2 0).rows.getD 0 []) 0).int,.i (gi ((gi g2 0).rows.getD 1 []) 0).int,.i 1,.i (gi (gi g3 0).row 0).int,.i (gi (gi g3 0).row 1).int,.s (gi (gi g3 0).row 2).str,.s (gi (gi g3 0).row 3).str,.i (gi (gi g3 0).row 4).int,.i (gi (gi g3 0).row 5).int,.s (gi (gi g3 0).row 6).str,.s (gi (gi g3 0).row 7).str,.s (⟨#[]⟩:ByteArray),.s (⟨#[]⟩:ByteArray),.i 0]]:List (List G))).length ((gi d 0).rows++([[.s (gi ((gi g1 0).rows.getD 0 []) 0).str,.i (gi ((gi g2 0).rows.getD 0 []) 0).int,.i (gi ((gi g2 0).rows.getD 1 []) 0).int,.i 1,.i (gi (gi g3 0).row 0).int,.i (gi (gi g3 0).row 1).int,.s (gi (gi g3 0).row 2).str,.s (gi (gi g3 0).row 3).str,.i (gi (gi g3 0).row 4).int,.i (gi (gi g3 0).row 5).int,.s (gi (gi g3 0).row 6).str,.s (gi (gi g3 0).row 7).str,.s (⟨#[]⟩:ByteArray),.s (⟨#[]⟩:ByteArray),.i 0]]:List (List G))).length)&&true)&&true)&&true) then some [.l ((gi d 0).rows++([[.s (gi ((gi g1 0).rows.getD 0 []) 0).str,.i (gi ((gi g2 0).rows.getD 0 []) 0).int,.i (gi ((gi g2 0).rows.getD 1 []) 0).int,.i 1,.i (gi (gi g3 0).row 0).int,.i (gi (gi g3 0).row 1).int,.s (gi (gi g3 0).row 2).str,.s (gi (gi g3 0).row 3).str,.i (gi (gi g3 0).row 4).int,.i (gi (gi g3 0).row 5).int,.s (gi (gi g3 0).row 6).str,.s (gi (gi g3 0).row 7).str,.s (⟨#[]⟩:ByteArray),.s (⟨#[]⟩:ByteArray),.i 0]]:List (List G))),.t false] else none)) else none)) else none) else (bif ((gi ((gi g1 0).rows.getD 3 []) 0).str.toList==(⟨#[116,117,110,101]⟩:ByteArray).toList) then (bif (ltI 4 (((gi g1 0).rows.length:Nat):Int)) then (bif ((Nat.beq (gi d 0).rows.length (gi d 0).rows.length)&&(decide (((gi d 0).rows.length+1)≤1048576))) then (bif (gi g2 1).bool then (bif ((((Nat.beq ((gi d 0).rows++([[.s (gi ((gi g1 0).rows.getD 0 []) 0).str,.i (gi ((gi g2 0).rows.getD 0 []) 0).int,.i (gi ((gi g2 0).rows.getD 1 []) 0).int,.i 2,.i 0,.i 0,.s (⟨#[]⟩:ByteArray),.s (⟨#[]⟩:ByteArray),.i 0,.i 0,.s (⟨#[]⟩:ByteArray),.s (⟨#[]⟩:ByteArray),.s (gi ((gi g1 0).rows.getD 4 []) 0).str,.s (⟨#[]⟩:ByteArray),.i 0]]:List (List G))).length ((gi d 0).rows++([[.s (gi ((gi g1 0).rows.getD 0 []) 0).str,.i (gi ((gi g2 0).rows.getD 0 []) 0).int,.i (gi ((gi g2 0).rows.getD 1 []) 0).int,.i 2,.i 0,.i 0,.s (⟨#[]⟩:ByteArray),.s (⟨#[]⟩:ByteArray),.i 0,.i 0,.s (⟨#[]⟩:ByteArray),.s (⟨#[]⟩:ByteArray),.s (gi ((gi g1 0).rows.getD 4 []) 0).str,.s (⟨#[]⟩:ByteArray),.i 0]]:List (List G))).length)&&true)&&true)&&true) then some [.l ((gi d 0).rows++([[.s (gi ((gi g1 0).rows.getD 0 []) 0).str,.i (gi ((gi g2 0).rows.getD 0 []) 0).int,.i (gi ((gi g2 0).rows.getD 1 []) 0).int,.i 2,.i 0,.i 0,.s (⟨#[]⟩:ByteArray),.s (⟨#[]⟩:ByteArray),.i 0,.i 0,.s (⟨#[]⟩:ByteArray),.s (⟨#[]⟩:ByteArray),.s (gi ((gi g1 0).rows.getD 4 []) 0).str,.s (⟨#[]⟩:ByteArray),.i 0]]:List (List G))),.t true] else none) else (bif ((((Nat.beq ((gi d 0).rows++([[.s (gi ((gi g1 0).rows.getD 0 []) 0).str,.i (gi ((gi g2 0).rows.getD 0 []) 0).int,.i (gi ((gi g2 0).rows.getD 1 []) 0).int,.i 2,.i 0,.i 0,.s (⟨#[]⟩:ByteArray),.s (⟨#[]⟩:ByteArray),.i 0,.i 0,.s (⟨#[]⟩:ByteArray),.s (⟨#[]⟩:ByteArray),.s (gi ((gi g1 0).rows.getD 4 []) 0).str,.s (⟨#[]⟩:ByteArray),.i 0]]:List (List G))).length ((gi d 0).rows++([[.s (gi ((gi g1 0).rows.getD 0 []) 0).str,.i (gi ((gi g2 0).rows.getD 0 []) 0).int,.i (gi ((gi g2 0).rows.getD 1 []) 0).int,.i 2,.i 0,.i 0,.s (⟨#[]⟩:ByteArray),.s (⟨#[]⟩:ByteArray),.i 0,.i 0,.s (⟨#[]⟩:ByteArray),.s (⟨#[]⟩:ByteArray),.s (gi ((gi g1 0).rows.getD 4 []) 0).str,.s (⟨#[]⟩:ByteArray),.i 0]]:List (List G))).length)&&true)&&true)&&true) then some [.l ((gi d 0).rows++([[.s (gi ((gi g1 0).rows.getD 0 []) 0).str,.i (gi ((gi g2 0).rows.getD 0 []) 0).int,.i (gi ((gi g2 0).rows.getD 1 []) 0).int,.i 2,.i 0,.i 0,.s (⟨#[]⟩:ByteArray),.s (⟨#[]⟩:ByteArray),.i 0,.i 0,.s (⟨#[]⟩:ByteArray),.s (⟨#[]⟩:ByteArray),.s (gi ((gi g1 0).rows.getD 4 []) 0).str,.s (⟨#[]⟩:ByteArray),.i 0]]:List (List G))),.t false] else none)) else none) else none) else (bif ((gi ((gi g1 0).rows.getD 3 []) 0).str.toList==(⟨#[104,101,108,100]⟩:ByteArray).toList) then (bif (ltI 4 (((gi g1 0).rows.length:Nat):Int)) then (callF (F_r2_Number [.s (gi ((gi g1 0).rows.getD 4 []) 0).str,.i 15]) fun g4=>(bif ((Nat.beq (gi d 0).rows.length (gi d 0).rows.length)&&(decide (((gi d 0).rows.length+1)≤1048576))) then (bif (gi g2 1).bool then (bif ((((Nat.beq ((gi d 0).rows++([[.s (gi ((gi g1 0).rows.getD 0 []) 0).str,.i (gi ((gi g2 0).rows.getD 0 []) 0).int,.i (gi ((gi g2 0).rows.getD 1 []) 0).int,.i 3,.i 0,.i 0,.s (⟨#[]⟩:ByteArray),.s (⟨#[]⟩:ByteArray),.i (gi g4 0).int,.i 0,.s (⟨#[]⟩:ByteArray),.s (⟨#[]⟩:ByteArray),.s (⟨#[]⟩:ByteArray),.s (⟨#[]⟩:ByteArray),.i 0]]:List (List G))).length ((gi d 0).rows++([[.s (gi ((gi g1 0).rows.getD 0 []) 0).str,.i (gi ((gi g2 0).rows.getD 0 []) 0).int,.i (gi ((gi g2 0).rows.getD 1 []) 0).int,.i 3,.i 0,.i 0,.s (⟨#[]⟩:ByteArray),.s (⟨#[]⟩:ByteArray),.i (gi g4 0).int,.i 0,.s (⟨#[]⟩:ByteArray),.s (⟨#[]⟩:ByteArray),.s (⟨#[]⟩:ByteArray),.s (⟨#[]⟩:ByteArray),.i 0]]:List (List G))).length)&&true)&&true)&&true) then some [.l ((gi d 0).rows++([[.s (gi ((gi g1 0).rows.getD 0 []) 0).str,.i (gi ((gi g2 0).rows.getD 0 []) 0).int,.i (gi ((gi g2 0).rows.getD 1 []) 0).int,.i 3,.i 0,.i 0,.s (⟨#[]⟩:ByteArray),.s (⟨#[]⟩:ByteArray),.i (gi g4 0).int,.i 0,.s (⟨#[]⟩:ByteArray),.s (⟨#[]⟩:ByteArray),.s (⟨#[]⟩:ByteArray),.s (⟨#[]⟩:ByteArray),.i 0]]:List (List G))),.t (gi g4 1).bool] else none) else (bif ((((Nat.beq ((gi d 0).rows++([[.s (gi ((gi g1 0).rows.getD 0 []) 0).str,.i (gi ((gi g2 0).rows.getD 0 []) 0).int,.i (gi ((gi g2 0).rows.getD 1 []) 0).int,.i 3,.i 0,.i 0,.s (⟨#[]⟩:ByteArray),.s (⟨#[]⟩:ByteArray),.i (gi g4 0).int,.i 0,.s (⟨#[]⟩:ByteArray),.s (⟨#[]⟩:ByteArray),.s (⟨#[]⟩:ByteArray),.s (⟨#[]⟩:ByteArray),.i 0]]:List (List G))).length ((gi d 0).rows++([[.s (gi ((gi g1 0).rows.getD 0 []) 0).str,.i (gi ((gi g2 0).rows.getD 0 []) 0).int,.i (gi ((gi g2 0).rows.getD 1 []) 0).int,.i 3,.i 0,.i 0,.s (⟨#[]⟩:ByteArray),.s (⟨#[]⟩:ByteArray),.i (gi g4 0).int,.i 0,.s (⟨#[]⟩:ByteArray),.s (⟨#[]⟩:ByteArray),.s (⟨#[]⟩:ByteArray),.s (⟨#[]⟩:ByteArray),.i 0]]:List (List G))).length)&&true)&&true)&&true) then some [.l ((gi d 0).rows++([[.s (gi ((gi g1 0).rows.getD 0 []) 0).str,.i (gi ((gi g2 0).rows.getD 0 []) 0).int,.i (gi ((gi g2 0).rows.getD 1 []) 0).int,.i 3,.i 0,.i 0,.s (⟨#[]⟩:ByteArray),.s (⟨#[]⟩:ByteArray),.i (gi g4 0).int,.i 0,.s (⟨#[]⟩:ByteArray),.s (⟨#[]⟩:ByteArray),.s (⟨#[]⟩:ByteArray),.s (⟨#[]⟩:ByteArray),.i 0]]:List (List G))),.t false] else none)) else none)) else none) else (bif ((gi ((gi g1 0).rows.getD 3 []) 0).str.toList==(⟨#[102,114,101,101]⟩:ByteArray).toList) then (bif (ltI 4 (((gi g1 0).rows.length:Nat):Int)) then (callF (F_r2_Number [.s (gi ((gi g1 0).rows.getD 4 []) 0).str,.i 15]) fun g5=>(bif ((Nat.beq (gi d 0).rows.length (gi d 0).rows.length)&&(decide (((gi d 0).rows.length+1)≤1048576))) then (bif (gi g2 1).bool then (bif ((((Nat.beq ((gi d 0).rows++([[.s (gi ((gi g1 0).rows.getD 0 []) 0).str,.i (gi ((gi g2 0).rows.getD 0 []) 0).int,.i (gi ((gi g2 0).rows.getD 1 []) 0).int,.i 4,.i 0,.i 0,.s (⟨#[]⟩:ByteArray),.s (⟨#[]⟩:ByteArray),.i (gi g5 0).int,.i 0,.s (⟨#[]⟩:ByteArray),.s (⟨#[]⟩:ByteArray),.s (⟨#[]⟩:ByteArray),.s (⟨#[]⟩:ByteArray),.i 0]]:List (List G))).length ((gi d 0).rows++([[.s (gi ((gi g1 0).rows.getD 0 []) 0).str,.i (gi ((gi g2 0).rows.getD 0 []) 0).int,.i (gi ((gi g2 0).rows.getD 1 []) 0).int,.i 4,.i 0,.i 0,.s (⟨#[]⟩:ByteArray),.s (⟨#[]⟩:ByteArray),.i (gi g5 0).int,.i 0,.s (⟨#[]⟩:ByteArray),.s (⟨#[]⟩:ByteArray),.s (⟨#[]⟩:ByteArray),.s (⟨#[]⟩:ByteArray),.i 0]]:List (List G))).length)&&true)&&true)&&true) then some [.l ((gi d 0).rows++([[.s (gi ((gi g1 0).rows.getD 0 []) 0).str,.i (gi ((gi g2 0).rows.getD 0 []) 0).int,.i (gi ((gi g2 0).rows.getD 1 []) 0).int,.i 4,.i 0,.i 0,.s (⟨#[]⟩:ByteArray),.s (⟨#[]⟩:ByteArray),.i (gi g5 0).int,.i 0,.s (⟨#[]⟩:ByteArray),.s (⟨#[]⟩:ByteArray),.s (⟨#[]⟩:ByteArray),.s (⟨#[]⟩:ByteArray),.i 0]]:List (List G))),.t (gi g5 1).bool] else none) else (bif ((((Nat.beq ((gi d 0).rows++([[.s (gi ((gi g1 0).rows.getD 0 []) 0).str,.i (gi ((gi g2 0).rows.getD 0 []) 0).int,.i (gi ((gi g2 0).rows.getD 1 []) 0).int,.i 4,.i 0,.i 0,.s (⟨#[]⟩:ByteArray),.s (⟨#[]⟩:ByteArray),.i (gi g5 0).int,.i 0,.s (⟨#[]⟩:ByteArray),.s (⟨#[]⟩:ByteArray),.s (⟨#[]⟩:ByteArray),.s (⟨#[]⟩:ByteArray),.i 0]]:List (List G))).length ((gi d 0).rows++([[.s (gi ((gi g1 0).rows.getD 0 []) 0).str,.i (gi ((gi g2 0).rows.getD 0 []) 0).int,.i (gi ((gi g2 0).rows.getD 1 []) 0).int,.i 4,.i 0,.i 0,.s (⟨#[]⟩:ByteArray),.s (⟨#[]⟩:ByteArray),.i (gi g5 0).int,.i 0,.s (⟨#[]⟩:ByteArray),.s (⟨#[]⟩:ByteArray),.s (⟨#[]⟩:ByteArray),.s (⟨#[]⟩:ByteArray),.i 0]]:List (List G))).length)&&true)&&true)&&true) then some [.l ((gi d 0).rows++([[.s (gi ((gi g1 0).rows.getD 0 []) 0).str,.i (gi ((gi g2 0).rows.getD 0 []) 0).int,.i (gi ((gi g2 0).rows.getD 1 []) 0).int,.i 4,.i 0,.i 0,.s (⟨#[]⟩:ByteArray),.s (⟨#[]⟩:ByteArray),.i (gi g5 0).int,.i 0,.s (⟨#[]⟩:ByteArray),.s (⟨#[]⟩:ByteArray),.s (⟨#[]⟩:ByteArray),.s (⟨#[]⟩:ByteArray),.i 0]]:List (List G))),.t false] else none)) else none)) else none) else (bif (ltI 4 (((gi g1 0).rows.length:Nat):Int)) then (bif (ltI 5 (((gi g1 0).rows.length:Nat):Int)) then (callF (F_r2_Number [.s (gi ((gi g1 0).rows.getD 5 []) 0).str,.i 15]) fun g6=>(bif ((Nat.beq (gi d 0).rows.length (gi d 0).rows.length)&&(decide (((gi d 0).rows.length+1)≤1048576))) then (bif (gi g2 1).bool then (bif ((((Nat.beq ((gi d 0).rows++([[.s (gi ((gi g1 0).rows.getD 0 []) 0).str,.i (gi ((gi g2 0).rows.getD 0 []) 0).int,.i (gi ((gi g2 0).rows.getD 1 []) 0).int,.i 5,.i 0,.i 0,.s (⟨#[]⟩:ByteArray),.s (⟨#[]⟩:ByteArray),.i 0,.i 0,.s (⟨#[]⟩:ByteArray),.s (⟨#[]⟩:ByteArray),.s (⟨#[]⟩:ByteArray),.s (gi ((gi g1 0).rows.getD 4 []) 0).str,.i (gi g6 0).int]]:List (List G))).length ((gi d 0).rows++([[.s (gi ((gi g1 0).rows.getD 0 []) 0).str,.i (gi ((gi g2 0).rows.getD 0 []) 0).int,.i (gi ((gi g2 0).rows.getD 1 []) 0).int,.i 5,.i 0,.i 0,.s (⟨#[]⟩:ByteArray),.s (⟨#[]⟩:ByteArray),.i 0,.i 0,.s (⟨#[]⟩:ByteArray),.s (⟨#[]⟩:ByteArray),.s (⟨#[]⟩:ByteArray),.s (gi ((gi g1 0).rows.getD 4 []) 0).str,.i (gi g6 0).int]]:List (List G))).length)&&true)&&true)&&true) then some [.l ((gi d 0).rows++([[.s (gi ((gi g1 0).rows.getD 0 []) 0).str,.i (gi ((gi g2 0).rows.getD 0 []) 0).int,.i (gi ((gi g2 0).rows.getD 1 []) 0).int,.i 5,.i 0,.i 0,.s (⟨#[]⟩:ByteArray),.s (⟨#[]⟩:ByteArray),.i 0,.i 0,.s (⟨#[]⟩:ByteArray),.s (⟨#[]⟩:ByteArray),.s (⟨#[]⟩:ByteArray),.s (gi ((gi g1 0).rows.getD 4 []) 0).str,.i (gi g6 0).int]]:List (List G))),.t (gi g6 1).bool] else none) else (bif ((((Nat.beq ((gi d 0).rows++([[.s (gi ((gi g1 0).rows.getD 0 []) 0).str,.i (gi ((gi g2 0).rows.getD 0 []) 0).int,.i (gi ((gi g2 0).rows.getD 1 []) 0).int,.i 5,.i 0,.i 0,.s (⟨#[]⟩:ByteArray),.s (⟨#[]⟩:ByteArray),.i 0,.i 0,.s (⟨#[]⟩:ByteArray),.s (⟨#[]⟩:ByteArray),.s (⟨#[]⟩:ByteArray),.s (gi ((gi g1 0).rows.getD 4 []) 0).str,.i (gi g6 0).int]]:List (List G))).length ((gi d 0).rows++([[.s (gi ((gi g1 0).rows.getD 0 []) 0).str,.i (gi ((gi g2 0).rows.getD 0 []) 0).int,.i (gi ((gi g2 0).rows.getD 1 []) 0).int,.i 5,.i 0,.i 0,.s (⟨#[]⟩:ByteArray),.s (⟨#[]⟩:ByteArray),.i 0,.i 0,.s (⟨#[]⟩:ByteArray),.s (⟨#[]⟩:ByteArray),.s (⟨#[]⟩:ByteArray),.s (gi ((gi g1 0).rows.getD 4 []) 0).str,.i (gi g6 0).int]]:List (List G))).length)&&true)&&true)&&true) then some [.l ((gi d 0).rows++([[.s (gi ((gi g1 0).rows.getD 0 []) 0).str,.i (gi ((gi g2 0).rows.getD 0 []) 0).int,.i (gi ((gi g2 0).rows.getD 1 []) 0).int,.i 5,.i 0,.i 0,.s (⟨#[]⟩:ByteArray),.s (⟨#[]⟩:ByteArray),.i 0,.i 0,.s (⟨#[]⟩:ByteArray),.s (⟨#[]⟩:ByteArray),.s (⟨#[]⟩:ByteArray),.s (gi ((gi g1 0).rows.getD 4 []) 0).str,.i (gi g6 0).int]]:List (List G))),.t false] else none)) else none)) else none) else none))))) else none) else none) else none) else none)) else none)) else none))))
def s_r2_DeedsRead_1:FSpec:=⟨39,[.s (.str),.s (.ptr 0 0)],[.box [.vec 1 15],.vec KDeed 0],[.slot 1,.cell 0 0],[.s (.bool)],[.box [.vec 1 15],.vec KDeed 1],[.fix 0,.fix 1],[],F_r2_DeedsRead_1⟩
theorem b_r2_DeedsRead_1:BodyOK P t101 nL0 Tryz.f39 s_r2_DeedsRead_1:=fun d=>by kernel_rfl
theorem c_r2_DeedsRead_1:COK P s_r2_DeedsRead_1:=bdC hm t101_ok Tryz.func39 (nLk _ _ _) b_r2_DeedsRead_1
def t102:Tab:=t101.addW s_r2_DeedsRead_1
theorem t102_ok:TabOK P t102:=t101_ok.aW c_r2_DeedsRead_1

def st_r2_Lines_2 (d:List G):Option (Option Nat × List G) :=
 (bif (!((gi d 1).str.toList==(⟨#[]⟩:ByteArray).toList)) then (callF (F_strings_Cut [.s (gi d 1).str,.s (⟨#[10]⟩:ByteArray)]) fun g1=>(bif (!(gi g1 2).bool) then (bif ((((Nat.beq (gi d 0).rows.length (gi d 0).rows.length)&&true)&&true)&&true) then some (some 0,[.l (gi d 0).rows,.i (gi d 2).int,.t false]) else none) else (callB (((((Nat.beq (gi d 0).rows.length (gi d 0).rows.length)&&true)&&true)&&true)&&(F_r2_DeedsRead_1 [.l (gi d 0).rows,.s (gi g1 0).str]).isSome) (F_r2_DeedsRead_1 [.l (gi d 0).rows,.s (gi g1 0).str]) fun g2=>(bif (!(gi g2 1).bool) then (bif ((((Nat.beq (gi g2 0).rows.length (gi g2 0).rows.length)&&true)&&true)&&true) then some (some 0,[.l (gi g2 0).rows,.i (gi d 2).int,.t false]) else none) else (bif (inI ((gi d 2).int+1)) then (bif ((((Nat.beq (gi g2 0).rows.length (gi g2 0).rows.length)&&true)&&true)&&true) then some (none,[.l (gi g2 0).rows,.s (gi g1 1).str,.i ((gi d 2).int+1)]) else none) else none))))) else (bif ((((Nat.beq (gi d 0).rows.length (gi d 0).rows.length)&&true)&&true)&&true) then some (some 1,[.l (gi d 0).rows]) else none))
def l_r2_Lines_2:LSpec:=⟨2,[],⟨30,[(0,.s (.str)),(1,.clo 39 [.ptr 0 0]),(6,.s (.int .i64))],[.box [.vec 1 15],.vec KDeed 1]⟩,[.fix 0,.cell 0 0],[⟨.ret,⟨30,[(4,.s (.int .i64)),(5,.s (.bool))],[.box [.vec 1 15],.vec KDeed 1]⟩,[.fix 0,.cell 0 0]⟩,⟨.exit 0,⟨30,[],[.box [.vec 1 15],.vec KDeed 1]⟩,[.fix 0,.cell 0 0]⟩],st_r2_Lines_2⟩
theorem r_r2_Lines_2:RoundOK P t102 nL0 2 (loopAt Tryz.f38 2) l_r2_Lines_2:=fun d=>by kernel_rfl
def L_r2_Lines_2:LT:=nL0.add 2 l_r2_Lines_2
theorem L_r2_Lines_2_ok:LpK P 2 L_r2_Lines_2 (bodyOf Tryz.f38):=LpK.a hm t102_ok (nLk _ _ _) r_r2_Lines_2
def F_r2_Lines (d:List G):Option (List G) :=
 (loopB ((((Nat.beq (gi d 0).rows.length (gi d 0).rows.length)&&true)&&true)&&true) (LRun st_r2_Lines_2 [.l (gi d 0).rows,.s (gi d 1).str,.i 0]) fun cg3 g3=>(bif Nat.beq cg3 0 then (bif ((((Nat.beq (gi g3 0).rows.length (gi g3 0).rows.length)&&true)&&true)&&true) then some [.l (gi g3 0).rows,.i (gi g3 1).int,.t (gi g3 2).bool] else none) else (bif ((((Nat.beq (gi g3 0).rows.length (gi g3 0).rows.length)&&true)&&true)&&true) then some [.l (gi g3 0).rows,.i 0,.t true] else none)))
def s_r2_Lines:FSpec:=⟨38,[.s (.str),.clo 39 [.ptr 0 0]],[.box [.vec 1 15],.vec KDeed 0],[.cap 1 0,.cell 0 0],[.s (.int .i64),.s (.bool)],[.box [.vec 1 15],.vec KDeed 1],[.fix 0,.fix 1],[],F_r2_Lines⟩
theorem b_r2_Lines:BodyOK P t102 L_r2_Lines_2 Tryz.f38 s_r2_Lines:=fun d=>by kernel_rfl
theorem c_r2_Lines:COK P s_r2_Lines:=bdC hm t102_ok Tryz.func38 L_r2_Lines_2_ok b_r2_Lines
def t103:Tab:=t102.addW s_r2_Lines
theorem t103_ok:TabOK P t103:=t102_ok.aW c_r2_Lines

def st_sl_Equal_Deed_4 (d:List G):Option (Option Nat × List G) :=
 (bif (ltI (gi d 3).int (gi d 2).int) then (bif ((nnI (gi d 3).int)&&(ltI (gi d 3).int (((gi d 0).rows.length:Nat):Int))) then (bif ((nnI (gi d 3).int)&&(ltI (gi d 3).int (((gi d 1).rows.length:Nat):Int))) then (bif (!(rowEq KDeed (gEta KDeed ((gi d 0).rows.getD (((gi d 3).int).toNat) [])) (gEta KDeed ((gi d 1).rows.getD (((gi d 3).int).toNat) [])))) then some (some 0,[.t false]) else (bif (inI ((gi d 3).int+1)) then some (none,[.l (gi d 0).rows,.l (gi d 1).rows,.i (gi d 2).int,.i ((gi d 3).int+1)]) else none)) else none) else none) else some (some 1,[]))
def l_sl_Equal_Deed_4:LSpec:=⟨4,[],⟨26,[(0,.s (.list KDeed)),(1,.s (.list KDeed)),(12,.s (.int .i64)),(13,.s (.int .i64))],[]⟩,[],[⟨.ret,⟨26,[(4,.s (.bool))],[]⟩,[]⟩,⟨.exit 0,⟨26,[],[]⟩,[]⟩],st_sl_Equal_Deed_4⟩
theorem r_sl_Equal_Deed_4:RoundOK P t103 nL0 0 (loopAt Tryz.f12 4) l_sl_Equal_Deed_4:=fun d=>by kernel_rfl
def L_sl_Equal_Deed_4:LT:=nL0.add 0 l_sl_Equal_Deed_4
theorem L_sl_Equal_Deed_4_ok:LpK P 0 L_sl_Equal_Deed_4 (bodyOf Tryz.f12):=LpK.a hm t103_ok (nLk _ _ _) r_sl_Equal_Deed_4
def F_sl_Equal_Deed (d:List G):Option (List G) :=
 (bif ((((gi d 0).rows.length:Nat):Int) != (((gi d 1).rows.length:Nat):Int)) then some [.t false] else (loopB true (LRun st_sl_Equal_Deed_4 [.l (gi d 0).rows,.l (gi d 1).rows,.i (((gi d 0).rows.length:Nat):Int),.i 0]) fun cg1 g1=>(bif Nat.beq cg1 0 then some [.t (gi g1 0).bool] else some [.t true])))
def s_sl_Equal_Deed:FSpec:=⟨12,[.s (.list KDeed),.s (.list KDeed)],[],[],[.s (.bool)],[],[],[],F_sl_Equal_Deed⟩
theorem b_sl_Equal_Deed:BodyOK P t103 L_sl_Equal_Deed_4 Tryz.f12 s_sl_Equal_Deed:=fun d=>by kernel_rfl
theorem c_sl_Equal_Deed:COK P s_sl_Equal_Deed:=bdC hm t103_ok Tryz.func12 L_sl_Equal_Deed_4_ok b_sl_Equal_Deed
def t104:Tab:=t103.addP s_sl_Equal_Deed
theorem t104_ok:TabOK P t104:=t103_ok.aP c_sl_Equal_Deed

attribute [instance] drF
theorem w104_ok:TabOK P t104:=t104_ok.anyDr
def F_strings_ContainsAny (d:List G):Option (List G) :=
 any1F d
def s_strings_ContainsAny:FSpec:=⟨179,[.s (.str),.s (.str)],[],[],[.s (.bool)],[],[],[],F_strings_ContainsAny⟩
theorem c_strings_ContainsAny:∀ d r,F_strings_ContainsAny d=some r→ACallX P 179 (s_strings_ContainsAny.args0 d) (denH (s_strings_ContainsAny.H0 d)) (s_strings_ContainsAny.out r) (denH (s_strings_ContainsAny.H1 r)):=fun d r h=>any_call rfl Tryz.laysAny (by kernel_rfl) d r h
def t105:Tab:=t104.addP s_strings_ContainsAny
theorem t105_ok:TabOK P t105:=w104_ok.aP c_strings_ContainsAny

def F_r1_plain (d:List G):Option (List G) :=
 (callF (F_r1_in [.i (((gi d 0).str.size:Nat):Int),.i (gi d 1).int,.i (gi d 2).int]) fun g1=>(bif (gi g1 0).bool then (callF (F_strings_Trim [.s (gi d 0).str,.s (⟨#[97,98,99,100,101,102,103,104,105,106,107,108,109,110,111,112,113,114,115,116,117,118,119,120,121,122,48,49,50,51,52,53,54,55,56,57]⟩:ByteArray)]) fun g2=>(bif ((gi g2 0).str.toList==(⟨#[]⟩:ByteArray).toList) then (callF (F_strings_ContainsAny [.s (gi d 0).str,.s (⟨#[97,98,99,100,101,102,103,104,105,106,107,108,109,110,111,112,113,114,115,116,117,118,119,120,121,122]⟩:ByteArray)]) fun g3=>some [.t (gi g3 0).bool]) else some [.t false])) else some [.t false]))
def s_r1_plain:FSpec:=⟨177,[.s (.str),.s (.int .i64),.s (.int .i64)],[],[],[.s (.bool)],[],[],[],F_r1_plain⟩
theorem b_r1_plain:BodyOK P t105 nL0 Tryz.f177 s_r1_plain:=fun d=>by kernel_rfl
theorem c_r1_plain:COK P s_r1_plain:=bdC hm t105_ok Tryz.func177 (nLk _ _ _) b_r1_plain
def t106:Tab:=t105.addP s_r1_plain
theorem t106_ok:TabOK P t106:=t105_ok.aP c_r1_plain

end
end Go.Proofs.SYtbnjbajipjjbgaaGreatDoor
