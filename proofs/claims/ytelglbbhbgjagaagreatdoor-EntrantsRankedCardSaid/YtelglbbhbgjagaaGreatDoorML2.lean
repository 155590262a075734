/-
 What is proved here: functions of the program as functions on data. No condition.
-/
import Derived.Test.YtelglbbhbgjagaaGreatDoorML1
set_option linter.all false
namespace Go.Proofs.SYtelglbbhbgjagaaGreatDoor
open Go Go.AL Go.Proofs
noncomputable section
def F_pilemake_Below (d:List G):Option (List G) :=
 (bif (ltI (gi d 1).int 1) then some [.i 0] else (bif (!((gi d 1).int==0)) then (bif (ltI (Int.tmod (gi d 0).int (gi d 1).int) 0) then (bif (inI ((Int.tmod (gi d 0).int (gi d 1).int)+(gi d 1).int)) then some [.i ((Int.tmod (gi d 0).int (gi d 1).int)+(gi d 1).int)] else none) else some [.i (Int.tmod (gi d 0).int (gi d 1).int)]) else none))
def s_pilemake_Below:FSpec:=⟨83,[.s (.int .i64),.s (.int .i64)],[],[],[.s (.int .i64)],[],[],[],F_pilemake_Below⟩
theorem b_pilemake_Below:BodyOK P t6 nL0 Tryz.f83 s_pilemake_Below:=fun d=>by kernel_rfl
theorem c_pilemake_Below:COK P s_pilemake_Below:=bdC hm t6_ok Tryz.func83 (nLk _ _ _) b_pilemake_Below
def t7:Tab:=t6.addP s_pilemake_Below
theorem t7_ok:TabOK P t7:=t6_ok.aP c_pilemake_Below

def F_mk_Next (d:List G):Option (List G) :=
 (bif (inI ((gi d 1).int+1)) then (bif ((((gi d 0).rows.length:Nat):Int)==0) then (bif (inI (((gi d 1).int+1)*7919)) then (callF (F_pilemake_Below [.i (((gi d 1).int+1)*7919),.i (gi d 2).int]) fun g1=>some [.l (gi d 0).rows,.i ((gi d 1).int+1),.i (gi g1 0).int]) else none) else (bif (inI (((gi d 1).int+1)-1)) then (bif (!((((gi d 0).rows.length:Nat):Int)==0)) then (bif (inI (((gi d 1).int+1)-1)) then (bif ((!((((gi d 0).rows.length:Nat):Int)==0))&&(inI (Int.tdiv (((gi d 1).int+1)-1) (((gi d 0).rows.length:Nat):Int)))) then (bif ((nnI (Int.tmod (((gi d 1).int+1)-1) (((gi d 0).rows.length:Nat):Int)))&&(ltI (Int.tmod (((gi d 1).int+1)-1) (((gi d 0).rows.length:Nat):Int)) (((gi d 0).rows.length:Nat):Int))) then (callF (F_pilemake_Below [.i (gi ((gi d 0).rows.getD ((Int.tmod (((gi d 1).int+1)-1) (((gi d 0).rows.length:Nat):Int)).toNat) []) 0).int,.i 1073741824]) fun g2=>(bif (inI (7919+(Int.tmod (((gi d 1).int+1)-1) (((gi d 0).rows.length:Nat):Int)))) then (bif (inI ((Int.tdiv (((gi d 1).int+1)-1) (((gi d 0).rows.length:Nat):Int))*(7919+(Int.tmod (((gi d 1).int+1)-1) (((gi d 0).rows.length:Nat):Int))))) then (bif (inI ((gi g2 0).int+((Int.tdiv (((gi d 1).int+1)-1) (((gi d 0).rows.length:Nat):Int))*(7919+(Int.tmod (((gi d 1).int+1)-1) (((gi d 0).rows.length:Nat):Int)))))) then (callF (F_pilemake_Below [.i ((gi g2 0).int+((Int.tdiv (((gi d 1).int+1)-1) (((gi d 0).rows.length:Nat):Int))*(7919+(Int.tmod (((gi d 1).int+1)-1) (((gi d 0).rows.length:Nat):Int))))),.i (gi d 2).int]) fun g3=>some [.l (gi d 0).rows,.i ((gi d 1).int+1),.i (gi g3 0).int]) else none) else none) else none)) else none) else none) else none) else none) else none)) else none)
def s_mk_Next:FSpec:=⟨39,[.s (.ptr 0 0),.s (.int .i64)],[.box [.list [.int .i64],.int .i64]],[.slot 0],[.s (.int .i64)],[.box [.list [.int .i64],.int .i64]],[.fix 0],[],F_mk_Next⟩
theorem b_mk_Next:BodyOK P t7 nL0 Tryz.f39 s_mk_Next:=fun d=>by kernel_rfl
theorem c_mk_Next:COK P s_mk_Next:=bdC hm t7_ok Tryz.func39 (nLk _ _ _) b_mk_Next
def t8:Tab:=t7.addW s_mk_Next
theorem t8_ok:TabOK P t8:=t7_ok.aW c_mk_Next

def F_mk_Flip (d:List G):Option (List G) :=
 (callF (F_mk_Next [.l (gi d 0).rows,.i (gi d 1).int,.i (gi d 2).int]) fun g1=>some [.l (gi g1 0).rows,.i (gi g1 1).int,.t ((gi g1 2).int==0)])
def s_mk_Flip:FSpec:=⟨38,[.s (.ptr 0 0),.s (.int .i64)],[.box [.list [.int .i64],.int .i64]],[.slot 0],[.s (.bool)],[.box [.list [.int .i64],.int .i64]],[.fix 0],[],F_mk_Flip⟩
theorem b_mk_Flip:BodyOK P t8 nL0 Tryz.f38 s_mk_Flip:=fun d=>by kernel_rfl
theorem c_mk_Flip:COK P s_mk_Flip:=bdC hm t8_ok Tryz.func38 (nLk _ _ _) b_mk_Flip
def t9:Tab:=t8.addW s_mk_Flip
theorem t9_ok:TabOK P t9:=t8_ok.aW c_mk_Flip

def F_mk_Some (d:List G):Option (List G) :=
 (callF (F_mk_Next [.l (gi d 0).rows,.i (gi d 1).int,.i (((gi d 2).rows.length:Nat):Int)]) fun g1=>(bif ((nnI (gi g1 2).int)&&(ltI (gi g1 2).int (((gi d 2).rows.length:Nat):Int))) then some [.l (gi g1 0).rows,.i (gi g1 1).int,.s (gi ((gi d 2).rows.getD (((gi g1 2).int).toNat) []) 0).str] else none))
def s_mk_Some:FSpec:=⟨8,[.s (.ptr 0 0),.s (.list [.str])],[.box [.list [.int .i64],.int .i64]],[.slot 0],[.s (.str)],[.box [.list [.int .i64],.int .i64]],[.fix 0],[],F_mk_Some⟩
theorem b_mk_Some:BodyOK P t9 nL0 Tryz.f8 s_mk_Some:=fun d=>by kernel_rfl
theorem c_mk_Some:COK P s_mk_Some:=bdC hm t9_ok Tryz.func8 (nLk _ _ _) b_mk_Some
def t10:Tab:=t9.addW s_mk_Some
theorem t10_ok:TabOK P t10:=t9_ok.aW c_mk_Some

def st_mk_RightClubs_f_8 (d:List G):Option (Option Nat × List G) :=
 (bif (ltI (gi d 10).int (gi d 9).int) then (bif ((nnI (gi d 10).int)&&(ltI (gi d 10).int (((gi d 8).rows.length:Nat):Int))) then (callF (F_mk_Flip [.l (gi d 0).rows,.i (gi d 1).int,.i 3]) fun g2=>(bif (gi g2 2).bool then (bif ((Nat.beq (gi d 4).rows.length (gi d 4).rows.length)&&(decide (((gi d 4).rows.length+1)≤1048576))) then (bif (inI ((gi d 10).int+1)) then (bif ((((Nat.beq ((gi d 4).rows++([[.s (gi ((gi d 8).rows.getD (((gi d 10).int).toNat) []) 0).str]]:List (List G))).length ((gi d 4).rows++([[.s (gi ((gi d 8).rows.getD (((gi d 10).int).toNat) []) 0).str]]:List (List G))).length)&&true)&&true)&&((Nat.beq (gi d 2).rows.length (gi d 2).rows.length)&&true)) then some (none,[.l (gi g2 0).rows,.i (gi g2 1).int,.l (gi d 2).rows,.s (gi d 3).str,.l ((gi d 4).rows++([[.s (gi ((gi d 8).rows.getD (((gi d 10).int).toNat) []) 0).str]]:List (List G))),.l (gi d 5).rows,.i (gi d 6).int,.i (gi d 7).int,.l (gi d 8).rows,.i (gi d 9).int,.i ((gi d 10).int+1)]) else none) else none) else none) else (bif (inI ((gi d 10).int+1)) then (bif ((((Nat.beq (gi d 4).rows.length (gi d 4).rows.length)&&true)&&true)&&((Nat.beq (gi d 2).rows.length (gi d 2).rows.length)&&true)) then some (none,[.l (gi g2 0).rows,.i (gi g2 1).int,.l (gi d 2).rows,.s (gi d 3).str,.l (gi d 4).rows,.l (gi d 5).rows,.i (gi d 6).int,.i (gi d 7).int,.l (gi d 8).rows,.i (gi d 9).int,.i ((gi d 10).int+1)]) else none) else none))) else none) else (bif ((((Nat.beq (gi d 4).rows.length (gi d 4).rows.length)&&true)&&true)&&((Nat.beq (gi d 2).rows.length (gi d 2).rows.length)&&true)) then some (some 0,[.l (gi d 0).rows,.i (gi d 1).int,.l (gi d 2).rows,.s (gi d 3).str,.l (gi d 4).rows,.l (gi d 5).rows,.i (gi d 6).int,.i (gi d 7).int]) else none))
def l_mk_RightClubs_f_8:LSpec:=⟨8,[],⟨40,[(0,.s (.ptr 0 0)),(3,.s (.vec 1 2)),(6,.s (.ptr 2 0)),(9,.s (.list [.str])),(10,.s (.int .i64)),(11,.s (.int .i64)),(19,.s (.list [.str])),(20,.s (.int .i64)),(21,.s (.int .i64))],[.box [.list [.int .i64],.int .i64],.vec [.str,.list [.str]] 0,.box [.str,.vec 3 1],.vec [.str] 0]⟩,[.fix 0,.slot 3,.slot 6,.cell 2 1],[⟨.exit 2,⟨40,[(0,.s (.ptr 0 0)),(3,.s (.vec 1 2)),(6,.s (.ptr 2 0)),(9,.s (.list [.str])),(10,.s (.int .i64)),(11,.s (.int .i64))],[.box [.list [.int .i64],.int .i64],.vec [.str,.list [.str]] 0,.box [.str,.vec 3 1],.vec [.str] 0]⟩,[.fix 0,.slot 3,.slot 6,.cell 2 1]⟩],st_mk_RightClubs_f_8⟩
theorem r_mk_RightClubs_f_8:RoundOK P t10 (nL0.hinted [(7,[.openCell 6 1 [.str]]),(13,[.freezeCell 6 1])]) 1 (loopAt Tryz.f25 8) l_mk_RightClubs_f_8:=fun d=>by kernel_rfl
def L_mk_RightClubs_f_8:LT:=(nL0.hinted [(7,[.openCell 6 1 [.str]]),(13,[.freezeCell 6 1])]).add 1 l_mk_RightClubs_f_8
theorem L_mk_RightClubs_f_8_ok:LpK P 1 L_mk_RightClubs_f_8 (bodyOf Tryz.f25):=LpK.a hm t10_ok (hinted_ok _) r_mk_RightClubs_f_8
def st_mk_RightClubs_f_3 (d:List G):Option (Option Nat × List G) :=
 (bif (ltI (gi d 5).int (gi d 4).int) then (bif ((nnI (gi d 5).int)&&(ltI (gi d 5).int (((gi d 3).rows.length:Nat):Int))) then (callF (F_mk_Flip [.l (gi d 0).rows,.i (gi d 1).int,.i 6]) fun g1=>(bif (gi g1 2).bool then (bif (inI ((gi d 5).int+1)) then (bif ((Nat.beq (gi d 2).rows.length (gi d 2).rows.length)&&true) then some (none,[.l (gi g1 0).rows,.i (gi g1 1).int,.l (gi d 2).rows,.l (gi d 3).rows,.i (gi d 4).int,.i ((gi d 5).int+1)]) else none) else none) else (loopB ((Nat.beq (gi d 2).rows.length (gi d 2).rows.length)&&true) (LRun st_mk_RightClubs_f_8 [.l (gi g1 0).rows,.i (gi g1 1).int,.l (gi d 2).rows,.s (gi ((gi d 3).rows.getD (((gi d 5).int).toNat) []) 0).str,.l [],.l (gi d 3).rows,.i (gi d 4).int,.i (gi d 5).int,.l [[.s (⟨#[106,111,54,50]⟩:ByteArray)],[.s (⟨#[107,112]⟩:ByteArray)],[.s (⟨#[107,112,50,48]⟩:ByteArray)],[.s (⟨#[107,112,50,48,108,102]⟩:ByteArray)]],.i 4,.i 0]) fun cg3 g3=>(bif ((Nat.beq (gi g3 4).rows.length (gi g3 4).rows.length)&&true) then (bif ((Nat.beq (gi g3 2).rows.length (gi g3 2).rows.length)&&(decide (((gi g3 2).rows.length+1)≤1048576))) then (bif (inI ((gi g3 7).int+1)) then (bif ((Nat.beq ((gi g3 2).rows++([[.s (gi g3 3).str,.l (gi g3 4).rows]]:List (List G))).length ((gi g3 2).rows++([[.s (gi g3 3).str,.l (gi g3 4).rows]]:List (List G))).length)&&true) then some (none,[.l (gi g3 0).rows,.i (gi g3 1).int,.l ((gi g3 2).rows++([[.s (gi g3 3).str,.l (gi g3 4).rows]]:List (List G))),.l (gi g3 5).rows,.i (gi g3 6).int,.i ((gi g3 7).int+1)]) else none) else none) else none) else none)))) else none) else (bif ((Nat.beq (gi d 2).rows.length (gi d 2).rows.length)&&true) then some (some 0,[.l (gi d 0).rows,.i (gi d 1).int,.l (gi d 2).rows]) else none))
def l_mk_RightClubs_f_3:LSpec:=⟨3,[(3,[.str,.list [.str]])],⟨40,[(0,.s (.ptr 0 0)),(3,.s (.vec 1 2)),(9,.s (.list [.str])),(10,.s (.int .i64)),(11,.s (.int .i64))],[.box [.list [.int .i64],.int .i64],.vec [.str,.list [.str]] 0]⟩,[.fix 0,.slot 3],[⟨.exit 0,⟨40,[(3,.s (.vec 1 2))],[.box [.list [.int .i64],.int .i64],.vec [.str,.list [.str]] 0]⟩,[.fix 0,.slot 3]⟩],st_mk_RightClubs_f_3⟩
theorem r_mk_RightClubs_f_3:RoundOK P t10 L_mk_RightClubs_f_8 1 (loopAt Tryz.f25 3) l_mk_RightClubs_f_3:=fun d=>by kernel_rfl
def L_mk_RightClubs_f_3:LT:=L_mk_RightClubs_f_8.add 1 l_mk_RightClubs_f_3
theorem L_mk_RightClubs_f_3_ok:LpK P 1 L_mk_RightClubs_f_3 (bodyOf Tryz.f25):=LpK.a hm t10_ok L_mk_RightClubs_f_8_ok r_mk_RightClubs_f_3
def F_mk_RightClubs_f (d:List G):Option (List G) :=
 (loopB true (LRun st_mk_RightClubs_f_3 [.l (gi d 0).rows,.i (gi d 1).int,.l [],.l [[.s (⟨#[101,97,115,116]⟩:ByteArray)],[.s (⟨#[110,111,114,116,104]⟩:ByteArray)],[.s (⟨#[119,101,115,116]⟩:ByteArray)]],.i 3,.i 0]) fun cg4 g4=>(bif ((Nat.beq (gi g4 2).rows.length (gi g4 2).rows.length)&&true) then some [.l (gi g4 0).rows,.i (gi g4 1).int,.l (gi g4 2).rows] else none))
def s_mk_RightClubs_f:FSpec:=⟨25,[.s (.ptr 0 0)],[.box [.list [.int .i64],.int .i64]],[.slot 0],[.s (.vec 1 2)],[.box [.list [.int .i64],.int .i64],.vec [.str,.list [.str]] 0],[.fix 0,.slot 0],[],F_mk_RightClubs_f⟩
theorem b_mk_RightClubs_f:BodyOK P t10 L_mk_RightClubs_f_3 Tryz.f25 s_mk_RightClubs_f:=fun d=>by kernel_rfl
theorem c_mk_RightClubs_f:COK P s_mk_RightClubs_f:=bdC hm t10_ok Tryz.func25 L_mk_RightClubs_f_3_ok b_mk_RightClubs_f
def t11:Tab:=t10.addW s_mk_RightClubs_f
theorem t11_ok:TabOK P t11:=t10_ok.aW c_mk_RightClubs_f

def F_sl_Clone_string_f_0 (d:List G):Option (List G) :=
 (bif (Nat.blt 0 (gi d 0).rows.length) then (bif (decide ((gi d 0).rows.length≤1048576)) then (bif ((Nat.beq (gi d 0).rows.length (gi d 0).rows.length)&&true) then some [.l (gi d 0).rows] else none) else none) else none)
def s_sl_Clone_string_f_0:FSpec:=⟨40,[.s (.list [.str])],[],[],[.s (.vec 0 1)],[.vec [.str] 0],[.slot 0],[],F_sl_Clone_string_f_0⟩
theorem b_sl_Clone_string_f_0:BodyOK P t11 nL0 Tryz.f40 s_sl_Clone_string_f_0:=fun d=>by kernel_rfl
theorem c_sl_Clone_string_f_0:COK P s_sl_Clone_string_f_0:=bdC hm t11_ok Tryz.func40 (nLk _ _ _) b_sl_Clone_string_f_0
def s_sl_Clone_string_fT:FSpec:={ s_sl_Clone_string_f_0 with args:=[.s (.emp true)],opens:=[(2,[.str])],F:=fun _=>some [.l []] }
theorem b_sl_Clone_string_fT:BodyOK P t11 nL0 Tryz.f40 s_sl_Clone_string_fT:=fun d=>by kernel_rfl
theorem c_sl_Clone_string_fT:∀ d r,s_sl_Clone_string_fT.F d=some r→ACallX P 40 (s_sl_Clone_string_fT.args0 d) (denH (s_sl_Clone_string_fT.H0 d)) (s_sl_Clone_string_fT.out r) (denH (s_sl_Clone_string_fT.H1 r)):=fun d r h=>bSd hm t11_ok (sp:=s_sl_Clone_string_fT) Tryz.func40 (by kernel_rfl) (nLk _ _ _) b_sl_Clone_string_fT (by kernel_rfl) h
def s_sl_Clone_string_fF:FSpec:={ s_sl_Clone_string_f_0 with args:=[.s (.emp false)],opens:=[(2,[.str])],F:=fun _=>some [.l []] }
theorem b_sl_Clone_string_fF:BodyOK P t11 nL0 Tryz.f40 s_sl_Clone_string_fF:=fun d=>by kernel_rfl
theorem c_sl_Clone_string_fF:∀ d r,s_sl_Clone_string_fF.F d=some r→ACallX P 40 (s_sl_Clone_string_fF.args0 d) (denH (s_sl_Clone_string_fF.H0 d)) (s_sl_Clone_string_fF.out r) (denH (s_sl_Clone_string_fF.H1 r)):=fun d r h=>bSd hm t11_ok (sp:=s_sl_Clone_string_fF) Tryz.func40 (by kernel_rfl) (nLk _ _ _) b_sl_Clone_string_fF (by kernel_rfl) h
def F_sl_Clone_string_f (d:List G):Option (List G):=bif Nat.blt 0 (gi d 0).rows.length then F_sl_Clone_string_f_0 d else some [.l []]
def s_sl_Clone_string_f:FSpec:={ s_sl_Clone_string_f_0 with F:=F_sl_Clone_string_f }
theorem c_sl_Clone_string_f:∀ d r,F_sl_Clone_string_f d=some r→ACallX P 40 (s_sl_Clone_string_f.args0 d) (denH (s_sl_Clone_string_f.H0 d)) (s_sl_Clone_string_f.out r) (denH (s_sl_Clone_string_f.H1 r)):=fun d r h=>by
 unfold F_sl_Clone_string_f at h
 cases hb:Nat.blt 0 (gi d 0).rows.length with
 | true=>rw [hb] at h; exact c_sl_Clone_string_f_0 d r h
 | false =>
  rw [hb] at h
  cases h
  have e:(d.headD default).rows=[]:=by
   have:¬ 0<(gi d 0).rows.length:=fun hh=>by
    have h2:Nat.blt 0 (gi d 0).rows.length=true:=by rw [Nat.blt_eq]; exact hh
    rw [h2] at hb
    cases hb
   exact List.eq_nil_of_length_eq_zero (Nat.eq_zero_of_not_pos this)
  have ha:s_sl_Clone_string_f.args0 d=[.listF [.str] []]:=by
   rw [←e]
   rfl
  rw [ha]
  exact acall_empty (c_sl_Clone_string_fT d [.l []] rfl) (c_sl_Clone_string_fF d [.l []] rfl)
def t12:Tab:=t11.addW s_sl_Clone_string_f
theorem t12_ok:TabOK P t12:=t11_ok.aW c_sl_Clone_string_f

def tl_mk_ClubList_3 (d:List G):Option (Option Nat × List G) :=
 (bif (gi d 3).bool then (callF (F_mk_Next [.l (gi d 0).rows,.i (gi d 1).int,.i (((gi d 2).rows.length:Nat):Int)]) fun g3=>(bif ((nnI (gi g3 2).int)&&(ltI (gi g3 2).int (((gi d 2).rows.length:Nat):Int))) then (bif (decide ((0+((gi g3 2).int).toNat)<(gi d 2).rows.length)) then (callF (F_mk_Some [.l (gi g3 0).rows,.i (gi g3 1).int,.l [[.s (gi ((gi d 2).rows.getD (0+((gi g3 2).int).toNat) []) 0).str],[.s (⟨#[]⟩:ByteArray)],[.s (⟨#[101,97,115,116]⟩:ByteArray)]]]) fun g4=>(bif (decide ((0+((gi g3 2).int).toNat)<(gi d 2).rows.length)) then (bif (decide ((0+((gi g3 2).int).toNat)<((gi d 2).rows.set (0+((gi g3 2).int).toNat) (putG [.str,.list [.str]] ((gi d 2).rows.getD (0+((gi g3 2).int).toNat) []) 0 [.s (gi g4 2).str])).length)) then (callF (F_sl_Clone_string_f [.l (gi (((gi d 2).rows.set (0+((gi g3 2).int).toNat) (putG [.str,.list [.str]] ((gi d 2).rows.getD (0+((gi g3 2).int).toNat) []) 0 [.s (gi g4 2).str])).getD (0+((gi g3 2).int).toNat) []) 1).rows]) fun g5=>(callF (F_mk_Some [.l (gi g4 0).rows,.i (gi g4 1).int,.l [[.s (⟨#[122,122]⟩:ByteArray)],[.s (⟨#[107,112,50]⟩:ByteArray)],[.s (⟨#[107,112,50,48,108,102,120]⟩:ByteArray)],[.s (⟨#[75,80]⟩:ByteArray)],[.s (⟨#[114,114,57,57,120,120]⟩:ByteArray)],[.s (⟨#[97,97]⟩:ByteArray)],[.s (⟨#[115,97]⟩:ByteArray)]]]) fun g6=>(bif ((Nat.beq (gi g5 0).rows.length (gi g5 0).rows.length)&&(decide (((gi g5 0).rows.length+1)≤1048576))) then (bif ((Nat.beq ((gi g5 0).rows++([[.s (gi g6 2).str]]:List (List G))).length ((gi g5 0).rows++([[.s (gi g6 2).str]]:List (List G))).length)&&(decide ((0+((gi g3 2).int).toNat)<((gi d 2).rows.set (0+((gi g3 2).int).toNat) (putG [.str,.list [.str]] ((gi d 2).rows.getD (0+((gi g3 2).int).toNat) []) 0 [.s (gi g4 2).str])).length))) then (bif ((Nat.beq (gi d 2).rows.length (((gi d 2).rows.set (0+((gi g3 2).int).toNat) (putG [.str,.list [.str]] ((gi d 2).rows.getD (0+((gi g3 2).int).toNat) []) 0 [.s (gi g4 2).str])).set (0+((gi g3 2).int).toNat) (putG [.str,.list [.str]] (((gi d 2).rows.set (0+((gi g3 2).int).toNat) (putG [.str,.list [.str]] ((gi d 2).rows.getD (0+((gi g3 2).int).toNat) []) 0 [.s (gi g4 2).str])).getD (0+((gi g3 2).int).toNat) []) 1 [.l ((gi g5 0).rows++([[.s (gi g6 2).str]]:List (List G)))])).length)&&true) then some (some 0,[.l (gi g6 0).rows,.i (gi g6 1).int,.l (((gi d 2).rows.set (0+((gi g3 2).int).toNat) (putG [.str,.list [.str]] ((gi d 2).rows.getD (0+((gi g3 2).int).toNat) []) 0 [.s (gi g4 2).str])).set (0+((gi g3 2).int).toNat) (putG [.str,.list [.str]] (((gi d 2).rows.set (0+((gi g3 2).int).toNat) (putG [.str,.list [.str]] ((gi d 2).rows.getD (0+((gi g3 2).int).toNat) []) 0 [.s (gi g4 2).str])).getD (0+((gi g3 2).int).toNat) []) 1 [.l ((gi g5 0).rows++([[.s (gi g6 2).str]]:List (List G)))]))]) else none) else none) else none))) else none) else none)) else none) else none)) else (bif ((Nat.beq (gi d 2).rows.length (gi d 2).rows.length)&&true) then some (some 0,[.l (gi d 0).rows,.i (gi d 1).int,.l (gi d 2).rows]) else none))
def l_mk_ClubList_3c:LSpec:=⟨3,[],⟨44,[(0,.s (.ptr 0 0)),(3,.s (.vec 1 2)),(13,.s (.bool))],[.box [.list [.int .i64],.int .i64],.vec [.str,.list [.str]] 0]⟩,[.fix 0,.slot 3],[⟨.normal,⟨44,[(3,.s (.vec 1 2))],[.box [.list [.int .i64],.int .i64],.vec [.str,.list [.str]] 0]⟩,[.fix 0,.slot 3]⟩],tl_mk_ClubList_3⟩
theorem r_mk_ClubList_3c:CutOK P t12 nL0 1 (cutAt Tryz.f5 3) l_mk_ClubList_3c:=fun d=>by kernel_rfl
def L_mk_ClubList_3c:LT:=nL0.addCut 1 l_mk_ClubList_3c
theorem L_mk_ClubList_3c_ok:LpK P 1 L_mk_ClubList_3c (bodyOf Tryz.f5):=LpK.aC hm t12_ok (nLk _ _ _) r_mk_ClubList_3c
def F_mk_ClubList (d:List G):Option (List G) :=
 (callF (F_mk_RightClubs_f [.l (gi d 0).rows,.i (gi d 1).int]) fun g1=>(bif (ltI 0 (((gi g1 2).rows.length:Nat):Int)) then (callF (F_mk_Flip [.l (gi g1 0).rows,.i (gi g1 1).int,.i 12]) fun g2=>(loopB ((Nat.beq (gi g1 2).rows.length (gi g1 2).rows.length)&&true) (cutR (tl_mk_ClubList_3 [.l (gi g2 0).rows,.i (gi g2 1).int,.l (gi g1 2).rows,.t (gi g2 2).bool])) fun cg7 g7=>(bif ((Nat.beq (gi g7 2).rows.length (gi g7 2).rows.length)&&true) then some [.l (gi g7 0).rows,.i (gi g7 1).int,.l (gi g7 2).rows] else none))) else (loopB ((Nat.beq (gi g1 2).rows.length (gi g1 2).rows.length)&&true) (cutR (tl_mk_ClubList_3 [.l (gi g1 0).rows,.i (gi g1 1).int,.l (gi g1 2).rows,.t false])) fun cg8 g8=>(bif ((Nat.beq (gi g8 2).rows.length (gi g8 2).rows.length)&&true) then some [.l (gi g8 0).rows,.i (gi g8 1).int,.l (gi g8 2).rows] else none))))
def s_mk_ClubList:FSpec:=⟨5,[.s (.ptr 0 0)],[.box [.list [.int .i64],.int .i64]],[.slot 0],[.s (.list [.str,.list [.str]])],[.box [.list [.int .i64],.int .i64]],[.fix 0],[],F_mk_ClubList⟩
theorem b_mk_ClubList:BodyOK P t12 L_mk_ClubList_3c Tryz.f5 s_mk_ClubList:=fun d=>by kernel_rfl
theorem c_mk_ClubList:COK P s_mk_ClubList:=bdC hm t12_ok Tryz.func5 L_mk_ClubList_3c_ok b_mk_ClubList
def t13:Tab:=t12.addW s_mk_ClubList
theorem t13_ok:TabOK P t13:=t12_ok.aW c_mk_ClubList

def F_mk_Range (d:List G):Option (List G) :=
 (bif (ltI (gi d 3).int (gi d 2).int) then some [.l (gi d 0).rows,.i (gi d 1).int,.i (gi d 2).int] else (bif (inI ((gi d 3).int-(gi d 2).int)) then (bif (inI (((gi d 3).int-(gi d 2).int)+1)) then (callF (F_mk_Next [.l (gi d 0).rows,.i (gi d 1).int,.i (((gi d 3).int-(gi d 2).int)+1)]) fun g1=>(bif (inI ((gi d 2).int+(gi g1 2).int)) then some [.l (gi g1 0).rows,.i (gi g1 1).int,.i ((gi d 2).int+(gi g1 2).int)] else none)) else none) else none))
def s_mk_Range:FSpec:=⟨41,[.s (.ptr 0 0),.s (.int .i64),.s (.int .i64)],[.box [.list [.int .i64],.int .i64]],[.slot 0],[.s (.int .i64)],[.box [.list [.int .i64],.int .i64]],[.fix 0],[],F_mk_Range⟩
theorem b_mk_Range:BodyOK P t13 nL0 Tryz.f41 s_mk_Range:=fun d=>by kernel_rfl
theorem c_mk_Range:COK P s_mk_Range:=bdC hm t13_ok Tryz.func41 (nLk _ _ _) b_mk_Range
def t14:Tab:=t13.addW s_mk_Range
theorem t14_ok:TabOK P t14:=t13_ok.aW c_mk_Range

def F_mk_Pick (d:List G):Option (List G) :=
 (callF (F_mk_Next [.l (gi d 0).rows,.i (gi d 1).int,.i (((gi d 2).rows.length:Nat):Int)]) fun g1=>(bif ((nnI (gi g1 2).int)&&(ltI (gi g1 2).int (((gi d 2).rows.length:Nat):Int))) then some [.l (gi g1 0).rows,.i (gi g1 1).int,.i (gi ((gi d 2).rows.getD (((gi g1 2).int).toNat) []) 0).int] else none))
def s_mk_Pick:FSpec:=⟨9,[.s (.ptr 0 0),.s (.list [.int .i64])],[.box [.list [.int .i64],.int .i64]],[.slot 0],[.s (.int .i64)],[.box [.list [.int .i64],.int .i64]],[.fix 0],[],F_mk_Pick⟩
theorem b_mk_Pick:BodyOK P t14 nL0 Tryz.f9 s_mk_Pick:=fun d=>by kernel_rfl
theorem c_mk_Pick:COK P s_mk_Pick:=bdC hm t14_ok Tryz.func9 (nLk _ _ _) b_mk_Pick
def t15:Tab:=t14.addW s_mk_Pick
theorem t15_ok:TabOK P t15:=t14_ok.aW c_mk_Pick

def F_mk_Odd (d:List G):Option (List G) :=
 (callF (F_mk_Flip [.l (gi d 0).rows,.i (gi d 1).int,.i 12]) fun g1=>(bif (gi g1 2).bool then (bif (inI ((gi d 2).int-1)) then (bif (inI ((gi d 3).int+1)) then (callF (F_mk_Pick [.l (gi g1 0).rows,.i (gi g1 1).int,.l [[.i ((gi d 2).int-1)],[.i ((gi d 3).int+1)],[.i (gi d 2).int],[.i (gi d 3).int],[.i (-1099511627776)],[.i 1099511627776]]]) fun g2=>some [.l (gi g2 0).rows,.i (gi g2 1).int,.i (gi g2 2).int]) else none) else none) else (callF (F_mk_Range [.l (gi g1 0).rows,.i (gi g1 1).int,.i (gi d 2).int,.i (gi d 3).int]) fun g3=>some [.l (gi g3 0).rows,.i (gi g3 1).int,.i (gi g3 2).int])))
def s_mk_Odd:FSpec:=⟨42,[.s (.ptr 0 0),.s (.int .i64),.s (.int .i64)],[.box [.list [.int .i64],.int .i64]],[.slot 0],[.s (.int .i64)],[.box [.list [.int .i64],.int .i64]],[.fix 0],[],F_mk_Odd⟩
theorem b_mk_Odd:BodyOK P t15 nL0 Tryz.f42 s_mk_Odd:=fun d=>by kernel_rfl
theorem c_mk_Odd:COK P s_mk_Odd:=bdC hm t15_ok Tryz.func42 (nLk _ _ _) b_mk_Odd
def t16:Tab:=t15.addW s_mk_Odd
theorem t16_ok:TabOK P t16:=t15_ok.aW c_mk_Odd

def tl_mk_Members_10 (d:List G):Option (Option Nat × List G) :=
 (bif (gi d 15).bool then (callF (F_mk_Next [.l (gi d 0).rows,.i (gi d 1).int,.i (((gi d 7).rows.length:Nat):Int)]) fun g5=>(bif ((nnI (gi g5 2).int)&&(ltI (gi g5 2).int (((gi d 7).rows.length:Nat):Int))) then (bif ((Nat.beq (gi d 2).rows.length (gi d 2).rows.length)&&true) then some (some 0,[.l (gi g5 0).rows,.i (gi g5 1).int,.l (gi d 2).rows,.s (gi d 3).str,.s (gi ((gi d 7).rows.getD (((gi g5 2).int).toNat) []) 0).str,.i (gi d 5).int,.s (gi d 6).str,.l (gi d 7).rows,.s (gi d 8).str,.i (gi d 9).int,.l (gi d 10).rows,.i (gi d 11).int,.i (gi d 12).int,.i (gi d 13).int,.i (gi d 14).int]) else none) else none)) else (bif ((Nat.beq (gi d 2).rows.length (gi d 2).rows.length)&&true) then some (some 0,[.l (gi d 0).rows,.i (gi d 1).int,.l (gi d 2).rows,.s (gi d 3).str,.s (gi d 4).str,.i (gi d 5).int,.s (gi d 6).str,.l (gi d 7).rows,.s (gi d 8).str,.i (gi d 9).int,.l (gi d 10).rows,.i (gi d 11).int,.i (gi d 12).int,.i (gi d 13).int,.i (gi d 14).int]) else none))
def l_mk_Members_10c:LSpec:=⟨10,[],⟨76,[(0,.s (.ptr 0 0)),(1,.s (.list [.str,.list [.str]])),(5,.s (.vec 1 4)),(7,.s (.str)),(8,.s (.int .i64)),(9,.s (.ptr 2 0)),(10,.s (.list [.str])),(11,.s (.int .i64)),(12,.s (.int .i64)),(19,.s (.int .i64)),(20,.s (.int .i64)),(35,.s (.bool))],[.box [.list [.int .i64],.int .i64],.vec KMember 0,.box [.str,.str,.int .i64,.str]]⟩,[.fix 0,.slot 5,.slot 9],[⟨.normal,⟨76,[(0,.s (.ptr 0 0)),(1,.s (.list [.str,.list [.str]])),(5,.s (.vec 1 4)),(7,.s (.str)),(8,.s (.int .i64)),(9,.s (.ptr 2 0)),(10,.s (.list [.str])),(11,.s (.int .i64)),(12,.s (.int .i64)),(19,.s (.int .i64)),(20,.s (.int .i64))],[.box [.list [.int .i64],.int .i64],.vec KMember 0,.box [.str,.str,.int .i64,.str]]⟩,[.fix 0,.slot 5,.slot 9]⟩],tl_mk_Members_10⟩
theorem r_mk_Members_10c:CutOK P t16 nL0 1 (cutAt Tryz.f6 10) l_mk_Members_10c:=fun d=>by kernel_rfl
def L_mk_Members_10c:LT:=nL0.addCut 1 l_mk_Members_10c
theorem L_mk_Members_10c_ok:LpK P 1 L_mk_Members_10c (bodyOf Tryz.f6):=LpK.aC hm t16_ok (nLk _ _ _) r_mk_Members_10c
def tl_mk_Members_11 (d:List G):Option (Option Nat × List G) :=
 (callF (F_mk_Flip [.l (gi d 0).rows,.i (gi d 1).int,.i 60]) fun g7=>(bif (gi g7 2).bool then (callF (F_mk_Some [.l (gi g7 0).rows,.i (gi g7 1).int,.l [[.s (gi d 8).str],[.s (⟨#[107,49,97,98,47,52]⟩:ByteArray)],[.s (⟨#[]⟩:ByteArray)]]]) fun g8=>(callF (F_mk_Some [.l (gi g8 0).rows,.i (gi g8 1).int,.l [[.s (gi d 4).str],[.s (⟨#[110,111,98,111,100,121]⟩:ByteArray)]]]) fun g9=>(callF (F_mk_Odd [.l (gi g9 0).rows,.i (gi g9 1).int,.i 0,.i 9]) fun g10=>(callF (F_mk_Some [.l (gi g10 0).rows,.i (gi g10 1).int,.l [[.s (⟨#[107,112,50,48]⟩:ByteArray)],[.s (⟨#[107,112,50,48,108,122]⟩:ByteArray)],[.s (⟨#[107,112,50,48,108,102]⟩:ByteArray)]]]) fun g11=>(bif ((Nat.beq (gi d 2).rows.length (gi d 2).rows.length)&&(decide (((gi d 2).rows.length+1)≤1048576))) then (callF (F_mk_Range [.l (gi g11 0).rows,.i (gi g11 1).int,.i 1,.i 3]) fun g12=>(bif (inI ((gi d 9).int+(gi g12 2).int)) then (bif ((Nat.beq ((gi d 2).rows++([[.s (gi g8 2).str,.s (gi g9 2).str,.i (gi g10 2).int,.s (gi g11 2).str]]:List (List G))).length ((gi d 2).rows++([[.s (gi g8 2).str,.s (gi g9 2).str,.i (gi g10 2).int,.s (gi g11 2).str]]:List (List G))).length)&&true) then some (some 0,[.l (gi g12 0).rows,.i (gi g12 1).int,.l ((gi d 2).rows++([[.s (gi g8 2).str,.s (gi g9 2).str,.i (gi g10 2).int,.s (gi g11 2).str]]:List (List G))),.l (gi d 7).rows,.s (gi d 8).str,.i ((gi d 9).int+(gi g12 2).int),.l (gi d 10).rows,.i (gi d 11).int,.i (gi d 12).int,.i (gi d 13).int,.i (gi d 14).int]) else none) else none)) else none))))) else (bif ((Nat.beq (gi d 2).rows.length (gi d 2).rows.length)&&(decide (((gi d 2).rows.length+1)≤1048576))) then (callF (F_mk_Range [.l (gi g7 0).rows,.i (gi g7 1).int,.i 1,.i 3]) fun g13=>(bif (inI ((gi d 9).int+(gi g13 2).int)) then (bif ((Nat.beq ((gi d 2).rows++([[.s (gi d 3).str,.s (gi d 4).str,.i (gi d 5).int,.s (gi d 6).str]]:List (List G))).length ((gi d 2).rows++([[.s (gi d 3).str,.s (gi d 4).str,.i (gi d 5).int,.s (gi d 6).str]]:List (List G))).length)&&true) then some (some 0,[.l (gi g13 0).rows,.i (gi g13 1).int,.l ((gi d 2).rows++([[.s (gi d 3).str,.s (gi d 4).str,.i (gi d 5).int,.s (gi d 6).str]]:List (List G))),.l (gi d 7).rows,.s (gi d 8).str,.i ((gi d 9).int+(gi g13 2).int),.l (gi d 10).rows,.i (gi d 11).int,.i (gi d 12).int,.i (gi d 13).int,.i (gi d 14).int]) else none) else none)) else none)))
def l_mk_Members_11c:LSpec:=⟨11,[],⟨76,[(0,.s (.ptr 0 0)),(1,.s (.list [.str,.list [.str]])),(5,.s (.vec 1 4)),(7,.s (.str)),(8,.s (.int .i64)),(9,.s (.ptr 2 0)),(10,.s (.list [.str])),(11,.s (.int .i64)),(12,.s (.int .i64)),(19,.s (.int .i64)),(20,.s (.int .i64))],[.box [.list [.int .i64],.int .i64],.vec KMember 0,.box [.str,.str,.int .i64,.str]]⟩,[.fix 0,.slot 5,.slot 9],[⟨.normal,⟨76,[(0,.s (.ptr 0 0)),(1,.s (.list [.str,.list [.str]])),(5,.s (.vec 1 4)),(7,.s (.str)),(8,.s (.int .i64)),(10,.s (.list [.str])),(11,.s (.int .i64)),(12,.s (.int .i64)),(19,.s (.int .i64)),(20,.s (.int .i64))],[.box [.list [.int .i64],.int .i64],.vec KMember 0]⟩,[.fix 0,.slot 5]⟩],tl_mk_Members_11⟩
theorem r_mk_Members_11c:CutOK P t16 L_mk_Members_10c 1 (cutAt Tryz.f6 11) l_mk_Members_11c:=fun d=>by kernel_rfl
def L_mk_Members_11c:LT:=L_mk_Members_10c.addCut 1 l_mk_Members_11c
theorem L_mk_Members_11c_ok:LpK P 1 L_mk_Members_11c (bodyOf Tryz.f6):=LpK.aC hm t16_ok L_mk_Members_10c_ok r_mk_Members_11c
def st_mk_Members_7 (d:List G):Option (Option Nat × List G) :=
 (bif (ltI (gi d 10).int (gi d 9).int) then (callF (F_mk_Some [.l (gi d 0).rows,.i (gi d 1).int,.l [[.s (⟨#[107,112,50,48,108,102]⟩:ByteArray)],[.s (⟨#[107,112,50,48,97,97]⟩:ByteArray)],[.s (⟨#[107,112,50,49,120,120]⟩:ByteArray)],[.s (⟨#[106,111,54,50,113,109]⟩:ByteArray)],[.s (⟨#[97,97,48,48,97,97]⟩:ByteArray)]]]) fun g3=>(bif (ltI 0 (((gi d 3).rows.length:Nat):Int)) then (callF (F_mk_Flip [.l (gi g3 0).rows,.i (gi g3 1).int,.i 5]) fun g4=>(loopB ((Nat.beq (gi d 2).rows.length (gi d 2).rows.length)&&true) (cutR (tl_mk_Members_10 [.l (gi g4 0).rows,.i (gi g4 1).int,.l (gi d 2).rows,.s (gi d 4).str,.s (⟨#[]⟩:ByteArray),.i (gi d 5).int,.s (gi g3 2).str,.l (gi d 3).rows,.s (gi d 4).str,.i (gi d 5).int,.l (gi d 6).rows,.i (gi d 7).int,.i (gi d 8).int,.i (gi d 9).int,.i (gi d 10).int,.t (!(gi g4 2).bool)])) fun cg6 g6=>(loopB ((Nat.beq (gi g6 2).rows.length (gi g6 2).rows.length)&&true) (cutR (tl_mk_Members_11 [.l (gi g6 0).rows,.i (gi g6 1).int,.l (gi g6 2).rows,.s (gi g6 3).str,.s (gi g6 4).str,.i (gi g6 5).int,.s (gi g6 6).str,.l (gi g6 7).rows,.s (gi g6 8).str,.i (gi g6 9).int,.l (gi g6 10).rows,.i (gi g6 11).int,.i (gi g6 12).int,.i (gi g6 13).int,.i (gi g6 14).int])) fun cg14 g14=>(bif (inI ((gi g14 10).int+1)) then (bif ((Nat.beq (gi g14 2).rows.length (gi g14 2).rows.length)&&true) then some (none,[.l (gi g14 0).rows,.i (gi g14 1).int,.l (gi g14 2).rows,.l (gi g14 3).rows,.s (gi g14 4).str,.i (gi g14 5).int,.l (gi g14 6).rows,.i (gi g14 7).int,.i (gi g14 8).int,.i (gi g14 9).int,.i ((gi g14 10).int+1)]) else none) else none)))) else (loopB ((Nat.beq (gi d 2).rows.length (gi d 2).rows.length)&&true) (cutR (tl_mk_Members_10 [.l (gi g3 0).rows,.i (gi g3 1).int,.l (gi d 2).rows,.s (gi d 4).str,.s (⟨#[]⟩:ByteArray),.i (gi d 5).int,.s (gi g3 2).str,.l (gi d 3).rows,.s (gi d 4).str,.i (gi d 5).int,.l (gi d 6).rows,.i (gi d 7).int,.i (gi d 8).int,.i (gi d 9).int,.i (gi d 10).int,.t false])) fun cg15 g15=>(loopB ((Nat.beq (gi g15 2).rows.length (gi g15 2).rows.length)&&true) (cutR (tl_mk_Members_11 [.l (gi g15 0).rows,.i (gi g15 1).int,.l (gi g15 2).rows,.s (gi g15 3).str,.s (gi g15 4).str,.i (gi g15 5).int,.s (gi g15 6).str,.l (gi g15 7).rows,.s (gi g15 8).str,.i (gi g15 9).int,.l (gi g15 10).rows,.i (gi g15 11).int,.i (gi g15 12).int,.i (gi g15 13).int,.i (gi g15 14).int])) fun cg16 g16=>(bif (inI ((gi g16 10).int+1)) then (bif ((Nat.beq (gi g16 2).rows.length (gi g16 2).rows.length)&&true) then some (none,[.l (gi g16 0).rows,.i (gi g16 1).int,.l (gi g16 2).rows,.l (gi g16 3).rows,.s (gi g16 4).str,.i (gi g16 5).int,.l (gi g16 6).rows,.i (gi g16 7).int,.i (gi g16 8).int,.i (gi g16 9).int,.i ((gi g16 10).int+1)]) else none) else none))))) else (bif ((Nat.beq (gi d 2).rows.length (gi d 2).rows.length)&&true) then some (some 0,[.l (gi d 0).rows,.i (gi d 1).int,.l (gi d 2).rows,.l (gi d 3).rows,.l (gi d 6).rows,.i (gi d 7).int,.i (gi d 8).int]) else none))
def l_mk_Members_7:LSpec:=⟨7,[],⟨76,[(0,.s (.ptr 0 0)),(1,.s (.list [.str,.list [.str]])),(5,.s (.vec 1 4)),(7,.s (.str)),(8,.s (.int .i64)),(10,.s (.list [.str])),(11,.s (.int .i64)),(12,.s (.int .i64)),(19,.s (.int .i64)),(20,.s (.int .i64))],[.box [.list [.int .i64],.int .i64],.vec KMember 0]⟩,[.fix 0,.slot 5],[⟨.exit 2,⟨76,[(0,.s (.ptr 0 0)),(1,.s (.list [.str,.list [.str]])),(5,.s (.vec 1 4)),(10,.s (.list [.str])),(11,.s (.int .i64)),(12,.s (.int .i64))],[.box [.list [.int .i64],.int .i64],.vec KMember 0]⟩,[.fix 0,.slot 5]⟩],st_mk_Members_7⟩
theorem r_mk_Members_7:RoundOK P t16 L_mk_Members_11c 1 (loopAt Tryz.f6 7) l_mk_Members_7:=fun d=>by kernel_rfl
def L_mk_Members_7:LT:=L_mk_Members_11c.add 1 l_mk_Members_7
theorem L_mk_Members_7_ok:LpK P 1 L_mk_Members_7 (bodyOf Tryz.f6):=LpK.a hm t16_ok L_mk_Members_11c_ok r_mk_Members_7
def st_mk_Members_3 (d:List G):Option (Option Nat × List G) :=
 (bif (ltI (gi d 6).int (gi d 5).int) then (bif ((nnI (gi d 6).int)&&(ltI (gi d 6).int (((gi d 4).rows.length:Nat):Int))) then (callF (F_mk_Range [.l (gi d 0).rows,.i (gi d 1).int,.i 0,.i 5]) fun g1=>(callF (F_mk_Range [.l (gi g1 0).rows,.i (gi g1 1).int,.i 0,.i 2]) fun g2=>(loopB ((Nat.beq (gi d 2).rows.length (gi d 2).rows.length)&&true) (LRun st_mk_Members_7 [.l (gi g2 0).rows,.i (gi g2 1).int,.l (gi d 2).rows,.l (gi d 3).rows,.s (gi ((gi d 4).rows.getD (((gi d 6).int).toNat) []) 0).str,.i (gi g1 2).int,.l (gi d 4).rows,.i (gi d 5).int,.i (gi d 6).int,.i (gi g2 2).int,.i 0]) fun cg17 g17=>(bif (inI ((gi g17 6).int+1)) then (bif ((Nat.beq (gi g17 2).rows.length (gi g17 2).rows.length)&&true) then some (none,[.l (gi g17 0).rows,.i (gi g17 1).int,.l (gi g17 2).rows,.l (gi g17 3).rows,.l (gi g17 4).rows,.i (gi g17 5).int,.i ((gi g17 6).int+1)]) else none) else none)))) else none) else (bif ((Nat.beq (gi d 2).rows.length (gi d 2).rows.length)&&true) then some (some 0,[.l (gi d 0).rows,.i (gi d 1).int,.l (gi d 2).rows]) else none))
def l_mk_Members_3:LSpec:=⟨3,[(5,KMember)],⟨76,[(0,.s (.ptr 0 0)),(1,.s (.list [.str,.list [.str]])),(5,.s (.vec 1 4)),(10,.s (.list [.str])),(11,.s (.int .i64)),(12,.s (.int .i64))],[.box [.list [.int .i64],.int .i64],.vec KMember 0]⟩,[.fix 0,.slot 5],[⟨.exit 0,⟨76,[(5,.s (.vec 1 4))],[.box [.list [.int .i64],.int .i64],.vec KMember 0]⟩,[.fix 0,.slot 5]⟩],st_mk_Members_3⟩
theorem r_mk_Members_3:RoundOK P t16 L_mk_Members_7 1 (loopAt Tryz.f6 3) l_mk_Members_3:=fun d=>by kernel_rfl
def L_mk_Members_3:LT:=L_mk_Members_7.add 1 l_mk_Members_3
theorem L_mk_Members_3_ok:LpK P 1 L_mk_Members_3 (bodyOf Tryz.f6):=LpK.a hm t16_ok L_mk_Members_7_ok r_mk_Members_3
def F_mk_Members (d:List G):Option (List G) :=
 (loopB true (LRun st_mk_Members_3 [.l (gi d 0).rows,.i (gi d 1).int,.l [],.l (gi d 2).rows,.l [[.s (⟨#[107,49,97,98]⟩:ByteArray)],[.s (⟨#[111,104,50,97,98,99]⟩:ByteArray)],[.s (⟨#[111,104,50,97,98,100]⟩:ByteArray)],[.s (⟨#[119,49,97,119]⟩:ByteArray)]],.i 4,.i 0]) fun cg18 g18=>(bif ((Nat.beq (gi g18 2).rows.length (gi g18 2).rows.length)&&true) then some [.l (gi g18 0).rows,.i (gi g18 1).int,.l (gi g18 2).rows] else none))
def s_mk_Members:FSpec:=⟨6,[.s (.ptr 0 0),.s (.list [.str,.list [.str]])],[.box [.list [.int .i64],.int .i64]],[.slot 0],[.s (.list KMember)],[.box [.list [.int .i64],.int .i64]],[.fix 0],[],F_mk_Members⟩
theorem b_mk_Members:BodyOK P t16 L_mk_Members_3 Tryz.f6 s_mk_Members:=fun d=>by kernel_rfl
theorem c_mk_Members:COK P s_mk_Members:=bdC hm t16_ok Tryz.func6 L_mk_Members_3_ok b_mk_Members
def t17:Tab:=t16.addW s_mk_Members
theorem t17_ok:TabOK P t17:=t16_ok.aW c_mk_Members

def st_mk_Entrants_6 (d:List G):Option (Option Nat × List G) :=
 (bif (ltI (gi d 9).int (gi d 8).int) then (bif ((nnI (gi d 9).int)&&(ltI (gi d 9).int (((gi d 7).rows.length:Nat):Int))) then (callF (F_mk_Flip [.l (gi d 0).rows,.i (gi d 1).int,.i 3]) fun g1=>(bif (gi g1 2).bool then (bif (inI ((gi d 9).int+1)) then (bif ((Nat.beq (gi d 2).rows.length (gi d 2).rows.length)&&true) then some (none,[.l (gi g1 0).rows,.i (gi g1 1).int,.l (gi d 2).rows,.s (gi d 3).str,.l (gi d 4).rows,.i (gi d 5).int,.i (gi d 6).int,.l (gi d 7).rows,.i (gi d 8).int,.i ((gi d 9).int+1)]) else none) else none) else (callF (F_mk_Pick [.l (gi g1 0).rows,.i (gi g1 1).int,.l [[.i 0],[.i 80],[.i 80],[.i 90],[.i 100],[.i 1000]]]) fun g2=>(callF (F_mk_Some [.l (gi g2 0).rows,.i (gi g2 1).int,.l [[.s (⟨#[]⟩:ByteArray)],[.s (⟨#[107,112,50,48,108,102]⟩:ByteArray)]]]) fun g3=>(callF (F_mk_Flip [.l (gi g3 0).rows,.i (gi g3 1).int,.i 80]) fun g4=>(bif (gi g4 2).bool then (callF (F_mk_Some [.l (gi g4 0).rows,.i (gi g4 1).int,.l [[.s (gi ((gi d 7).rows.getD (((gi d 9).int).toNat) []) 0).str],[.s (⟨#[]⟩:ByteArray)]]]) fun g5=>(callF (F_mk_Some [.l (gi g5 0).rows,.i (gi g5 1).int,.l [[.s (gi d 3).str],[.s (⟨#[65]⟩:ByteArray)]]]) fun g6=>(callF (F_mk_Odd [.l (gi g6 0).rows,.i (gi g6 1).int,.i 0,.i 1000000000000]) fun g7=>(callF (F_mk_Some [.l (gi g7 0).rows,.i (gi g7 1).int,.l [[.s (⟨#[]⟩:ByteArray)],[.s (⟨#[107,112,50,48]⟩:ByteArray)]]]) fun g8=>(bif ((Nat.beq (gi d 2).rows.length (gi d 2).rows.length)&&(decide (((gi d 2).rows.length+1)≤1048576))) then (bif (inI ((gi d 9).int+1)) then (bif ((Nat.beq ((gi d 2).rows++([[.s (gi g5 2).str,.s (gi g6 2).str,.i (gi g7 2).int,.s (gi g8 2).str]]:List (List G))).length ((gi d 2).rows++([[.s (gi g5 2).str,.s (gi g6 2).str,.i (gi g7 2).int,.s (gi g8 2).str]]:List (List G))).length)&&true) then some (none,[.l (gi g8 0).rows,.i (gi g8 1).int,.l ((gi d 2).rows++([[.s (gi g5 2).str,.s (gi g6 2).str,.i (gi g7 2).int,.s (gi g8 2).str]]:List (List G))),.s (gi d 3).str,.l (gi d 4).rows,.i (gi d 5).int,.i (gi d 6).int,.l (gi d 7).rows,.i (gi d 8).int,.i ((gi d 9).int+1)]) else none) else none) else none))))) else (bif ((Nat.beq (gi d 2).rows.length (gi d 2).rows.length)&&(decide (((gi d 2).rows.length+1)≤1048576))) then (bif (inI ((gi d 9).int+1)) then (bif ((Nat.beq ((gi d 2).rows++([[.s (gi ((gi d 7).rows.getD (((gi d 9).int).toNat) []) 0).str,.s (gi d 3).str,.i (gi g2 2).int,.s (gi g3 2).str]]:List (List G))).length ((gi d 2).rows++([[.s (gi ((gi d 7).rows.getD (((gi d 9).int).toNat) []) 0).str,.s (gi d 3).str,.i (gi g2 2).int,.s (gi g3 2).str]]:List (List G))).length)&&true) then some (none,[.l (gi g4 0).rows,.i (gi g4 1).int,.l ((gi d 2).rows++([[.s (gi ((gi d 7).rows.getD (((gi d 9).int).toNat) []) 0).str,.s (gi d 3).str,.i (gi g2 2).int,.s (gi g3 2).str]]:List (List G))),.s (gi d 3).str,.l (gi d 4).rows,.i (gi d 5).int,.i (gi d 6).int,.l (gi d 7).rows,.i (gi d 8).int,.i ((gi d 9).int+1)]) else none) else none) else none))))))) else none) else (bif ((Nat.beq (gi d 2).rows.length (gi d 2).rows.length)&&true) then some (some 0,[.l (gi d 0).rows,.i (gi d 1).int,.l (gi d 2).rows,.l (gi d 4).rows,.i (gi d 5).int,.i (gi d 6).int]) else none))
def l_mk_Entrants_6:LSpec:=⟨6,[],⟨58,[(0,.s (.ptr 0 0)),(3,.s (.vec 1 4)),(5,.s (.str)),(9,.s (.list [.str])),(10,.s (.int .i64)),(11,.s (.int .i64)),(15,.s (.list [.str])),(16,.s (.int .i64)),(17,.s (.int .i64))],[.box [.list [.int .i64],.int .i64],.vec KMember 0]⟩,[.fix 0,.slot 3],[⟨.exit 2,⟨58,[(0,.s (.ptr 0 0)),(3,.s (.vec 1 4)),(9,.s (.list [.str])),(10,.s (.int .i64)),(11,.s (.int .i64))],[.box [.list [.int .i64],.int .i64],.vec KMember 0]⟩,[.fix 0,.slot 3]⟩],st_mk_Entrants_6⟩
theorem r_mk_Entrants_6:RoundOK P t17 nL0 1 (loopAt Tryz.f7 6) l_mk_Entrants_6:=fun d=>by kernel_rfl
def L_mk_Entrants_6:LT:=nL0.add 1 l_mk_Entrants_6
theorem L_mk_Entrants_6_ok:LpK P 1 L_mk_Entrants_6 (bodyOf Tryz.f7):=LpK.a hm t17_ok (nLk _ _ _) r_mk_Entrants_6
def st_mk_Entrants_3 (d:List G):Option (Option Nat × List G) :=
 (bif (ltI (gi d 5).int (gi d 4).int) then (bif ((nnI (gi d 5).int)&&(ltI (gi d 5).int (((gi d 3).rows.length:Nat):Int))) then (loopB ((Nat.beq (gi d 2).rows.length (gi d 2).rows.length)&&true) (LRun st_mk_Entrants_6 [.l (gi d 0).rows,.i (gi d 1).int,.l (gi d 2).rows,.s (gi ((gi d 3).rows.getD (((gi d 5).int).toNat) []) 0).str,.l (gi d 3).rows,.i (gi d 4).int,.i (gi d 5).int,.l [[.s (⟨#[107,49,97,98]⟩:ByteArray)],[.s (⟨#[107,49,97,98,47,52]⟩:ByteArray)],[.s (⟨#[111,104,50,97,98,99]⟩:ByteArray)],[.s (⟨#[111,104,50,97,98,100]⟩:ByteArray)],[.s (⟨#[119,49,97,119]⟩:ByteArray)]],.i 5,.i 0]) fun cg9 g9=>(bif (inI ((gi g9 5).int+1)) then (bif ((Nat.beq (gi g9 2).rows.length (gi g9 2).rows.length)&&true) then some (none,[.l (gi g9 0).rows,.i (gi g9 1).int,.l (gi g9 2).rows,.l (gi g9 3).rows,.i (gi g9 4).int,.i ((gi g9 5).int+1)]) else none) else none)) else none) else (bif ((Nat.beq (gi d 2).rows.length (gi d 2).rows.length)&&true) then some (some 0,[.l (gi d 0).rows,.i (gi d 1).int,.l (gi d 2).rows]) else none))
def l_mk_Entrants_3:LSpec:=⟨3,[(3,KMember)],⟨58,[(0,.s (.ptr 0 0)),(3,.s (.vec 1 4)),(9,.s (.list [.str])),(10,.s (.int .i64)),(11,.s (.int .i64))],[.box [.list [.int .i64],.int .i64],.vec KMember 0]⟩,[.fix 0,.slot 3],[⟨.exit 0,⟨58,[(3,.s (.vec 1 4))],[.box [.list [.int .i64],.int .i64],.vec KMember 0]⟩,[.fix 0,.slot 3]⟩],st_mk_Entrants_3⟩
theorem r_mk_Entrants_3:RoundOK P t17 L_mk_Entrants_6 1 (loopAt Tryz.f7 3) l_mk_Entrants_3:=fun d=>by kernel_rfl
def L_mk_Entrants_3:LT:=L_mk_Entrants_6.add 1 l_mk_Entrants_3
theorem L_mk_Entrants_3_ok:LpK P 1 L_mk_Entrants_3 (bodyOf Tryz.f7):=LpK.a hm t17_ok L_mk_Entrants_6_ok r_mk_Entrants_3
def F_mk_Entrants (d:List G):Option (List G) :=
 (loopB true (LRun st_mk_Entrants_3 [.l (gi d 0).rows,.i (gi d 1).int,.l [],.l [[.s (⟨#[97,108,108]⟩:ByteArray)],[.s (⟨#[99,111,100,101]⟩:ByteArray)]],.i 2,.i 0]) fun cg10 g10=>(bif ((Nat.beq (gi g10 2).rows.length (gi g10 2).rows.length)&&true) then some [.l (gi g10 0).rows,.i (gi g10 1).int,.l (gi g10 2).rows] else none))
def s_mk_Entrants:FSpec:=⟨7,[.s (.ptr 0 0)],[.box [.list [.int .i64],.int .i64]],[.slot 0],[.s (.list KMember)],[.box [.list [.int .i64],.int .i64]],[.fix 0],[],F_mk_Entrants⟩
theorem b_mk_Entrants:BodyOK P t17 L_mk_Entrants_3 Tryz.f7 s_mk_Entrants:=fun d=>by kernel_rfl
theorem c_mk_Entrants:COK P s_mk_Entrants:=bdC hm t17_ok Tryz.func7 L_mk_Entrants_3_ok b_mk_Entrants
def t18:Tab:=t17.addW s_mk_Entrants
theorem t18_ok:TabOK P t18:=t17_ok.aW c_mk_Entrants

def F_call_Is (d:List G):Option (List G) :=
 (callF (F_call_Parts [.s (gi d 0).str]) fun g1=>some [.t (gi g1 1).bool])
def s_call_Is:FSpec:=⟨66,[.s (.str)],[],[],[.s (.bool)],[],[],[],F_call_Is⟩
theorem b_call_Is:BodyOK P t18 nL0 Tryz.f66 s_call_Is:=fun d=>by kernel_rfl
theorem c_call_Is:COK P s_call_Is:=bdC hm t18_ok Tryz.func66 (nLk _ _ _) b_call_Is
def t19:Tab:=t18.addP s_call_Is
theorem t19_ok:TabOK P t19:=t18_ok.aP c_call_Is

def F_kit_IsKey (d:List G):Option (List G) :=
 (bif (!((gi d 0).str.toList==(⟨#[]⟩:ByteArray).toList)) then (bif (leI (((gi d 0).str.size:Nat):Int) 40) then (bif (ltI 0 (((gi d 0).str.size:Nat):Int)) then (callF (F_strings_IndexByte [.s (⟨#[97,98,99,100,101,102,103,104,105,106,107,108,109,110,111,112,113,114,115,116,117,118,119,120,121,122]⟩:ByteArray),.i (((gi d 0).str.data.toList.getD 0 0).toNat:Int)]) fun g1=>(bif (leI 0 (gi g1 0).int) then (callF (F_strings_Trim [.s (gi d 0).str,.s (⟨#[97,98,99,100,101,102,103,104,105,106,107,108,109,110,111,112,113,114,115,116,117,118,119,120,121,122,48,49,50,51,52,53,54,55,56,57,45,95]⟩:ByteArray)]) fun g2=>some [.t ((gi g2 0).str.toList==(⟨#[]⟩:ByteArray).toList)]) else some [.t false])) else none) else some [.t false]) else some [.t false])
def s_kit_IsKey:FSpec:=⟨43,[.s (.str)],[],[],[.s (.bool)],[],[],[],F_kit_IsKey⟩
theorem b_kit_IsKey:BodyOK P t19 nL0 Tryz.f43 s_kit_IsKey:=fun d=>by kernel_rfl
theorem c_kit_IsKey:COK P s_kit_IsKey:=bdC hm t19_ok Tryz.func43 (nLk _ _ _) b_kit_IsKey
def t20:Tab:=t19.addP s_kit_IsKey
theorem t20_ok:TabOK P t20:=t19_ok.aP c_kit_IsKey

def F_kit_Outside (d:List G):Option (List G) :=
 (bif (ltI (gi d 0).int (gi d 1).int) then some [.t true] else some [.t (ltI (gi d 2).int (gi d 0).int)])
def s_kit_Outside:FSpec:=⟨47,[.s (.int .i64),.s (.int .i64),.s (.int .i64)],[],[],[.s (.bool)],[],[],[],F_kit_Outside⟩
theorem b_kit_Outside:BodyOK P t20 nL0 Tryz.f47 s_kit_Outside:=fun d=>by kernel_rfl
theorem c_kit_Outside:COK P s_kit_Outside:=bdC hm t20_ok Tryz.func47 (nLk _ _ _) b_kit_Outside
def t21:Tab:=t20.addP s_kit_Outside
theorem t21_ok:TabOK P t21:=t20_ok.aP c_kit_Outside

def st_club_isSquare_4 (d:List G):Option (Option Nat × List G) :=
 (bif (ltI (gi d 2).int (gi d 1).int) then (bif (inI (Int.tdiv (gi d 2).int 2)) then (bif ((Int.tdiv (gi d 2).int 2)==1) then (bif ((nnI (gi d 2).int)&&(ltI (gi d 2).int (((gi d 0).str.size:Nat):Int))) then (bif (ltI (((gi d 0).str.data.toList.getD (((gi d 2).int).toNat) 0).toNat:Int) 48) then some (some 0,[.t false]) else (bif ((nnI (gi d 2).int)&&(ltI (gi d 2).int (((gi d 0).str.size:Nat):Int))) then (bif (ltI 57 (((gi d 0).str.data.toList.getD (((gi d 2).int).toNat) 0).toNat:Int)) then some (some 0,[.t false]) else (bif (inI ((gi d 2).int+1)) then some (none,[.s (gi d 0).str,.i (gi d 1).int,.i ((gi d 2).int+1)]) else none)) else none)) else none) else (bif ((Int.tdiv (gi d 2).int 2)==2) then (bif ((nnI (gi d 2).int)&&(ltI (gi d 2).int (((gi d 0).str.size:Nat):Int))) then (bif (ltI (((gi d 0).str.data.toList.getD (((gi d 2).int).toNat) 0).toNat:Int) 97) then some (some 0,[.t false]) else (bif ((nnI (gi d 2).int)&&(ltI (gi d 2).int (((gi d 0).str.size:Nat):Int))) then (bif (ltI 120 (((gi d 0).str.data.toList.getD (((gi d 2).int).toNat) 0).toNat:Int)) then some (some 0,[.t false]) else (bif (inI ((gi d 2).int+1)) then some (none,[.s (gi d 0).str,.i (gi d 1).int,.i ((gi d 2).int+1)]) else none)) else none)) else none) else (bif ((nnI (gi d 2).int)&&(ltI (gi d 2).int (((gi d 0).str.size:Nat):Int))) then (bif (ltI (((gi d 0).str.data.toList.getD (((gi d 2).int).toNat) 0).toNat:Int) 97) then some (some 0,[.t false]) else (bif ((nnI (gi d 2).int)&&(ltI (gi d 2).int (((gi d 0).str.size:Nat):Int))) then (bif (ltI 114 (((gi d 0).str.data.toList.getD (((gi d 2).int).toNat) 0).toNat:Int)) then some (some 0,[.t false]) else (bif (inI ((gi d 2).int+1)) then some (none,[.s (gi d 0).str,.i (gi d 1).int,.i ((gi d 2).int+1)]) else none)) else none)) else none))) else none) else some (some 1,[]))
def l_club_isSquare_4:LSpec:=⟨4,[],⟨43,[(0,.s (.str)),(20,.s (.int .i64)),(21,.s (.int .i64))],[]⟩,[],[⟨.ret,⟨43,[(2,.s (.bool))],[]⟩,[]⟩,⟨.exit 0,⟨43,[],[]⟩,[]⟩],st_club_isSquare_4⟩
theorem r_club_isSquare_4:RoundOK P t21 nL0 0 (loopAt Tryz.f104 4) l_club_isSquare_4:=fun d=>by kernel_rfl
def L_club_isSquare_4:LT:=nL0.add 0 l_club_isSquare_4
theorem L_club_isSquare_4_ok:LpK P 0 L_club_isSquare_4 (bodyOf Tryz.f104):=LpK.a hm t21_ok (nLk _ _ _) r_club_isSquare_4
def F_club_isSquare (d:List G):Option (List G) :=
 (bif ((((gi d 0).str.size:Nat):Int) != 2) then (bif ((((gi d 0).str.size:Nat):Int) != 4) then (bif ((((gi d 0).str.size:Nat):Int) != 6) then some [.t false] else (loopB true (LRun st_club_isSquare_4 [.s (gi d 0).str,.i (((gi d 0).str.size:Nat):Int),.i 0]) fun cg1 g1=>(bif Nat.beq cg1 0 then some [.t (gi g1 0).bool] else some [.t true]))) else (loopB true (LRun st_club_isSquare_4 [.s (gi d 0).str,.i (((gi d 0).str.size:Nat):Int),.i 0]) fun cg2 g2=>(bif Nat.beq cg2 0 then some [.t (gi g2 0).bool] else some [.t true]))) else (loopB true (LRun st_club_isSquare_4 [.s (gi d 0).str,.i (((gi d 0).str.size:Nat):Int),.i 0]) fun cg3 g3=>(bif Nat.beq cg3 0 then some [.t (gi g3 0).bool] else some [.t true])))
def s_club_isSquare:FSpec:=⟨104,[.s (.str)],[],[],[.s (.bool)],[],[],[],F_club_isSquare⟩
theorem b_club_isSquare:BodyOK P t21 L_club_isSquare_4 Tryz.f104 s_club_isSquare:=fun d=>by kernel_rfl
theorem c_club_isSquare:COK P s_club_isSquare:=bdC hm t21_ok Tryz.func104 L_club_isSquare_4_ok b_club_isSquare
def t22:Tab:=t21.addP s_club_isSquare
theorem t22_ok:TabOK P t22:=t21_ok.aP c_club_isSquare

def F_club_isLocator (d:List G):Option (List G) :=
 (bif ((((gi d 0).str.size:Nat):Int)==6) then (callF (F_club_isSquare [.s (gi d 0).str]) fun g1=>some [.t (gi g1 0).bool]) else some [.t false])
def s_club_isLocator:FSpec:=⟨67,[.s (.str)],[],[],[.s (.bool)],[],[],[],F_club_isLocator⟩
theorem b_club_isLocator:BodyOK P t22 nL0 Tryz.f67 s_club_isLocator:=fun d=>by kernel_rfl
theorem c_club_isLocator:COK P s_club_isLocator:=bdC hm t22_ok Tryz.func67 (nLk _ _ _) b_club_isLocator
def t23:Tab:=t22.addP s_club_isLocator
theorem t23_ok:TabOK P t23:=t22_ok.aP c_club_isLocator

def st_cmp_Or_int_3 (d:List G):Option (Option Nat × List G) :=
 (bif (ltI (gi d 3).int (gi d 2).int) then (bif ((nnI (gi d 3).int)&&(ltI (gi d 3).int (((gi d 1).rows.length:Nat):Int))) then (bif ((gi ((gi d 1).rows.getD (((gi d 3).int).toNat) []) 0).int != (gi d 0).int) then some (some 0,[.i (gi ((gi d 1).rows.getD (((gi d 3).int).toNat) []) 0).int]) else (bif (inI ((gi d 3).int+1)) then some (none,[.i (gi d 0).int,.l (gi d 1).rows,.i (gi d 2).int,.i ((gi d 3).int+1)]) else none)) else none) else some (some 1,[.i (gi d 0).int]))
def l_cmp_Or_int_3:LSpec:=⟨3,[],⟨18,[(3,.s (.int .i64)),(6,.s (.list [.int .i64])),(7,.s (.int .i64)),(8,.s (.int .i64))],[]⟩,[],[⟨.ret,⟨18,[(2,.s (.int .i64))],[]⟩,[]⟩,⟨.exit 0,⟨18,[(3,.s (.int .i64))],[]⟩,[]⟩],st_cmp_Or_int_3⟩
theorem r_cmp_Or_int_3:RoundOK P t23 nL0 0 (loopAt Tryz.f68 3) l_cmp_Or_int_3:=fun d=>by kernel_rfl
def L_cmp_Or_int_3:LT:=nL0.add 0 l_cmp_Or_int_3
theorem L_cmp_Or_int_3_ok:LpK P 0 L_cmp_Or_int_3 (bodyOf Tryz.f68):=LpK.a hm t23_ok (nLk _ _ _) r_cmp_Or_int_3
def F_cmp_Or_int (d:List G):Option (List G) :=
 (loopB true (LRun st_cmp_Or_int_3 [.i 0,.l (gi d 0).rows,.i (((gi d 0).rows.length:Nat):Int),.i 0]) fun cg1 g1=>(bif Nat.beq cg1 0 then some [.i (gi g1 0).int] else some [.i (gi g1 0).int]))
def s_cmp_Or_int:FSpec:=⟨68,[.s (.list [.int .i64])],[],[],[.s (.int .i64)],[],[],[],F_cmp_Or_int⟩
theorem b_cmp_Or_int:BodyOK P t23 L_cmp_Or_int_3 Tryz.f68 s_cmp_Or_int:=fun d=>by kernel_rfl
theorem c_cmp_Or_int:COK P s_cmp_Or_int:=bdC hm t23_ok Tryz.func68 L_cmp_Or_int_3_ok b_cmp_Or_int
def t24:Tab:=t23.addP s_cmp_Or_int
theorem t24_ok:TabOK P t24:=t23_ok.aP c_cmp_Or_int

def st_club_CheckEntrants_4 (d:List G):Option (Option Nat × List G) :=
 (bif (ltI (gi d 3).int (gi d 2).int) then (bif ((nnI (gi d 3).int)&&(ltI (gi d 3).int (((gi d 1).rows.length:Nat):Int))) then (callF (F_call_Is [.s (gi ((gi d 1).rows.getD (((gi d 3).int).toNat) []) 0).str]) fun g1=>(bif (!(gi g1 0).bool) then some (some 0,[.i 3]) else (callF (F_kit_IsKey [.s (gi ((gi d 1).rows.getD (((gi d 3).int).toNat) []) 1).str]) fun g2=>(bif (!(gi g2 0).bool) then some (some 0,[.i 5]) else (callF (F_kit_Outside [.i (gi ((gi d 1).rows.getD (((gi d 3).int).toNat) []) 2).int,.i 0,.i 1000000000000]) fun g3=>(bif (gi g3 0).bool then some (some 0,[.i 1]) else (bif (!((gi ((gi d 1).rows.getD (((gi d 3).int).toNat) []) 3).str.toList==(⟨#[]⟩:ByteArray).toList)) then (callF (F_club_isLocator [.s (gi ((gi d 1).rows.getD (((gi d 3).int).toNat) []) 3).str]) fun g4=>(bif (!(gi g4 0).bool) then some (some 0,[.i 3]) else (bif (ltI 0 (gi d 3).int) then (bif (inI ((gi d 3).int-1)) then (bif ((nnI ((gi d 3).int-1))&&(ltI ((gi d 3).int-1) (((gi d 0).rows.length:Nat):Int))) then (callF (F_strings_Compare [.s (gi ((gi d 0).rows.getD (((gi d 3).int-1).toNat) []) 1).str,.s (gi ((gi d 1).rows.getD (((gi d 3).int).toNat) []) 1).str]) fun g5=>(bif (inI ((gi d 3).int-1)) then (bif ((nnI ((gi d 3).int-1))&&(ltI ((gi d 3).int-1) (((gi d 0).rows.length:Nat):Int))) then (callF (F_strings_Compare [.s (gi ((gi d 0).rows.getD (((gi d 3).int-1).toNat) []) 0).str,.s (gi ((gi d 1).rows.getD (((gi d 3).int).toNat) []) 0).str]) fun g6=>(callF (F_cmp_Or_int [.l [[.i (gi g5 0).int],[.i (gi g6 0).int]]]) fun g7=>(bif (leI 0 (gi g7 0).int) then some (some 0,[.i 7]) else (bif (inI ((gi d 3).int+1)) then some (none,[.l (gi d 0).rows,.l (gi d 1).rows,.i (gi d 2).int,.i ((gi d 3).int+1)]) else none)))) else none) else none)) else none) else none) else (bif (inI ((gi d 3).int+1)) then some (none,[.l (gi d 0).rows,.l (gi d 1).rows,.i (gi d 2).int,.i ((gi d 3).int+1)]) else none)))) else (bif (ltI 0 (gi d 3).int) then (bif (inI ((gi d 3).int-1)) then (bif ((nnI ((gi d 3).int-1))&&(ltI ((gi d 3).int-1) (((gi d 0).rows.length:Nat):Int))) then (callF (F_strings_Compare [.s (gi ((gi d 0).rows.getD (((gi d 3).int-1).toNat) []) 1).str,.s (gi ((gi d 1).rows.getD (((gi d 3).int).toNat) []) 1).str]) fun g8=>(bif (inI ((gi d 3).int-1)) then (bif ((nnI ((gi d 3).int-1))&&(ltI ((gi d 3).int-1) (((gi d 0).rows.length:Nat):Int))) then (callF (F_strings_Compare [.s (gi ((gi d 0).rows.getD (((gi d 3).int-1).toNat) []) 0).str,.s (gi ((gi d 1).rows.getD (((gi d 3).int).toNat) []) 0).str]) fun g9=>(callF (F_cmp_Or_int [.l [[.i (gi g8 0).int],[.i (gi g9 0).int]]]) fun g10=>(bif (leI 0 (gi g10 0).int) then some (some 0,[.i 7]) else (bif (inI ((gi d 3).int+1)) then some (none,[.l (gi d 0).rows,.l (gi d 1).rows,.i (gi d 2).int,.i ((gi d 3).int+1)]) else none)))) else none) else none)) else none) else none) else (bif (inI ((gi d 3).int+1)) then some (none,[.l (gi d 0).rows,.l (gi d 1).rows,.i (gi d 2).int,.i ((gi d 3).int+1)]) else none))))))))) else none) else some (some 1,[]))
def l_club_CheckEntrants_4:LSpec:=⟨4,[],⟨66,[(0,.s (.list KMember)),(8,.s (.list KMember)),(9,.s (.int .i64)),(10,.s (.int .i64))],[]⟩,[],[⟨.ret,⟨66,[(2,.s (.int .i64))],[]⟩,[]⟩,⟨.exit 0,⟨66,[],[]⟩,[]⟩],st_club_CheckEntrants_4⟩
theorem r_club_CheckEntrants_4:RoundOK P t24 nL0 0 (loopAt Tryz.f22 4) l_club_CheckEntrants_4:=fun d=>by kernel_rfl
def L_club_CheckEntrants_4:LT:=nL0.add 0 l_club_CheckEntrants_4
theorem L_club_CheckEntrants_4_ok:LpK P 0 L_club_CheckEntrants_4 (bodyOf Tryz.f22):=LpK.a hm t24_ok (nLk _ _ _) r_club_CheckEntrants_4
def F_club_CheckEntrants (d:List G):Option (List G) :=
 (bif (ltI 500 (((gi d 0).rows.length:Nat):Int)) then some [.i 2] else (loopB true (LRun st_club_CheckEntrants_4 [.l (gi d 0).rows,.l (gi d 0).rows,.i (((gi d 0).rows.length:Nat):Int),.i 0]) fun cg11 g11=>(bif Nat.beq cg11 0 then some [.i (gi g11 0).int] else some [.i 0])))
def s_club_CheckEntrants:FSpec:=⟨22,[.s (.list KMember)],[],[],[.s (.int .i64)],[],[],[],F_club_CheckEntrants⟩
theorem b_club_CheckEntrants:BodyOK P t24 L_club_CheckEntrants_4 Tryz.f22 s_club_CheckEntrants:=fun d=>by kernel_rfl
theorem c_club_CheckEntrants:COK P s_club_CheckEntrants:=bdC hm t24_ok Tryz.func22 L_club_CheckEntrants_4_ok b_club_CheckEntrants
def t25:Tab:=t24.addP s_club_CheckEntrants
theorem t25_ok:TabOK P t25:=t24_ok.aP c_club_CheckEntrants

def tl_bits_Len64_10 (d:List G):Option (Option Nat × List G) :=
 (bif ((nnI (IntKind.u8.wrap ((gi d 0).int)))&&(ltI (IntKind.u8.wrap ((gi d 0).int)) 256)) then (bif (inI (((⟨#[0,1,2,2,3,3,3,3,4,4,4,4,4,4,4,4,5,5,5,5,5,5,5,5,5,5,5,5,5,5,5,5,6,6,6,6,6,6,6,6,6,6,6,6,6,6,6,6,6,6,6,6,6,6,6,6,6,6,6,6,6,6,6,6,7,7,7,7,7,7,7,7,7,7,7,7,7,7,7,7,7,7,7,7,7,7,7,7,7,7,7,7,7,7,7,7,7,7,7,7,7,7,7,7,7,7,7,7,7,7,7,7,7,7,7,7,7,7,7,7,7,7,7,7,7,7,7,7,8,8,8,8,8,8,8,8,8,8,8,8,8,8,8,8,8,8,8,8,8,8,8,8,8,8,8,8,8,8,8,8,8,8,8,8,8,8,8,8,8,8,8,8,8,8,8,8,8,8,8,8,8,8,8,8,8,8,8,8,8,8,8,8,8,8,8,8,8,8,8,8,8,8,8,8,8,8,8,8,8,8,8,8,8,8,8,8,8,8,8,8,8,8,8,8,8,8,8,8,8,8,8,8,8,8,8,8,8,8,8,8,8,8,8,8,8,8,8,8,8,8,8,8,8,8,8,8]⟩:ByteArray).data.toList.getD ((IntKind.u8.wrap ((gi d 0).int)).toNat) 0).toNat:Int)) then (bif (inI ((gi d 1).int+(((⟨#[0,1,2,2,3,3,3,3,4,4,4,4,4,4,4,4,5,5,5,5,5,5,5,5,5,5,5,5,5,5,5,5,6,6,6,6,6,6,6,6,6,6,6,6,6,6,6,6,6,6,6,6,6,6,6,6,6,6,6,6,6,6,6,6,7,7,7,7,7,7,7,7,7,7,7,7,7,7,7,7,7,7,7,7,7,7,7,7,7,7,7,7,7,7,7,7,7,7,7,7,7,7,7,7,7,7,7,7,7,7,7,7,7,7,7,7,7,7,7,7,7,7,7,7,7,7,7,7,8,8,8,8,8,8,8,8,8,8,8,8,8,8,8,8,8,8,8,8,8,8,8,8,8,8,8,8,8,8,8,8,8,8,8,8,8,8,8,8,8,8,8,8,8,8,8,8,8,8,8,8,8,8,8,8,8,8,8,8,8,8,8,8,8,8,8,8,8,8,8,8,8,8,8,8,8,8,8,8,8,8,8,8,8,8,8,8,8,8,8,8,8,8,8,8,8,8,8,8,8,8,8,8,8,8,8,8,8,8,8,8,8,8,8,8,8,8,8,8,8,8,8,8,8,8,8,8]⟩:ByteArray).data.toList.getD ((IntKind.u8.wrap ((gi d 0).int)).toNat) 0).toNat:Int))) then some (some 0,[.i ((gi d 1).int+(((⟨#[0,1,2,2,3,3,3,3,4,4,4,4,4,4,4,4,5,5,5,5,5,5,5,5,5,5,5,5,5,5,5,5,6,6,6,6,6,6,6,6,6,6,6,6,6,6,6,6,6,6,6,6,6,6,6,6,6,6,6,6,6,6,6,6,7,7,7,7,7,7,7,7,7,7,7,7,7,7,7,7,7,7,7,7,7,7,7,7,7,7,7,7,7,7,7,7,7,7,7,7,7,7,7,7,7,7,7,7,7,7,7,7,7,7,7,7,7,7,7,7,7,7,7,7,7,7,7,7,8,8,8,8,8,8,8,8,8,8,8,8,8,8,8,8,8,8,8,8,8,8,8,8,8,8,8,8,8,8,8,8,8,8,8,8,8,8,8,8,8,8,8,8,8,8,8,8,8,8,8,8,8,8,8,8,8,8,8,8,8,8,8,8,8,8,8,8,8,8,8,8,8,8,8,8,8,8,8,8,8,8,8,8,8,8,8,8,8,8,8,8,8,8,8,8,8,8,8,8,8,8,8,8,8,8,8,8,8,8,8,8,8,8,8,8,8,8,8,8,8,8,8,8,8,8,8,8]⟩:ByteArray).data.toList.getD ((IntKind.u8.wrap ((gi d 0).int)).toNat) 0).toNat:Int))]) else none) else none) else none)
def l_bits_Len64_10c:LSpec:=⟨10,[],⟨25,[(0,.s (.int .u64)),(2,.s (.int .i64))],[]⟩,[],[⟨.ret,⟨25,[(2,.s (.int .i64))],[]⟩,[]⟩],tl_bits_Len64_10⟩
theorem r_bits_Len64_10c:CutOK P t25 nL0 0 (cutAt Tryz.f153 10) l_bits_Len64_10c:=fun d=>by kernel_rfl
def L_bits_Len64_10c:LT:=nL0.addCut 0 l_bits_Len64_10c
theorem L_bits_Len64_10c_ok:LpK P 0 L_bits_Len64_10c (bodyOf Tryz.f153):=LpK.aC hm t25_ok (nLk _ _ _) r_bits_Len64_10c
def F_bits_Len64 (d:List G):Option (List G) :=
 (bif (leI 4294967296 (gi d 0).int) then (bif (leI 65536 (shrI .u64 (gi d 0).int 32)) then (bif (leI 256 (shrI .u64 (shrI .u64 (gi d 0).int 32) 16)) then (loopB true (cutR (tl_bits_Len64_10 [.i (shrI .u64 (shrI .u64 (shrI .u64 (gi d 0).int 32) 16) 8),.i 56])) fun cg1 g1=>some [.i (gi g1 0).int]) else (loopB true (cutR (tl_bits_Len64_10 [.i (shrI .u64 (shrI .u64 (gi d 0).int 32) 16),.i 48])) fun cg2 g2=>some [.i (gi g2 0).int])) else (bif (leI 256 (shrI .u64 (gi d 0).int 32)) then (loopB true (cutR (tl_bits_Len64_10 [.i (shrI .u64 (shrI .u64 (gi d 0).int 32) 8),.i 40])) fun cg3 g3=>some [.i (gi g3 0).int]) else (loopB true (cutR (tl_bits_Len64_10 [.i (shrI .u64 (gi d 0).int 32),.i 32])) fun cg4 g4=>some [.i (gi g4 0).int]))) else (bif (leI 65536 (gi d 0).int) then (bif (leI 256 (shrI .u64 (gi d 0).int 16)) then (loopB true (cutR (tl_bits_Len64_10 [.i (shrI .u64 (shrI .u64 (gi d 0).int 16) 8),.i 24])) fun cg5 g5=>some [.i (gi g5 0).int]) else (loopB true (cutR (tl_bits_Len64_10 [.i (shrI .u64 (gi d 0).int 16),.i 16])) fun cg6 g6=>some [.i (gi g6 0).int])) else (bif (leI 256 (gi d 0).int) then (loopB true (cutR (tl_bits_Len64_10 [.i (shrI .u64 (gi d 0).int 8),.i 8])) fun cg7 g7=>some [.i (gi g7 0).int]) else (loopB true (cutR (tl_bits_Len64_10 [.i (gi d 0).int,.i 0])) fun cg8 g8=>some [.i (gi g8 0).int]))))
def s_bits_Len64:FSpec:=⟨153,[.s (.int .u64)],[],[],[.s (.int .i64)],[],[],[],F_bits_Len64⟩
theorem b_bits_Len64:BodyOK P t25 L_bits_Len64_10c Tryz.f153 s_bits_Len64:=fun d=>by kernel_rfl
theorem c_bits_Len64:COK P s_bits_Len64:=bdC hm t25_ok Tryz.func153 L_bits_Len64_10c_ok b_bits_Len64
def t26:Tab:=t25.addP s_bits_Len64
theorem t26_ok:TabOK P t26:=t25_ok.aP c_bits_Len64

def F_bits_Len (d:List G):Option (List G) :=
 (callF (F_bits_Len64 [.i (gi d 0).int]) fun g1=>some [.i (gi g1 0).int])
def s_bits_Len:FSpec:=⟨94,[.s (.int .u64)],[],[],[.s (.int .i64)],[],[],[],F_bits_Len⟩
theorem b_bits_Len:BodyOK P t26 nL0 Tryz.f94 s_bits_Len:=fun d=>by kernel_rfl
theorem c_bits_Len:COK P s_bits_Len:=bdC hm t26_ok Tryz.func94 (nLk _ _ _) b_bits_Len
def t27:Tab:=t26.addP s_bits_Len
theorem t27_ok:TabOK P t27:=t26_ok.aP c_bits_Len

def F_cmp_isNaN_int (d:List G):Option (List G) :=
 some [.t ((gi d 0).int != (gi d 0).int)]
def s_cmp_isNaN_int:FSpec:=⟨133,[.s (.int .i64)],[],[],[.s (.bool)],[],[],[],F_cmp_isNaN_int⟩
theorem b_cmp_isNaN_int:BodyOK P t27 nL0 Tryz.f133 s_cmp_isNaN_int:=fun d=>by kernel_rfl
theorem c_cmp_isNaN_int:COK P s_cmp_isNaN_int:=bdC hm t27_ok Tryz.func133 (nLk _ _ _) b_cmp_isNaN_int
def t28:Tab:=t27.addP s_cmp_isNaN_int
theorem t28_ok:TabOK P t28:=t27_ok.aP c_cmp_isNaN_int

def F_cmp_Compare_int (d:List G):Option (List G) :=
 (callF (F_cmp_isNaN_int [.i (gi d 0).int]) fun g1=>(callF (F_cmp_isNaN_int [.i (gi d 1).int]) fun g2=>(bif (gi g1 0).bool then (bif (gi g2 0).bool then some [.i 0] else some [.i (-1)]) else (bif (gi g2 0).bool then some [.i 1] else (bif (ltI (gi d 0).int (gi d 1).int) then some [.i (-1)] else (bif (ltI (gi d 1).int (gi d 0).int) then some [.i 1] else some [.i 0]))))))
def s_cmp_Compare_int:FSpec:=⟨88,[.s (.int .i64),.s (.int .i64)],[],[],[.s (.int .i64)],[],[],[],F_cmp_Compare_int⟩
theorem b_cmp_Compare_int:BodyOK P t28 nL0 Tryz.f88 s_cmp_Compare_int:=fun d=>by kernel_rfl
theorem c_cmp_Compare_int:COK P s_cmp_Compare_int:=bdC hm t28_ok Tryz.func88 (nLk _ _ _) b_cmp_Compare_int
def t29:Tab:=t28.addP s_cmp_Compare_int
theorem t29_ok:TabOK P t29:=t28_ok.aP c_cmp_Compare_int

def F_club_ranked_1 (d:List G):Option (List G) :=
 (callF (F_cmp_Compare_int [.i (gi (gi d 1).row 1).int,.i (gi (gi d 0).row 1).int]) fun g1=>(callF (F_strings_Compare [.s (gi (gi d 0).row 2).str,.s (gi (gi d 1).row 2).str]) fun g2=>(callF (F_cmp_Or_int [.l [[.i (gi g1 0).int],[.i (gi g2 0).int]]]) fun g3=>some [.i (gi g3 0).int])))
def s_club_ranked_1:FSpec:=⟨87,[.s (.row KPlace),.s (.row KPlace)],[],[],[.s (.int .i64)],[],[],[],F_club_ranked_1⟩
theorem b_club_ranked_1:BodyOK P t29 nL0 Tryz.f87 s_club_ranked_1:=fun d=>by kernel_rfl
theorem c_club_ranked_1:COK P s_club_ranked_1:=bdC hm t29_ok Tryz.func87 (nLk _ _ _) b_club_ranked_1
def t30:Tab:=t29.addP s_club_ranked_1
theorem t30_ok:TabOK P t30:=t29_ok.aP c_club_ranked_1

def st_insS_Place_4 (d:List G):Option (Option Nat × List G) :=
 (bif (ltI (gi d 1).int (gi d 4).int) then (bif ((nnI (gi d 4).int)&&(ltI (gi d 4).int (((gi d 0).rows.length:Nat):Int))) then (bif (decide ((0+((gi d 4).int).toNat)<(gi d 0).rows.length)) then (bif (inI ((gi d 4).int-1)) then (bif ((nnI ((gi d 4).int-1))&&(ltI ((gi d 4).int-1) (((gi d 0).rows.length:Nat):Int))) then (bif (decide ((0+((gi d 4).int-1).toNat)<(gi d 0).rows.length)) then (callF (F_club_ranked_1 [.l [(gEta KPlace ((gi d 0).rows.getD (0+((gi d 4).int).toNat) []))],.l [(gEta KPlace ((gi d 0).rows.getD (0+((gi d 4).int-1).toNat) []))]]) fun g1=>(bif (ltI (gi g1 0).int 0) then (bif (inI ((gi d 4).int-1)) then (bif (inI ((gi d 4).int-1)) then (bif ((nnI ((gi d 4).int-1))&&(ltI ((gi d 4).int-1) (((gi d 0).rows.length:Nat):Int))) then (bif (decide ((0+((gi d 4).int-1).toNat)<(gi d 0).rows.length)) then (bif ((nnI (gi d 4).int)&&(ltI (gi d 4).int (((gi d 0).rows.length:Nat):Int))) then (bif (decide ((0+((gi d 4).int).toNat)<(gi d 0).rows.length)) then (bif ((nnI (gi d 4).int)&&(ltI (gi d 4).int (((gi d 0).rows.length:Nat):Int))) then (bif (decide ((0+((gi d 4).int).toNat)<(gi d 0).rows.length)) then (bif ((nnI ((gi d 4).int-1))&&(ltI ((gi d 4).int-1) (((gi d 0).rows.length:Nat):Int))) then (bif (decide ((0+((gi d 4).int-1).toNat)<((gi d 0).rows.set (0+((gi d 4).int).toNat) (putG KPlace ((gi d 0).rows.getD (0+((gi d 4).int).toNat) []) 0 (gEta KPlace ((gi d 0).rows.getD (0+((gi d 4).int-1).toNat) [])))).length)) then (bif (inI ((gi d 4).int-1)) then (bif ((Nat.beq (gi d 0).rows.length (((gi d 0).rows.set (0+((gi d 4).int).toNat) (putG KPlace ((gi d 0).rows.getD (0+((gi d 4).int).toNat) []) 0 (gEta KPlace ((gi d 0).rows.getD (0+((gi d 4).int-1).toNat) [])))).set (0+((gi d 4).int-1).toNat) (putG KPlace (((gi d 0).rows.set (0+((gi d 4).int).toNat) (putG KPlace ((gi d 0).rows.getD (0+((gi d 4).int).toNat) []) 0 (gEta KPlace ((gi d 0).rows.getD (0+((gi d 4).int-1).toNat) [])))).getD (0+((gi d 4).int-1).toNat) []) 0 (gEta KPlace ((gi d 0).rows.getD (0+((gi d 4).int).toNat) [])))).length)&&true) then some (none,[.l (((gi d 0).rows.set (0+((gi d 4).int).toNat) (putG KPlace ((gi d 0).rows.getD (0+((gi d 4).int).toNat) []) 0 (gEta KPlace ((gi d 0).rows.getD (0+((gi d 4).int-1).toNat) [])))).set (0+((gi d 4).int-1).toNat) (putG KPlace (((gi d 0).rows.set (0+((gi d 4).int).toNat) (putG KPlace ((gi d 0).rows.getD (0+((gi d 4).int).toNat) []) 0 (gEta KPlace ((gi d 0).rows.getD (0+((gi d 4).int-1).toNat) [])))).getD (0+((gi d 4).int-1).toNat) []) 0 (gEta KPlace ((gi d 0).rows.getD (0+((gi d 4).int).toNat) [])))),.i (gi d 1).int,.i (gi d 2).int,.i (gi d 3).int,.i ((gi d 4).int-1)]) else none) else none) else none) else none) else none) else none) else none) else none) else none) else none) else none) else none) else (bif ((Nat.beq (gi d 0).rows.length (gi d 0).rows.length)&&true) then some (some 0,[.l (gi d 0).rows,.i (gi d 1).int,.i (gi d 2).int,.i (gi d 3).int]) else none))) else none) else none) else none) else none) else none) else (bif ((Nat.beq (gi d 0).rows.length (gi d 0).rows.length)&&true) then some (some 0,[.l (gi d 0).rows,.i (gi d 1).int,.i (gi d 2).int,.i (gi d 3).int]) else none))
def l_insS_Place_4:LSpec:=⟨4,[],⟨53,[(0,.s (.vec 0 3)),(1,.s (.int .i64)),(2,.s (.int .i64)),(3,.s (.fn 87)),(8,.s (.int .i64)),(9,.s (.int .i64))],[.vec KPlace 0]⟩,[.fix 0],[⟨.exit 2,⟨53,[(0,.s (.vec 0 3)),(1,.s (.int .i64)),(2,.s (.int .i64)),(3,.s (.fn 87)),(8,.s (.int .i64))],[.vec KPlace 0]⟩,[.fix 0]⟩],st_insS_Place_4⟩
theorem r_insS_Place_4:RoundOK P t30 nL0 1 (loopAt Tryz.f188 4) l_insS_Place_4:=fun d=>by kernel_rfl
def L_insS_Place_4:LT:=nL0.add 1 l_insS_Place_4
theorem L_insS_Place_4_ok:LpK P 1 L_insS_Place_4 (bodyOf Tryz.f188):=LpK.a hm t30_ok (nLk _ _ _) r_insS_Place_4
def st_insS_Place_1 (d:List G):Option (Option Nat × List G) :=
 (bif (ltI (gi d 3).int (gi d 2).int) then (loopB ((Nat.beq (gi d 0).rows.length (gi d 0).rows.length)&&true) (LRun st_insS_Place_4 [.l (gi d 0).rows,.i (gi d 1).int,.i (gi d 2).int,.i (gi d 3).int,.i (gi d 3).int]) fun cg2 g2=>(bif (inI ((gi g2 3).int+1)) then (bif ((Nat.beq (gi g2 0).rows.length (gi g2 0).rows.length)&&true) then some (none,[.l (gi g2 0).rows,.i (gi g2 1).int,.i (gi g2 2).int,.i ((gi g2 3).int+1)]) else none) else none)) else some (some 0,[.l (gi d 0).rows]))
def l_insS_Place_1:LSpec:=⟨1,[],⟨53,[(0,.s (.vec 0 3)),(1,.s (.int .i64)),(2,.s (.int .i64)),(3,.s (.fn 87)),(8,.s (.int .i64))],[.vec KPlace 0]⟩,[.fix 0],[⟨.exit 0,⟨53,[],[.vec KPlace 0]⟩,[.fix 0]⟩],st_insS_Place_1⟩
theorem r_insS_Place_1:RoundOK P t30 L_insS_Place_4 1 (loopAt Tryz.f188 1) l_insS_Place_1:=fun d=>by kernel_rfl
def L_insS_Place_1:LT:=L_insS_Place_4.add 1 l_insS_Place_1
theorem L_insS_Place_1_ok:LpK P 1 L_insS_Place_1 (bodyOf Tryz.f188):=LpK.a hm t30_ok L_insS_Place_4_ok r_insS_Place_1
def F_insS_Place (d:List G):Option (List G) :=
 (bif (inI ((gi d 1).int+1)) then (loopB ((Nat.beq (gi d 0).rows.length (gi d 0).rows.length)&&true) (LRun st_insS_Place_1 [.l (gi d 0).rows,.i (gi d 1).int,.i (gi d 2).int,.i ((gi d 1).int+1)]) fun cg3 g3=>some [.l (gi g3 0).rows]) else none)
def s_insS_Place:FSpec:=⟨188,[.s (.vec 0 3),.s (.int .i64),.s (.int .i64),.s (.fn 87)],[.vec KPlace 0],[.slot 0],[],[.vec KPlace 0],[.fix 0],[],F_insS_Place⟩
theorem b_insS_Place:BodyOK P t30 L_insS_Place_1 Tryz.f188 s_insS_Place:=fun d=>by kernel_rfl
theorem c_insS_Place:COK P s_insS_Place:=bdC hm t30_ok Tryz.func188 L_insS_Place_1_ok b_insS_Place
def t31:Tab:=t30.addW s_insS_Place
theorem t31_ok:TabOK P t31:=t30_ok.aW c_insS_Place

def st_sl_pdqsortCmpFunc_Place_2 (d:List G):Option (Option Nat × List G) :=
 (bif (inI ((gi d 2).int-(gi d 1).int)) then (bif (leI ((gi d 2).int-(gi d 1).int) 12) then (callB (((Nat.beq (gi d 0).rows.length (gi d 0).rows.length)&&true)&&(F_insS_Place [.l (gi d 0).rows,.i (gi d 1).int,.i (gi d 2).int]).isSome) (F_insS_Place [.l (gi d 0).rows,.i (gi d 1).int,.i (gi d 2).int]) fun g1=>some (some 0,[.l (gi g1 0).rows])) else (bif ((gi d 3).int==0) then none else (bif (!(gi d 4).bool) then none else none))) else none)
def l_sl_pdqsortCmpFunc_Place_2:LSpec:=⟨2,[],⟨148,[(0,.s (.vec 0 3)),(1,.s (.int .i64)),(2,.s (.int .i64)),(3,.s (.int .i64)),(4,.s (.fn 87)),(10,.s (.bool)),(11,.s (.bool))],[.vec KPlace 0]⟩,[.fix 0],[⟨.ret,⟨148,[],[.vec KPlace 0]⟩,[.fix 0]⟩],st_sl_pdqsortCmpFunc_Place_2⟩
theorem r_sl_pdqsortCmpFunc_Place_2:RoundOK P t31 nL0 1 (loopAt Tryz.f132 2) l_sl_pdqsortCmpFunc_Place_2:=fun d=>by kernel_rfl
def L_sl_pdqsortCmpFunc_Place_2:LT:=nL0.add 1 l_sl_pdqsortCmpFunc_Place_2
theorem L_sl_pdqsortCmpFunc_Place_2_ok:LpK P 1 L_sl_pdqsortCmpFunc_Place_2 (bodyOf Tryz.f132):=LpK.a hm t31_ok (nLk _ _ _) r_sl_pdqsortCmpFunc_Place_2
def F_sl_pdqsortCmpFunc_Place (d:List G):Option (List G) :=
 (loopB ((Nat.beq (gi d 0).rows.length (gi d 0).rows.length)&&true) (LRun st_sl_pdqsortCmpFunc_Place_2 [.l (gi d 0).rows,.i (gi d 1).int,.i (gi d 2).int,.i (gi d 3).int,.t true,.t true]) fun cg2 g2=>some [.l (gi g2 0).rows])
def s_sl_pdqsortCmpFunc_Place:FSpec:=⟨132,[.s (.vec 0 3),.s (.int .i64),.s (.int .i64),.s (.int .i64),.s (.fn 87)],[.vec KPlace 0],[.slot 0],[],[.vec KPlace 0],[.fix 0],[],F_sl_pdqsortCmpFunc_Place⟩
theorem b_sl_pdqsortCmpFunc_Place:BodyOK P t31 L_sl_pdqsortCmpFunc_Place_2 Tryz.f132 s_sl_pdqsortCmpFunc_Place:=fun d=>by kernel_rfl
theorem c_sl_pdqsortCmpFunc_Place:COK P s_sl_pdqsortCmpFunc_Place:=bdC hm t31_ok Tryz.func132 L_sl_pdqsortCmpFunc_Place_2_ok b_sl_pdqsortCmpFunc_Place
def t32:Tab:=t31.addW s_sl_pdqsortCmpFunc_Place
theorem t32_ok:TabOK P t32:=t31_ok.aW c_sl_pdqsortCmpFunc_Place

def F_sl_SortFunc_Place (d:List G):Option (List G) :=
 (callF (F_bits_Len [.i (IntKind.u64.wrap (((gi d 0).rows.length:Nat):Int))]) fun g1=>(callB (((Nat.beq (gi d 0).rows.length (gi d 0).rows.length)&&true)&&(F_sl_pdqsortCmpFunc_Place [.l (gi d 0).rows,.i 0,.i (((gi d 0).rows.length:Nat):Int),.i (gi g1 0).int]).isSome) (F_sl_pdqsortCmpFunc_Place [.l (gi d 0).rows,.i 0,.i (((gi d 0).rows.length:Nat):Int),.i (gi g1 0).int]) fun g2=>some [.l (gi g2 0).rows]))
def s_sl_SortFunc_Place:FSpec:=⟨86,[.s (.vec 0 3),.s (.fn 87)],[.vec KPlace 0],[.slot 0],[],[.vec KPlace 0],[.fix 0],[],F_sl_SortFunc_Place⟩
theorem b_sl_SortFunc_Place:BodyOK P t32 nL0 Tryz.f86 s_sl_SortFunc_Place:=fun d=>by kernel_rfl
theorem c_sl_SortFunc_Place:COK P s_sl_SortFunc_Place:=bdC hm t32_ok Tryz.func86 (nLk _ _ _) b_sl_SortFunc_Place
def t33:Tab:=t32.addW s_sl_SortFunc_Place
theorem t33_ok:TabOK P t33:=t32_ok.aW c_sl_SortFunc_Place

def tl_club_ranked_7 (d:List G):Option (Option Nat × List G) :=
 (bif (gi d 4).bool then (bif (inI ((gi d 1).int-1)) then (bif ((nnI ((gi d 1).int-1))&&(ltI ((gi d 1).int-1) (((gi d 0).rows.length:Nat):Int))) then (bif (decide ((0+((gi d 1).int-1).toNat)<(gi d 0).rows.length)) then (bif ((nnI (gi d 1).int)&&(ltI (gi d 1).int (((gi d 0).rows.length:Nat):Int))) then (bif (decide ((0+((gi d 1).int).toNat)<(gi d 0).rows.length)) then (bif ((Nat.beq (gi d 0).rows.length ((gi d 0).rows.set (0+((gi d 1).int).toNat) (putG KPlace ((gi d 0).rows.getD (0+((gi d 1).int).toNat) []) 0 [.i (gi ((gi d 0).rows.getD (0+((gi d 1).int-1).toNat) []) 0).int])).length)&&true) then some (some 0,[.l ((gi d 0).rows.set (0+((gi d 1).int).toNat) (putG KPlace ((gi d 0).rows.getD (0+((gi d 1).int).toNat) []) 0 [.i (gi ((gi d 0).rows.getD (0+((gi d 1).int-1).toNat) []) 0).int])),.i (gi d 2).int,.i (gi d 3).int]) else none) else none) else none) else none) else none) else none) else (bif ((Nat.beq (gi d 0).rows.length (gi d 0).rows.length)&&true) then some (some 0,[.l (gi d 0).rows,.i (gi d 2).int,.i (gi d 3).int]) else none))
def l_club_ranked_7c:LSpec:=⟨7,[],⟨45,[(0,.s (.vec 0 3)),(3,.s (.int .i64)),(7,.s (.int .i64)),(8,.s (.int .i64)),(32,.s (.bool))],[.vec KPlace 0]⟩,[.fix 0],[⟨.normal,⟨45,[(0,.s (.vec 0 3)),(7,.s (.int .i64)),(8,.s (.int .i64))],[.vec KPlace 0]⟩,[.fix 0]⟩],tl_club_ranked_7⟩
theorem r_club_ranked_7c:CutOK P t33 nL0 1 (cutAt Tryz.f44 7) l_club_ranked_7c:=fun d=>by kernel_rfl
def L_club_ranked_7c:LT:=nL0.addCut 1 l_club_ranked_7c
theorem L_club_ranked_7c_ok:LpK P 1 L_club_ranked_7c (bodyOf Tryz.f44):=LpK.aC hm t33_ok (nLk _ _ _) r_club_ranked_7c
def st_club_ranked_3 (d:List G):Option (Option Nat × List G) :=
 (bif (ltI (gi d 2).int (gi d 1).int) then (bif (inI ((gi d 2).int+1)) then (bif ((nnI (gi d 2).int)&&(ltI (gi d 2).int (((gi d 0).rows.length:Nat):Int))) then (bif (decide ((0+((gi d 2).int).toNat)<(gi d 0).rows.length)) then (bif (ltI 0 (gi d 2).int) then (bif ((nnI (gi d 2).int)&&(ltI (gi d 2).int (((gi d 0).rows.length:Nat):Int))) then (bif (decide ((0+((gi d 2).int).toNat)<((gi d 0).rows.set (0+((gi d 2).int).toNat) (putG KPlace ((gi d 0).rows.getD (0+((gi d 2).int).toNat) []) 0 [.i ((gi d 2).int+1)])).length)) then (bif (inI ((gi d 2).int-1)) then (bif ((nnI ((gi d 2).int-1))&&(ltI ((gi d 2).int-1) (((gi d 0).rows.length:Nat):Int))) then (bif (decide ((0+((gi d 2).int-1).toNat)<((gi d 0).rows.set (0+((gi d 2).int).toNat) (putG KPlace ((gi d 0).rows.getD (0+((gi d 2).int).toNat) []) 0 [.i ((gi d 2).int+1)])).length)) then (loopB ((Nat.beq (gi d 0).rows.length ((gi d 0).rows.set (0+((gi d 2).int).toNat) (putG KPlace ((gi d 0).rows.getD (0+((gi d 2).int).toNat) []) 0 [.i ((gi d 2).int+1)])).length)&&true) (cutR (tl_club_ranked_7 [.l ((gi d 0).rows.set (0+((gi d 2).int).toNat) (putG KPlace ((gi d 0).rows.getD (0+((gi d 2).int).toNat) []) 0 [.i ((gi d 2).int+1)])),.i (gi d 2).int,.i (gi d 1).int,.i (gi d 2).int,.t ((gi (((gi d 0).rows.set (0+((gi d 2).int).toNat) (putG KPlace ((gi d 0).rows.getD (0+((gi d 2).int).toNat) []) 0 [.i ((gi d 2).int+1)])).getD (0+((gi d 2).int).toNat) []) 1).int==(gi (((gi d 0).rows.set (0+((gi d 2).int).toNat) (putG KPlace ((gi d 0).rows.getD (0+((gi d 2).int).toNat) []) 0 [.i ((gi d 2).int+1)])).getD (0+((gi d 2).int-1).toNat) []) 1).int)])) fun cg2 g2=>(bif (inI ((gi g2 2).int+1)) then (bif ((Nat.beq (gi g2 0).rows.length (gi g2 0).rows.length)&&true) then some (none,[.l (gi g2 0).rows,.i (gi g2 1).int,.i ((gi g2 2).int+1)]) else none) else none)) else none) else none) else none) else none) else none) else (loopB ((Nat.beq (gi d 0).rows.length ((gi d 0).rows.set (0+((gi d 2).int).toNat) (putG KPlace ((gi d 0).rows.getD (0+((gi d 2).int).toNat) []) 0 [.i ((gi d 2).int+1)])).length)&&true) (cutR (tl_club_ranked_7 [.l ((gi d 0).rows.set (0+((gi d 2).int).toNat) (putG KPlace ((gi d 0).rows.getD (0+((gi d 2).int).toNat) []) 0 [.i ((gi d 2).int+1)])),.i (gi d 2).int,.i (gi d 1).int,.i (gi d 2).int,.t false])) fun cg3 g3=>(bif (inI ((gi g3 2).int+1)) then (bif ((Nat.beq (gi g3 0).rows.length (gi g3 0).rows.length)&&true) then some (none,[.l (gi g3 0).rows,.i (gi g3 1).int,.i ((gi g3 2).int+1)]) else none) else none))) else none) else none) else none) else (bif ((Nat.beq (gi d 0).rows.length (gi d 0).rows.length)&&true) then some (some 0,[.l (gi d 0).rows]) else none))
def l_club_ranked_3:LSpec:=⟨3,[],⟨45,[(0,.s (.vec 0 3)),(7,.s (.int .i64)),(8,.s (.int .i64))],[.vec KPlace 0]⟩,[.fix 0],[⟨.exit 0,⟨45,[(0,.s (.vec 0 3))],[.vec KPlace 0]⟩,[.fix 0]⟩],st_club_ranked_3⟩
theorem r_club_ranked_3:RoundOK P t33 L_club_ranked_7c 1 (loopAt Tryz.f44 3) l_club_ranked_3:=fun d=>by kernel_rfl
def L_club_ranked_3:LT:=L_club_ranked_7c.add 1 l_club_ranked_3
theorem L_club_ranked_3_ok:LpK P 1 L_club_ranked_3 (bodyOf Tryz.f44):=LpK.a hm t33_ok L_club_ranked_7c_ok r_club_ranked_3
def F_club_ranked (d:List G):Option (List G) :=
 (callB (((Nat.beq (gi d 0).rows.length (gi d 0).rows.length)&&true)&&(F_sl_SortFunc_Place [.l (gi d 0).rows]).isSome) (F_sl_SortFunc_Place [.l (gi d 0).rows]) fun g1=>(loopB ((Nat.beq (gi d 0).rows.length (gi g1 0).rows.length)&&true) (LRun st_club_ranked_3 [.l (gi g1 0).rows,.i (((gi d 0).rows.length:Nat):Int),.i 0]) fun cg4 g4=>(bif ((Nat.beq (gi g4 0).rows.length (gi g4 0).rows.length)&&true) then some [.l (gi g4 0).rows] else none)))
def s_club_ranked:FSpec:=⟨44,[.s (.vec 0 3)],[.vec KPlace 0],[.slot 0],[.s (.vec 0 3)],[.vec KPlace 0],[.fix 0],[],F_club_ranked⟩
theorem b_club_ranked:BodyOK P t33 L_club_ranked_3 Tryz.f44 s_club_ranked:=fun d=>by kernel_rfl
theorem c_club_ranked:COK P s_club_ranked:=bdC hm t33_ok Tryz.func44 L_club_ranked_3_ok b_club_ranked
def t34:Tab:=t33.addW s_club_ranked
theorem t34_ok:TabOK P t34:=t33_ok.aW c_club_ranked

def st_club_Table_8 (d:List G):Option (Option Nat × List G) :=
 (bif (ltI (gi d 4).int (gi d 3).int) then (bif ((nnI (gi d 4).int)&&(ltI (gi d 4).int (((gi d 2).rows.length:Nat):Int))) then (bif ((gi ((gi d 2).rows.getD (((gi d 4).int).toNat) []) 1).str.toList==(gi d 1).str.toList) then (bif ((Nat.beq (gi d 0).rows.length (gi d 0).rows.length)&&(decide (((gi d 0).rows.length+1)≤1048576))) then (bif (inI ((gi d 4).int+1)) then (bif ((Nat.beq ((gi d 0).rows++([[.i 0,.i (gi ((gi d 2).rows.getD (((gi d 4).int).toNat) []) 2).int,.s (gi ((gi d 2).rows.getD (((gi d 4).int).toNat) []) 0).str]]:List (List G))).length ((gi d 0).rows++([[.i 0,.i (gi ((gi d 2).rows.getD (((gi d 4).int).toNat) []) 2).int,.s (gi ((gi d 2).rows.getD (((gi d 4).int).toNat) []) 0).str]]:List (List G))).length)&&true) then some (none,[.l ((gi d 0).rows++([[.i 0,.i (gi ((gi d 2).rows.getD (((gi d 4).int).toNat) []) 2).int,.s (gi ((gi d 2).rows.getD (((gi d 4).int).toNat) []) 0).str]]:List (List G))),.s (gi d 1).str,.l (gi d 2).rows,.i (gi d 3).int,.i ((gi d 4).int+1)]) else none) else none) else none) else (bif (inI ((gi d 4).int+1)) then (bif ((Nat.beq (gi d 0).rows.length (gi d 0).rows.length)&&true) then some (none,[.l (gi d 0).rows,.s (gi d 1).str,.l (gi d 2).rows,.i (gi d 3).int,.i ((gi d 4).int+1)]) else none) else none)) else none) else (bif ((Nat.beq (gi d 0).rows.length (gi d 0).rows.length)&&true) then some (some 0,[.l (gi d 0).rows]) else none))
def l_club_Table_8:LSpec:=⟨8,[(7,KPlace)],⟨39,[(1,.s (.str)),(7,.s (.vec 0 3)),(18,.s (.list KMember)),(19,.s (.int .i64)),(20,.s (.int .i64))],[.vec KPlace 0]⟩,[.slot 7],[⟨.exit 0,⟨39,[(7,.s (.vec 0 3))],[.vec KPlace 0]⟩,[.slot 7]⟩],st_club_Table_8⟩
theorem r_club_Table_8:RoundOK P t34 nL0 0 (loopAt Tryz.f10 8) l_club_Table_8:=fun d=>by kernel_rfl
def L_club_Table_8:LT:=nL0.add 0 l_club_Table_8
theorem L_club_Table_8_ok:LpK P 0 L_club_Table_8 (bodyOf Tryz.f10):=LpK.a hm t34_ok (nLk _ _ _) r_club_Table_8
def F_club_Table (d:List G):Option (List G) :=
 (callF (F_club_CheckEntrants [.l (gi d 0).rows]) fun g1=>(bif ((gi g1 0).int != 0) then some [.l [],.i (gi g1 0).int] else (callF (F_kit_IsKey [.s (gi d 1).str]) fun g2=>(bif (!(gi g2 0).bool) then some [.l [],.i 5] else (loopB true (LRun st_club_Table_8 [.l [],.s (gi d 1).str,.l (gi d 0).rows,.i (((gi d 0).rows.length:Nat):Int),.i 0]) fun cg3 g3=>(callB (((Nat.beq (gi g3 0).rows.length (gi g3 0).rows.length)&&true)&&(F_club_ranked [.l (gi g3 0).rows]).isSome) (F_club_ranked [.l (gi g3 0).rows]) fun g4=>(bif ((Nat.beq (gi g4 0).rows.length (gi g4 0).rows.length)&&true) then some [.l (gi g4 0).rows,.i 0] else none)))))))
def s_club_Table:FSpec:=⟨10,[.s (.list KMember),.s (.str)],[],[],[.s (.list KPlace),.s (.int .i64)],[],[],[],F_club_Table⟩
theorem b_club_Table:BodyOK P t34 L_club_Table_8 Tryz.f10 s_club_Table:=fun d=>by kernel_rfl
theorem c_club_Table:COK P s_club_Table:=bdC hm t34_ok Tryz.func10 L_club_Table_8_ok b_club_Table
def t35:Tab:=t34.addP s_club_Table
theorem t35_ok:TabOK P t35:=t34_ok.aP c_club_Table

def st_club_squaresFault_4 (d:List G):Option (Option Nat × List G) :=
 (bif (ltI (gi d 3).int (gi d 2).int) then (bif ((nnI (gi d 3).int)&&(ltI (gi d 3).int (((gi d 1).rows.length:Nat):Int))) then (callF (F_club_isSquare [.s (gi ((gi d 1).rows.getD (((gi d 3).int).toNat) []) 0).str]) fun g1=>(bif (!(gi g1 0).bool) then some (some 0,[.i 3]) else (bif (ltI 0 (gi d 3).int) then (bif (inI ((gi d 3).int-1)) then (bif ((nnI ((gi d 3).int-1))&&(ltI ((gi d 3).int-1) (((gi d 0).rows.length:Nat):Int))) then (bif ((Op.bytesLess (gi ((gi d 1).rows.getD (((gi d 3).int).toNat) []) 0).str.toList (gi ((gi d 0).rows.getD (((gi d 3).int-1).toNat) []) 0).str.toList)||((gi ((gi d 1).rows.getD (((gi d 3).int).toNat) []) 0).str.toList==(gi ((gi d 0).rows.getD (((gi d 3).int-1).toNat) []) 0).str.toList)) then some (some 0,[.i 7]) else (bif (inI ((gi d 3).int+1)) then some (none,[.l (gi d 0).rows,.l (gi d 1).rows,.i (gi d 2).int,.i ((gi d 3).int+1)]) else none)) else none) else none) else (bif (inI ((gi d 3).int+1)) then some (none,[.l (gi d 0).rows,.l (gi d 1).rows,.i (gi d 2).int,.i ((gi d 3).int+1)]) else none)))) else none) else some (some 1,[]))
def l_club_squaresFault_4:LSpec:=⟨4,[],⟨30,[(0,.s (.list [.str])),(8,.s (.list [.str])),(9,.s (.int .i64)),(10,.s (.int .i64))],[]⟩,[],[⟨.ret,⟨30,[(2,.s (.int .i64))],[]⟩,[]⟩,⟨.exit 0,⟨30,[],[]⟩,[]⟩],st_club_squaresFault_4⟩
theorem r_club_squaresFault_4:RoundOK P t35 nL0 0 (loopAt Tryz.f134 4) l_club_squaresFault_4:=fun d=>by kernel_rfl
def L_club_squaresFault_4:LT:=nL0.add 0 l_club_squaresFault_4
theorem L_club_squaresFault_4_ok:LpK P 0 L_club_squaresFault_4 (bodyOf Tryz.f134):=LpK.a hm t35_ok (nLk _ _ _) r_club_squaresFault_4
def F_club_squaresFault (d:List G):Option (List G) :=
 (bif (ltI 100 (((gi d 0).rows.length:Nat):Int)) then some [.i 2] else (loopB true (LRun st_club_squaresFault_4 [.l (gi d 0).rows,.l (gi d 0).rows,.i (((gi d 0).rows.length:Nat):Int),.i 0]) fun cg2 g2=>(bif Nat.beq cg2 0 then some [.i (gi g2 0).int] else some [.i 0])))
def s_club_squaresFault:FSpec:=⟨134,[.s (.list [.str])],[],[],[.s (.int .i64)],[],[],[],F_club_squaresFault⟩
theorem b_club_squaresFault:BodyOK P t35 L_club_squaresFault_4 Tryz.f134 s_club_squaresFault:=fun d=>by kernel_rfl
theorem c_club_squaresFault:COK P s_club_squaresFault:=bdC hm t35_ok Tryz.func134 L_club_squaresFault_4_ok b_club_squaresFault
def t36:Tab:=t35.addP s_club_squaresFault
theorem t36_ok:TabOK P t36:=t35_ok.aP c_club_squaresFault

def st_club_CheckClubs_4 (d:List G):Option (Option Nat × List G) :=
 (bif (ltI (gi d 3).int (gi d 2).int) then (bif ((nnI (gi d 3).int)&&(ltI (gi d 3).int (((gi d 1).rows.length:Nat):Int))) then (callF (F_kit_IsKey [.s (gi ((gi d 1).rows.getD (((gi d 3).int).toNat) []) 0).str]) fun g1=>(bif (!(gi g1 0).bool) then some (some 0,[.i 5]) else (bif (ltI 0 (gi d 3).int) then (bif (inI ((gi d 3).int-1)) then (bif ((nnI ((gi d 3).int-1))&&(ltI ((gi d 3).int-1) (((gi d 0).rows.length:Nat):Int))) then (bif ((Op.bytesLess (gi ((gi d 1).rows.getD (((gi d 3).int).toNat) []) 0).str.toList (gi ((gi d 0).rows.getD (((gi d 3).int-1).toNat) []) 0).str.toList)||((gi ((gi d 1).rows.getD (((gi d 3).int).toNat) []) 0).str.toList==(gi ((gi d 0).rows.getD (((gi d 3).int-1).toNat) []) 0).str.toList)) then some (some 0,[.i 7]) else (callF (F_club_squaresFault [.l (gi ((gi d 1).rows.getD (((gi d 3).int).toNat) []) 1).rows]) fun g2=>(bif ((gi g2 0).int != 0) then some (some 0,[.i (gi g2 0).int]) else (bif (inI ((gi d 3).int+1)) then some (none,[.l (gi d 0).rows,.l (gi d 1).rows,.i (gi d 2).int,.i ((gi d 3).int+1)]) else none)))) else none) else none) else (callF (F_club_squaresFault [.l (gi ((gi d 1).rows.getD (((gi d 3).int).toNat) []) 1).rows]) fun g3=>(bif ((gi g3 0).int != 0) then some (some 0,[.i (gi g3 0).int]) else (bif (inI ((gi d 3).int+1)) then some (none,[.l (gi d 0).rows,.l (gi d 1).rows,.i (gi d 2).int,.i ((gi d 3).int+1)]) else none)))))) else none) else some (some 1,[]))
def l_club_CheckClubs_4:LSpec:=⟨4,[],⟨40,[(0,.s (.list [.str,.list [.str]])),(9,.s (.list [.str,.list [.str]])),(10,.s (.int .i64)),(11,.s (.int .i64))],[]⟩,[],[⟨.ret,⟨40,[(2,.s (.int .i64))],[]⟩,[]⟩,⟨.exit 0,⟨40,[],[]⟩,[]⟩],st_club_CheckClubs_4⟩
theorem r_club_CheckClubs_4:RoundOK P t36 nL0 0 (loopAt Tryz.f89 4) l_club_CheckClubs_4:=fun d=>by kernel_rfl
def L_club_CheckClubs_4:LT:=nL0.add 0 l_club_CheckClubs_4
theorem L_club_CheckClubs_4_ok:LpK P 0 L_club_CheckClubs_4 (bodyOf Tryz.f89):=LpK.a hm t36_ok (nLk _ _ _) r_club_CheckClubs_4
def F_club_CheckClubs (d:List G):Option (List G) :=
 (bif (ltI 200 (((gi d 0).rows.length:Nat):Int)) then some [.i 2] else (loopB true (LRun st_club_CheckClubs_4 [.l (gi d 0).rows,.l (gi d 0).rows,.i (((gi d 0).rows.length:Nat):Int),.i 0]) fun cg4 g4=>(bif Nat.beq cg4 0 then some [.i (gi g4 0).int] else some [.i 0])))
def s_club_CheckClubs:FSpec:=⟨89,[.s (.list [.str,.list [.str]])],[],[],[.s (.int .i64)],[],[],[],F_club_CheckClubs⟩
theorem b_club_CheckClubs:BodyOK P t36 L_club_CheckClubs_4 Tryz.f89 s_club_CheckClubs:=fun d=>by kernel_rfl
theorem c_club_CheckClubs:COK P s_club_CheckClubs:=bdC hm t36_ok Tryz.func89 L_club_CheckClubs_4_ok b_club_CheckClubs
def t37:Tab:=t36.addP s_club_CheckClubs
theorem t37_ok:TabOK P t37:=t36_ok.aP c_club_CheckClubs

def F_club_clubAt_1 (d:List G):Option (List G) :=
 (callF (F_strings_Compare [.s (gi (gi d 0).row 0).str,.s (gi d 1).str]) fun g1=>some [.i (gi g1 0).int])
def s_club_clubAt_1:FSpec:=⟨197,[.s (.row [.str,.list [.str]]),.s (.str)],[],[],[.s (.int .i64)],[],[],[],F_club_clubAt_1⟩
theorem b_club_clubAt_1:BodyOK P t37 nL0 Tryz.f197 s_club_clubAt_1:=fun d=>by kernel_rfl
theorem c_club_clubAt_1:COK P s_club_clubAt_1:=bdC hm t37_ok Tryz.func197 (nLk _ _ _) b_club_clubAt_1
def t38:Tab:=t37.addP s_club_clubAt_1
theorem t38_ok:TabOK P t38:=t37_ok.aP c_club_clubAt_1

def st_sl_BinarySearchFunc_string_3 (d:List G):Option (Option Nat × List G) :=
 (bif (ltI (gi d 3).int (gi d 4).int) then (bif (inI ((gi d 3).int+(gi d 4).int)) then (bif (inI (shrI .u64 (IntKind.u64.wrap ((gi d 3).int+(gi d 4).int)) 1)) then (bif ((nnI (shrI .u64 (IntKind.u64.wrap ((gi d 3).int+(gi d 4).int)) 1))&&(ltI (shrI .u64 (IntKind.u64.wrap ((gi d 3).int+(gi d 4).int)) 1) (((gi d 0).rows.length:Nat):Int))) then (callF (F_club_clubAt_1 [.l [(gEta [.str,.list [.str]] ((gi d 0).rows.getD ((shrI .u64 (IntKind.u64.wrap ((gi d 3).int+(gi d 4).int)) 1).toNat) []))],.s (gi d 1).str]) fun g1=>(bif (ltI (gi g1 0).int 0) then (bif (inI ((shrI .u64 (IntKind.u64.wrap ((gi d 3).int+(gi d 4).int)) 1)+1)) then some (none,[.l (gi d 0).rows,.s (gi d 1).str,.i (gi d 2).int,.i ((shrI .u64 (IntKind.u64.wrap ((gi d 3).int+(gi d 4).int)) 1)+1),.i (gi d 4).int]) else none) else some (none,[.l (gi d 0).rows,.s (gi d 1).str,.i (gi d 2).int,.i (gi d 3).int,.i (shrI .u64 (IntKind.u64.wrap ((gi d 3).int+(gi d 4).int)) 1)]))) else none) else none) else none) else some (some 0,[.l (gi d 0).rows,.s (gi d 1).str,.i (gi d 2).int,.i (gi d 3).int]))
def l_sl_BinarySearchFunc_string_3:LSpec:=⟨3,[],⟨49,[(0,.s (.list [.str,.list [.str]])),(1,.s (.str)),(2,.s (.fn 197)),(8,.s (.int .i64)),(9,.s (.int .i64)),(10,.s (.int .i64))],[]⟩,[],[⟨.exit 0,⟨49,[(0,.s (.list [.str,.list [.str]])),(1,.s (.str)),(2,.s (.fn 197)),(8,.s (.int .i64)),(9,.s (.int .i64))],[]⟩,[]⟩],st_sl_BinarySearchFunc_string_3⟩
theorem r_sl_BinarySearchFunc_string_3:RoundOK P t38 nL0 0 (loopAt Tryz.f196 3) l_sl_BinarySearchFunc_string_3:=fun d=>by kernel_rfl
def L_sl_BinarySearchFunc_string_3:LT:=nL0.add 0 l_sl_BinarySearchFunc_string_3
theorem L_sl_BinarySearchFunc_string_3_ok:LpK P 0 L_sl_BinarySearchFunc_string_3 (bodyOf Tryz.f196):=LpK.a hm t38_ok (nLk _ _ _) r_sl_BinarySearchFunc_string_3
def F_sl_BinarySearchFunc_string (d:List G):Option (List G) :=
 (loopB true (LRun st_sl_BinarySearchFunc_string_3 [.l (gi d 0).rows,.s (gi d 1).str,.i (((gi d 0).rows.length:Nat):Int),.i 0,.i (((gi d 0).rows.length:Nat):Int)]) fun cg2 g2=>(bif (ltI (gi g2 3).int (gi g2 2).int) then (bif ((nnI (gi g2 3).int)&&(ltI (gi g2 3).int (((gi g2 0).rows.length:Nat):Int))) then (callF (F_club_clubAt_1 [.l [(gEta [.str,.list [.str]] ((gi g2 0).rows.getD (((gi g2 3).int).toNat) []))],.s (gi g2 1).str]) fun g3=>some [.i (gi g2 3).int,.t ((gi g3 0).int==0)]) else none) else some [.i (gi g2 3).int,.t false]))
def s_sl_BinarySearchFunc_string:FSpec:=⟨196,[.s (.list [.str,.list [.str]]),.s (.str),.s (.fn 197)],[],[],[.s (.int .i64),.s (.bool)],[],[],[],F_sl_BinarySearchFunc_string⟩
theorem b_sl_BinarySearchFunc_string:BodyOK P t38 L_sl_BinarySearchFunc_string_3 Tryz.f196 s_sl_BinarySearchFunc_string:=fun d=>by kernel_rfl
theorem c_sl_BinarySearchFunc_string:COK P s_sl_BinarySearchFunc_string:=bdC hm t38_ok Tryz.func196 L_sl_BinarySearchFunc_string_3_ok b_sl_BinarySearchFunc_string
def t39:Tab:=t38.addP s_sl_BinarySearchFunc_string
theorem t39_ok:TabOK P t39:=t38_ok.aP c_sl_BinarySearchFunc_string

def F_club_clubAt (d:List G):Option (List G) :=
 (callF (F_sl_BinarySearchFunc_string [.l (gi d 0).rows,.s (gi d 1).str]) fun g1=>some [.i (gi g1 0).int,.t (gi g1 1).bool])
def s_club_clubAt:FSpec:=⟨135,[.s (.list [.str,.list [.str]]),.s (.str)],[],[],[.s (.int .i64),.s (.bool)],[],[],[],F_club_clubAt⟩
theorem b_club_clubAt:BodyOK P t39 nL0 Tryz.f135 s_club_clubAt:=fun d=>by kernel_rfl
theorem c_club_clubAt:COK P s_club_clubAt:=bdC hm t39_ok Tryz.func135 (nLk _ _ _) b_club_clubAt
def t40:Tab:=t39.addP s_club_clubAt
theorem t40_ok:TabOK P t40:=t39_ok.aP c_club_clubAt

def F_club_isDay (d:List G):Option (List G) :=
 (callF (F_kit_Outside [.i (gi d 0).int,.i 0,.i 4000]) fun g1=>some [.t (!(gi g1 0).bool)])
def s_club_isDay:FSpec:=⟨46,[.s (.int .i64)],[],[],[.s (.bool)],[],[],[],F_club_isDay⟩
theorem b_club_isDay:BodyOK P t40 nL0 Tryz.f46 s_club_isDay:=fun d=>by kernel_rfl
theorem c_club_isDay:COK P s_club_isDay:=bdC hm t40_ok Tryz.func46 (nLk _ _ _) b_club_isDay
def t41:Tab:=t40.addP s_club_isDay
theorem t41_ok:TabOK P t41:=t40_ok.aP c_club_isDay

def F_club_memberFault (d:List G):Option (List G) :=
 (bif ((nnI (gi d 2).int)&&(ltI (gi d 2).int (((gi d 1).rows.length:Nat):Int))) then (callF (F_call_Parts [.s (gi ((gi d 1).rows.getD (((gi d 2).int).toNat) []) 0).str]) fun g1=>(bif (!(gi g1 1).bool) then some [.i 3] else (bif (!((gi (gi g1 0).row 0).str.toList==(gi ((gi d 1).rows.getD (((gi d 2).int).toNat) []) 0).str.toList)) then some [.i 3] else (callF (F_club_clubAt [.l (gi d 0).rows,.s (gi ((gi d 1).rows.getD (((gi d 2).int).toNat) []) 1).str]) fun g2=>(bif (!((gi ((gi d 1).rows.getD (((gi d 2).int).toNat) []) 1).str.toList==(⟨#[]⟩:ByteArray).toList)) then (bif (!(gi g2 1).bool) then some [.i 8] else (callF (F_club_isDay [.i (gi ((gi d 1).rows.getD (((gi d 2).int).toNat) []) 2).int]) fun g3=>(bif (!(gi g3 0).bool) then some [.i 1] else (callF (F_club_isLocator [.s (gi ((gi d 1).rows.getD (((gi d 2).int).toNat) []) 3).str]) fun g4=>(bif (!(gi g4 0).bool) then some [.i 3] else (bif (ltI 0 (gi d 2).int) then (bif (inI ((gi d 2).int-1)) then (bif ((nnI ((gi d 2).int-1))&&(ltI ((gi d 2).int-1) (((gi d 1).rows.length:Nat):Int))) then (callF (F_strings_Compare [.s (gi ((gi d 1).rows.getD (((gi d 2).int-1).toNat) []) 0).str,.s (gi ((gi d 1).rows.getD (((gi d 2).int).toNat) []) 0).str]) fun g5=>(bif (inI ((gi d 2).int-1)) then (bif ((nnI ((gi d 2).int-1))&&(ltI ((gi d 2).int-1) (((gi d 1).rows.length:Nat):Int))) then (callF (F_cmp_Compare_int [.i (gi ((gi d 1).rows.getD (((gi d 2).int-1).toNat) []) 2).int,.i (gi ((gi d 1).rows.getD (((gi d 2).int).toNat) []) 2).int]) fun g6=>(callF (F_cmp_Or_int [.l [[.i (gi g5 0).int],[.i (gi g6 0).int]]]) fun g7=>(bif (leI 0 (gi g7 0).int) then some [.i 7] else some [.i 0]))) else none) else none)) else none) else none) else some [.i 0])))))) else (callF (F_club_isDay [.i (gi ((gi d 1).rows.getD (((gi d 2).int).toNat) []) 2).int]) fun g8=>(bif (!(gi g8 0).bool) then some [.i 1] else (callF (F_club_isLocator [.s (gi ((gi d 1).rows.getD (((gi d 2).int).toNat) []) 3).str]) fun g9=>(bif (!(gi g9 0).bool) then some [.i 3] else (bif (ltI 0 (gi d 2).int) then (bif (inI ((gi d 2).int-1)) then (bif ((nnI ((gi d 2).int-1))&&(ltI ((gi d 2).int-1) (((gi d 1).rows.length:Nat):Int))) then (callF (F_strings_Compare [.s (gi ((gi d 1).rows.getD (((gi d 2).int-1).toNat) []) 0).str,.s (gi ((gi d 1).rows.getD (((gi d 2).int).toNat) []) 0).str]) fun g10=>(bif (inI ((gi d 2).int-1)) then (bif ((nnI ((gi d 2).int-1))&&(ltI ((gi d 2).int-1) (((gi d 1).rows.length:Nat):Int))) then (callF (F_cmp_Compare_int [.i (gi ((gi d 1).rows.getD (((gi d 2).int-1).toNat) []) 2).int,.i (gi ((gi d 1).rows.getD (((gi d 2).int).toNat) []) 2).int]) fun g11=>(callF (F_cmp_Or_int [.l [[.i (gi g10 0).int],[.i (gi g11 0).int]]]) fun g12=>(bif (leI 0 (gi g12 0).int) then some [.i 7] else some [.i 0]))) else none) else none)) else none) else none) else some [.i 0])))))))))) else none)
def s_club_memberFault:FSpec:=⟨90,[.s (.list [.str,.list [.str]]),.s (.list KMember),.s (.int .i64)],[],[],[.s (.int .i64)],[],[],[],F_club_memberFault⟩
theorem b_club_memberFault:BodyOK P t41 nL0 Tryz.f90 s_club_memberFault:=fun d=>by kernel_rfl
theorem c_club_memberFault:COK P s_club_memberFault:=bdC hm t41_ok Tryz.func90 (nLk _ _ _) b_club_memberFault
def t42:Tab:=t41.addP s_club_memberFault
theorem t42_ok:TabOK P t42:=t41_ok.aP c_club_memberFault

def st_club_CheckMembers_7 (d:List G):Option (Option Nat × List G) :=
 (bif (ltI (gi d 3).int (gi d 2).int) then (callF (F_club_memberFault [.l (gi d 0).rows,.l (gi d 1).rows,.i (gi d 3).int]) fun g2=>(bif ((gi g2 0).int != 0) then some (some 0,[.i (gi g2 0).int]) else (bif (inI ((gi d 3).int+1)) then some (none,[.l (gi d 0).rows,.l (gi d 1).rows,.i (gi d 2).int,.i ((gi d 3).int+1)]) else none))) else some (some 1,[]))
def l_club_CheckMembers_7:LSpec:=⟨7,[],⟨29,[(0,.s (.list [.str,.list [.str]])),(1,.s (.list KMember)),(17,.s (.int .i64)),(18,.s (.int .i64))],[]⟩,[],[⟨.ret,⟨29,[(4,.s (.int .i64))],[]⟩,[]⟩,⟨.exit 0,⟨29,[],[]⟩,[]⟩],st_club_CheckMembers_7⟩
theorem r_club_CheckMembers_7:RoundOK P t42 nL0 0 (loopAt Tryz.f45 7) l_club_CheckMembers_7:=fun d=>by kernel_rfl
def L_club_CheckMembers_7:LT:=nL0.add 0 l_club_CheckMembers_7
theorem L_club_CheckMembers_7_ok:LpK P 0 L_club_CheckMembers_7 (bodyOf Tryz.f45):=LpK.a hm t42_ok (nLk _ _ _) r_club_CheckMembers_7
def F_club_CheckMembers (d:List G):Option (List G) :=
 (callF (F_club_CheckClubs [.l (gi d 0).rows]) fun g1=>(bif ((gi g1 0).int != 0) then some [.i (gi g1 0).int] else (bif (ltI 1000 (((gi d 1).rows.length:Nat):Int)) then some [.i 2] else (loopB true (LRun st_club_CheckMembers_7 [.l (gi d 0).rows,.l (gi d 1).rows,.i (((gi d 1).rows.length:Nat):Int),.i 0]) fun cg3 g3=>(bif Nat.beq cg3 0 then some [.i (gi g3 0).int] else some [.i 0])))))
def s_club_CheckMembers:FSpec:=⟨45,[.s (.list [.str,.list [.str]]),.s (.list KMember)],[],[],[.s (.int .i64)],[],[],[],F_club_CheckMembers⟩
theorem b_club_CheckMembers:BodyOK P t42 L_club_CheckMembers_7 Tryz.f45 s_club_CheckMembers:=fun d=>by kernel_rfl
theorem c_club_CheckMembers:COK P s_club_CheckMembers:=bdC hm t42_ok Tryz.func45 L_club_CheckMembers_7_ok b_club_CheckMembers
def t43:Tab:=t42.addP s_club_CheckMembers
theorem t43_ok:TabOK P t43:=t42_ok.aP c_club_CheckMembers

def st_club_last_f_3 (d:List G):Option (Option Nat × List G) :=
 (bif (ltI (gi d 5).int (gi d 4).int) then (bif ((nnI (gi d 5).int)&&(ltI (gi d 5).int (((gi d 3).rows.length:Nat):Int))) then (bif (leI (gi ((gi d 3).rows.getD (((gi d 5).int).toNat) []) 2).int (gi d 2).int) then (bif (inI ((gi d 5).int+1)) then some (none,[.l (mput [.str] (gi d 0).rows [.s (gi ((gi d 3).rows.getD (((gi d 5).int).toNat) []) 0).str] (gEta KMember ((gi d 3).rows.getD (((gi d 5).int).toNat) [])) (gi d 1).int.toNat),.i (((mclk [.str] (gi d 0).rows [.s (gi ((gi d 3).rows.getD (((gi d 5).int).toNat) []) 0).str] (gi d 1).int.toNat):Nat):Int),.i (gi d 2).int,.l (gi d 3).rows,.i (gi d 4).int,.i ((gi d 5).int+1)]) else none) else (bif (inI ((gi d 5).int+1)) then some (none,[.l (gi d 0).rows,.i (((gi d 1).int.toNat:Nat):Int),.i (gi d 2).int,.l (gi d 3).rows,.i (gi d 4).int,.i ((gi d 5).int+1)]) else none)) else none) else some (some 0,[.l (gi d 0).rows,.i (((gi d 1).int.toNat:Nat):Int)]))
def l_club_last_f_3:LSpec:=⟨3,[],⟨25,[(1,.s (.int .i64)),(5,.s (.map 0)),(9,.s (.list KMember)),(10,.s (.int .i64)),(11,.s (.int .i64))],[.map (.one (.str)) (.agg KMember)]⟩,[.slot 5],[⟨.exit 0,⟨25,[(5,.s (.map 0))],[.map (.one (.str)) (.agg KMember)]⟩,[.slot 5]⟩],st_club_last_f_3⟩
theorem r_club_last_f_3:RoundOK P t43 nL0 0 (loopAt Tryz.f48 3) l_club_last_f_3:=fun d=>by kernel_rfl
def L_club_last_f_3:LT:=nL0.add 0 l_club_last_f_3
theorem L_club_last_f_3_ok:LpK P 0 L_club_last_f_3 (bodyOf Tryz.f48):=LpK.a hm t43_ok (nLk _ _ _) r_club_last_f_3
def F_club_last_f (d:List G):Option (List G) :=
 (loopB true (LRun st_club_last_f_3 [.l [],.i 0,.i (gi d 1).int,.l (gi d 0).rows,.i (((gi d 0).rows.length:Nat):Int),.i 0]) fun cg1 g1=>some [.l (gi g1 0).rows,.i (((gi g1 1).int.toNat:Nat):Int)])
def s_club_last_f:FSpec:=⟨48,[.s (.list KMember),.s (.int .i64)],[],[],[.s (.map 0)],[.map (.one (.str)) (.agg KMember)],[.slot 0],[],F_club_last_f⟩
theorem b_club_last_f:BodyOK P t43 L_club_last_f_3 Tryz.f48 s_club_last_f:=fun d=>by kernel_rfl
theorem c_club_last_f:COK P s_club_last_f:=bdC hm t43_ok Tryz.func48 L_club_last_f_3_ok b_club_last_f
def t44:Tab:=t43.addW s_club_last_f
theorem t44_ok:TabOK P t44:=t43_ok.aW c_club_last_f

def F_call_BaseOf (d:List G):Option (List G) :=
 (callF (F_call_Parts [.s (gi d 0).str]) fun g1=>some [.s (gi (gi g1 0).row 0).str])
def s_call_BaseOf:FSpec:=⟨50,[.s (.str)],[],[],[.s (.str)],[],[],[],F_call_BaseOf⟩
theorem b_call_BaseOf:BodyOK P t44 nL0 Tryz.f50 s_call_BaseOf:=fun d=>by kernel_rfl
theorem c_call_BaseOf:COK P s_call_BaseOf:=bdC hm t44_ok Tryz.func50 (nLk _ _ _) b_call_BaseOf
def t45:Tab:=t44.addP s_call_BaseOf
theorem t45_ok:TabOK P t45:=t44_ok.aP c_call_BaseOf

def F_stringslite_HasPrefix (d:List G):Option (List G) :=
 (bif (leI (((gi d 1).str.size:Nat):Int) (((gi d 0).str.size:Nat):Int)) then (bif ((nnI (((gi d 1).str.size:Nat):Int))&&(leI (((gi d 1).str.size:Nat):Int) (((gi d 0).str.size:Nat):Int))) then some [.t (((gi d 0).str.extract 0 (gi d 1).str.size).toList==(gi d 1).str.toList)] else none) else some [.t false])
def s_stringslite_HasPrefix:FSpec:=⟨199,[.s (.str),.s (.str)],[],[],[.s (.bool)],[],[],[],F_stringslite_HasPrefix⟩
theorem b_stringslite_HasPrefix:BodyOK P t45 nL0 Tryz.f199 s_stringslite_HasPrefix:=fun d=>by kernel_rfl
theorem c_stringslite_HasPrefix:COK P s_stringslite_HasPrefix:=bdC hm t45_ok Tryz.func199 (nLk _ _ _) b_stringslite_HasPrefix
def t46:Tab:=t45.addP s_stringslite_HasPrefix
theorem t46_ok:TabOK P t46:=t45_ok.aP c_stringslite_HasPrefix

def F_strings_HasPrefix (d:List G):Option (List G) :=
 (callF (F_stringslite_HasPrefix [.s (gi d 0).str,.s (gi d 1).str]) fun g1=>some [.t (gi g1 0).bool])
def s_strings_HasPrefix:FSpec:=⟨138,[.s (.str),.s (.str)],[],[],[.s (.bool)],[],[],[],F_strings_HasPrefix⟩
theorem b_strings_HasPrefix:BodyOK P t46 nL0 Tryz.f138 s_strings_HasPrefix:=fun d=>by kernel_rfl
theorem c_strings_HasPrefix:COK P s_strings_HasPrefix:=bdC hm t46_ok Tryz.func138 (nLk _ _ _) b_strings_HasPrefix
def t47:Tab:=t46.addP s_strings_HasPrefix
theorem t47_ok:TabOK P t47:=t46_ok.aP c_strings_HasPrefix

def F_club_isInside_1 (d:List G):Option (List G) :=
 (callF (F_strings_HasPrefix [.s (gi (gi d 1).row 3).str,.s (gi d 0).str]) fun g1=>some [.t (gi g1 0).bool])
def s_club_isInside_1:FSpec:=⟨137,[.s (.str),.s (.cptr KMember)],[],[],[.s (.bool)],[],[],[],F_club_isInside_1⟩
theorem b_club_isInside_1:BodyOK P t47 nL0 Tryz.f137 s_club_isInside_1:=fun d=>by kernel_rfl
theorem c_club_isInside_1:COK P s_club_isInside_1:=bdC hm t47_ok Tryz.func137 (nLk _ _ _) b_club_isInside_1
def t48:Tab:=t47.addP s_club_isInside_1
theorem t48_ok:TabOK P t48:=t47_ok.aP c_club_isInside_1

def st_sl_IndexFunc_string_2 (d:List G):Option (Option Nat × List G) :=
 (bif (ltI (gi d 3).int (gi d 2).int) then (bif ((nnI (gi d 3).int)&&(ltI (gi d 3).int (((gi d 0).rows.length:Nat):Int))) then (callF (F_club_isInside_1 [.s (gi ((gi d 0).rows.getD (((gi d 3).int).toNat) []) 0).str,.l [(gEta KMember (gi d 1).row)]]) fun g1=>(bif (gi g1 0).bool then some (some 0,[.i (gi d 3).int]) else (bif (inI ((gi d 3).int+1)) then some (none,[.l (gi d 0).rows,.l [(gEta KMember (gi d 1).row)],.i (gi d 2).int,.i ((gi d 3).int+1)]) else none))) else none) else some (some 1,[]))
def l_sl_IndexFunc_string_2:LSpec:=⟨2,[],⟨19,[(0,.s (.list [.str])),(1,.clo 137 [.cptr KMember]),(7,.s (.int .i64)),(8,.s (.int .i64))],[]⟩,[],[⟨.ret,⟨19,[(4,.s (.int .i64))],[]⟩,[]⟩,⟨.exit 0,⟨19,[],[]⟩,[]⟩],st_sl_IndexFunc_string_2⟩
theorem r_sl_IndexFunc_string_2:RoundOK P t48 nL0 0 (loopAt Tryz.f198 2) l_sl_IndexFunc_string_2:=fun d=>by kernel_rfl
def L_sl_IndexFunc_string_2:LT:=nL0.add 0 l_sl_IndexFunc_string_2
theorem L_sl_IndexFunc_string_2_ok:LpK P 0 L_sl_IndexFunc_string_2 (bodyOf Tryz.f198):=LpK.a hm t48_ok (nLk _ _ _) r_sl_IndexFunc_string_2
def F_sl_IndexFunc_string (d:List G):Option (List G) :=
 (loopB true (LRun st_sl_IndexFunc_string_2 [.l (gi d 0).rows,.l [(gEta KMember (gi d 1).row)],.i (((gi d 0).rows.length:Nat):Int),.i 0]) fun cg2 g2=>(bif Nat.beq cg2 0 then some [.i (gi g2 0).int] else some [.i (-1)]))
def s_sl_IndexFunc_string:FSpec:=⟨198,[.s (.list [.str]),.clo 137 [.cptr KMember]],[],[],[.s (.int .i64)],[],[],[],F_sl_IndexFunc_string⟩
theorem b_sl_IndexFunc_string:BodyOK P t48 L_sl_IndexFunc_string_2 Tryz.f198 s_sl_IndexFunc_string:=fun d=>by kernel_rfl
theorem c_sl_IndexFunc_string:COK P s_sl_IndexFunc_string:=bdC hm t48_ok Tryz.func198 L_sl_IndexFunc_string_2_ok b_sl_IndexFunc_string
def t49:Tab:=t48.addP s_sl_IndexFunc_string
theorem t49_ok:TabOK P t49:=t48_ok.aP c_sl_IndexFunc_string

def F_sl_ContainsFunc_string (d:List G):Option (List G) :=
 (callF (F_sl_IndexFunc_string [.l (gi d 0).rows,.l [(gEta KMember (gi d 1).row)]]) fun g1=>some [.t (leI 0 (gi g1 0).int)])
def s_sl_ContainsFunc_string:FSpec:=⟨136,[.s (.list [.str]),.clo 137 [.cptr KMember]],[],[],[.s (.bool)],[],[],[],F_sl_ContainsFunc_string⟩
theorem b_sl_ContainsFunc_string:BodyOK P t49 nL0 Tryz.f136 s_sl_ContainsFunc_string:=fun d=>by kernel_rfl
theorem c_sl_ContainsFunc_string:COK P s_sl_ContainsFunc_string:=bdC hm t49_ok Tryz.func136 (nLk _ _ _) b_sl_ContainsFunc_string
def t50:Tab:=t49.addP s_sl_ContainsFunc_string
theorem t50_ok:TabOK P t50:=t49_ok.aP c_sl_ContainsFunc_string

end
end Go.Proofs.SYtelglbbhbgjagaaGreatDoor
