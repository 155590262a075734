/-
 What is proved here: functions of the program as functions on data. No condition.
-/
import Derived.Test.YtbnjbajipjjbgaaGreatDoorML1
set_option linter.all false
namespace Go.Proofs.SYtbnjbajipjjbgaaGreatDoor
open Go Go.AL Go.Proofs
noncomputable section
def st_sl_Reverse_int_1 (d:List G):Option (Option Nat × List G) :=
 (bif (ltI (gi d 1).int (gi d 2).int) then (bif ((nnI (gi d 2).int)&&(ltI (gi d 2).int (((gi d 0).rows.length:Nat):Int))) then (bif (decide ((0+((gi d 2).int).toNat)<(gi d 0).rows.length)) then (bif ((nnI (gi d 1).int)&&(ltI (gi d 1).int (((gi d 0).rows.length:Nat):Int))) then (bif (decide ((0+((gi d 1).int).toNat)<(gi d 0).rows.length)) then (bif ((nnI (gi d 1).int)&&(ltI (gi d 1).int (((gi d 0).rows.length:Nat):Int))) then (bif (decide ((0+((gi d 1).int).toNat)<(gi d 0).rows.length)) then (bif ((nnI (gi d 2).int)&&(ltI (gi d 2).int (((gi d 0).rows.length:Nat):Int))) then (bif (decide ((0+((gi d 2).int).toNat)<((gi d 0).rows.set (0+((gi d 1).int).toNat) (putG [.int .i64] ((gi d 0).rows.getD (0+((gi d 1).int).toNat) []) 0 [.i (gi ((gi d 0).rows.getD (0+((gi d 2).int).toNat) []) 0).int])).length)) then (bif (inI ((gi d 1).int+1)) then (bif (inI ((gi d 2).int-1)) then (bif ((Nat.beq (gi d 0).rows.length (((gi d 0).rows.set (0+((gi d 1).int).toNat) (putG [.int .i64] ((gi d 0).rows.getD (0+((gi d 1).int).toNat) []) 0 [.i (gi ((gi d 0).rows.getD (0+((gi d 2).int).toNat) []) 0).int])).set (0+((gi d 2).int).toNat) (putG [.int .i64] (((gi d 0).rows.set (0+((gi d 1).int).toNat) (putG [.int .i64] ((gi d 0).rows.getD (0+((gi d 1).int).toNat) []) 0 [.i (gi ((gi d 0).rows.getD (0+((gi d 2).int).toNat) []) 0).int])).getD (0+((gi d 2).int).toNat) []) 0 [.i (gi ((gi d 0).rows.getD (0+((gi d 1).int).toNat) []) 0).int])).length)&&true) then some (none,[.l (((gi d 0).rows.set (0+((gi d 1).int).toNat) (putG [.int .i64] ((gi d 0).rows.getD (0+((gi d 1).int).toNat) []) 0 [.i (gi ((gi d 0).rows.getD (0+((gi d 2).int).toNat) []) 0).int])).set (0+((gi d 2).int).toNat) (putG [.int .i64] (((gi d 0).rows.set (0+((gi d 1).int).toNat) (putG [.int .i64] ((gi d 0).rows.getD (0+((gi d 1).int).toNat) []) 0 [.i (gi ((gi d 0).rows.getD (0+((gi d 2).int).toNat) []) 0).int])).getD (0+((gi d 2).int).toNat) []) 0 [.i (gi ((gi d 0).rows.getD (0+((gi d 1).int).toNat) []) 0).int])),.i ((gi d 1).int+1),.i ((gi d 2).int-1)]) else none) else none) else none) else none) else none) else none) else none) else none) else none) else none) else none) else some (some 0,[.l (gi d 0).rows]))
def l_sl_Reverse_int_1:LSpec:=⟨1,[],⟨28,[(0,.s (.vec 0 1)),(2,.s (.int .i64)),(3,.s (.int .i64))],[.vec [.int .i64] 0]⟩,[.fix 0],[⟨.exit 0,⟨28,[],[.vec [.int .i64] 0]⟩,[.fix 0]⟩],st_sl_Reverse_int_1⟩
theorem r_sl_Reverse_int_1:RoundOK P t5 nL0 1 (loopAt Tryz.f170 1) l_sl_Reverse_int_1:=fun d=>by kernel_rfl
def L_sl_Reverse_int_1:LT:=nL0.add 1 l_sl_Reverse_int_1
theorem L_sl_Reverse_int_1_ok:LpK P 1 L_sl_Reverse_int_1 (bodyOf Tryz.f170):=LpK.a hm t5_ok (nLk _ _ _) r_sl_Reverse_int_1
def F_sl_Reverse_int (d:List G):Option (List G) :=
 (bif (inI ((((gi d 0).rows.length:Nat):Int)-1)) then (loopB ((Nat.beq (gi d 0).rows.length (gi d 0).rows.length)&&true) (LRun st_sl_Reverse_int_1 [.l (gi d 0).rows,.i 0,.i ((((gi d 0).rows.length:Nat):Int)-1)]) fun cg1 g1=>some [.l (gi g1 0).rows]) else none)
def s_sl_Reverse_int:FSpec:=⟨170,[.s (.vec 0 1)],[.vec [.int .i64] 0],[.slot 0],[],[.vec [.int .i64] 0],[.fix 0],[],F_sl_Reverse_int⟩
theorem b_sl_Reverse_int:BodyOK P t5 L_sl_Reverse_int_1 Tryz.f170 s_sl_Reverse_int:=fun d=>by kernel_rfl
theorem c_sl_Reverse_int:COK P s_sl_Reverse_int:=bdC hm t5_ok Tryz.func170 L_sl_Reverse_int_1_ok b_sl_Reverse_int
def t6:Tab:=t5.addW s_sl_Reverse_int
theorem t6_ok:TabOK P t6:=t5_ok.aW c_sl_Reverse_int

def sr_net_state_holders_2 (r d:List G):Option (List G) :=
 (bif (inI ((gi (mget [.int .i64] (gi d 6).rows [.i (gi (gi r 0).row 1).int] [.i 0]) 0).int+1)) then (bif ((((Nat.beq (gi d 3).rows.length (gi d 3).rows.length)&&true)&&true)&&true) then some [.l (gi d 0).rows,.l (gi d 1).rows,.l (gi d 2).rows,.l (gi d 3).rows,.l (gi d 4).rows,.i (((gi d 5).int.toNat:Nat):Int),.l (mput [.int .i64] (gi d 6).rows [.i (gi (gi r 0).row 1).int] [.i ((gi (mget [.int .i64] (gi d 6).rows [.i (gi (gi r 0).row 1).int] [.i 0]) 0).int+1)] (gi d 7).int.toNat),.i (((mclk [.int .i64] (gi d 6).rows [.i (gi (gi r 0).row 1).int] (gi d 7).int.toNat):Nat):Int),.i (((gi d 8).int.toNat:Nat):Int)] else none) else none)
def ri_net_state_holders_2 (d:List G) (b:Nat):List G:=[.l (gi d 0).rows,.l (gi d 1).rows,.l (gi d 2).rows,.l (gi d 3).rows,.l (gi d 4).rows,.i (((gi d 5).int.toNat:Nat):Int),.l (gi d 6).rows,.i (((gi d 7).int.toNat:Nat):Int),.i (b:Int)]
def rb_net_state_holders_2 (d:List G) (b:Nat):Bool:=((((Nat.beq (gi d 3).rows.length (gi d 3).rows.length)&&true)&&true)&&true)
def rs_net_state_holders_2:RSpec:=⟨⟨21,[(3,.s (.map 3)),(10,.s (.addr))],[.box [.vec 1 15,.list KCt,.list [.str],.list [.int .i64],.map 2],.vec KDeed 0,.map (.agg [.str,.int .i64]) (.one (.bool)),.map (.one (.int .i64)) (.one (.int .i64))]⟩,[.fix 0,.cell 0 0,.cell 0 4,.slot 3],[],(.agg [.str,.int .i64]),(.one (.bool)),2,0,9,10,11,12,13,fun d=>(gi d 8).int.toNat,ri_net_state_holders_2,rb_net_state_holders_2,sr_net_state_holders_2⟩
theorem w_net_state_holders_2:RRound P t6 nL0 3 rs_net_state_holders_2 (rOps2 (cutAt Tryz.f109 2)) (rBody (cutAt Tryz.f109 2)):=fun r d=>by kernel_rfl
def tr_net_state_holders_2 (d:List G):Option (Option Nat × List G) :=
 (bif ((((Nat.beq (gi d 3).rows.length (gi d 3).rows.length)&&true)&&true)&&true) then some (some 0,[.l (gi d 0).rows,.l (gi d 1).rows,.l (gi d 2).rows,.l (gi d 3).rows,.l (gi d 4).rows,.i (((gi d 5).int.toNat:Nat):Int),.l (gi d 6).rows,.i (((gi d 7).int.toNat:Nat):Int)]) else none)
def l_net_state_holders_2r:LSpec:=⟨6,[],⟨21,[(3,.s (.map 3)),(10,.s (.addr))],[.box [.vec 1 15,.list KCt,.list [.str],.list [.int .i64],.map 2],.vec KDeed 0,.map (.agg [.str,.int .i64]) (.one (.bool)),.map (.one (.int .i64)) (.one (.int .i64))]⟩,[],[⟨.ret,⟨21,[(2,.s (.map 3))],[.box [.vec 1 15,.list KCt,.list [.str],.list [.int .i64],.map 2],.vec KDeed 0,.map (.agg [.str,.int .i64]) (.one (.bool)),.map (.one (.int .i64)) (.one (.int .i64))]⟩,[.fix 0,.cell 0 0,.cell 0 4,.slot 2]⟩],tr_net_state_holders_2⟩
theorem v_net_state_holders_2:CutOK P t6 nL0 3 (rRest (cutAt Tryz.f109 2)) l_net_state_holders_2r:=fun d=>by kernel_rfl
def tl_net_state_holders_2 (d:List G):Option (Option Nat × List G) :=
 rangeR rs_net_state_holders_2 tr_net_state_holders_2 (gi d 4).rows ((gi d 5).int.toNat) d
def l_net_state_holders_2c:LSpec:=⟨2,[],⟨21,[(0,.s (.ptr 0 0)),(3,.s (.map 3))],[.box [.vec 1 15,.list KCt,.list [.str],.list [.int .i64],.map 2],.vec KDeed 0,.map (.agg [.str,.int .i64]) (.one (.bool)),.map (.one (.int .i64)) (.one (.int .i64))]⟩,[.fix 0,.cell 0 0,.cell 0 4,.slot 3],[⟨.ret,⟨21,[(2,.s (.map 3))],[.box [.vec 1 15,.list KCt,.list [.str],.list [.int .i64],.map 2],.vec KDeed 0,.map (.agg [.str,.int .i64]) (.one (.bool)),.map (.one (.int .i64)) (.one (.int .i64))]⟩,[.fix 0,.cell 0 0,.cell 0 4,.slot 2]⟩],tl_net_state_holders_2⟩
def L_net_state_holders_2c:LT:=nL0.addCut 3 l_net_state_holders_2c
theorem k_net_state_holders_2:∀ r d d',sr_net_state_holders_2 r d=some d'→(gi d' 4).rows=(gi d 4).rows∧(gi d' 5).int.toNat=(gi d 5).int.toNat:=by
 intro r d d' h
 unfold sr_net_state_holders_2 at h
 simp only [Bool.cond_eq_ite] at h
 repeat' split at h
 all_goals first | (cases h; done) | (cases h; exact ⟨rfl,rfl⟩)
theorem L_net_state_holders_2c_ok:LpK P 3 L_net_state_holders_2c (bodyOf Tryz.f109):=LpK.addRangeK (q:=l_net_state_holders_2c) (qr:=l_net_state_holders_2r) (sp:=rs_net_state_holders_2) (r0:=2) (b0:=0) (r1:=3) (b1:=1) (r2:=4) (rows:=fun d=>(gi d 4).rows) (clock:=fun d=>(gi d 5).int.toNat) (pre:=fun d=>preOf P t6 (rOps0 (cutAt Tryz.f109 2)) (mkSt l_net_state_holders_2c.inv d)) (ri:=fun d=>(gi d 4).rows) (ci:=fun d=>(gi d 5).int.toNat) hm t6_ok (fun d=>by kernel_rfl) k_net_state_holders_2 (by kernel_rfl) (by kernel_rfl) (nLk _ _ _) (by kernel_rfl) (by kernel_rfl) w_net_state_holders_2 (fun d=>by kernel_rfl) (fun d=>by kernel_rfl) (fun d=>by kernel_rfl) (fun d=>by kernel_rfl) (fun d=>by kernel_rfl) (fun d=>by kernel_rfl) (fun d b=>by kernel_rfl) (fun d b=>rfl) (fun d b=>⟨rfl,rfl⟩) rfl rfl v_net_state_holders_2 (fun d=>rfl)
def F_net_state_holders (d:List G):Option (List G) :=
 (loopB ((((Nat.beq (gi d 3).rows.length (gi d 3).rows.length)&&true)&&true)&&true) (cutR (tl_net_state_holders_2 [.l (gi d 0).rows,.l (gi d 1).rows,.l (gi d 2).rows,.l (gi d 3).rows,.l (gi d 4).rows,.i (((gi d 5).int.toNat:Nat):Int),.l [],.i 0])) fun cg1 g1=>(bif ((((Nat.beq (gi g1 3).rows.length (gi g1 3).rows.length)&&true)&&true)&&true) then some [.l (gi g1 0).rows,.l (gi g1 1).rows,.l (gi g1 2).rows,.l (gi g1 3).rows,.l (gi g1 4).rows,.i (((gi g1 5).int.toNat:Nat):Int),.l (gi g1 6).rows,.i (((gi g1 7).int.toNat:Nat):Int)] else none))
def s_net_state_holders:FSpec:=⟨109,[.s (.ptr 0 0)],[.box [.vec 1 15,.list KCt,.list [.str],.list [.int .i64],.map 2],.vec KDeed 0,.map (.agg [.str,.int .i64]) (.one (.bool))],[.slot 0,.cell 0 0,.cell 0 4],[.s (.map 3)],[.box [.vec 1 15,.list KCt,.list [.str],.list [.int .i64],.map 2],.vec KDeed 0,.map (.agg [.str,.int .i64]) (.one (.bool)),.map (.one (.int .i64)) (.one (.int .i64))],[.fix 0,.fix 1,.fix 2,.slot 0],[],F_net_state_holders⟩
theorem b_net_state_holders:BodyOK P t6 L_net_state_holders_2c Tryz.f109 s_net_state_holders:=fun d=>by kernel_rfl
theorem c_net_state_holders:COK P s_net_state_holders:=bdC hm t6_ok Tryz.func109 L_net_state_holders_2c_ok b_net_state_holders
def t7:Tab:=t6.addW s_net_state_holders
theorem t7_ok:TabOK P t7:=t6_ok.aW c_net_state_holders

theorem bw_l2_netted:BwFact P ⟨188,26,41,15,15,true⟩:=bwFact_of Tryz.func188 (by kernel_rfl) rfl rfl rfl ⟨⟨_,_,_,_,_,_,rfl,⟨rfl,rfl,rfl⟩,⟨rfl,rfl,rfl⟩,⟨rfl,rfl,rfl⟩,⟨rfl,rfl,rfl⟩⟩,⟨_,_,_,_,rfl,⟨rfl,rfl,rfl⟩,⟨rfl,rfl,rfl⟩⟩,⟨_,_,_,_,_,rfl,⟨rfl,rfl,rfl⟩,⟨rfl,rfl,rfl⟩,⟨rfl,rfl,rfl⟩⟩,⟨_,_,_,_,_,_,_,_,_,_,rfl,⟨rfl,rfl,rfl⟩,⟨rfl,rfl,rfl⟩,⟨rfl,rfl,rfl⟩,⟨rfl,rfl,rfl⟩,⟨rfl,rfl,rfl⟩,⟨rfl,rfl,rfl⟩,⟨rfl,rfl,rfl⟩,⟨rfl,rfl,rfl⟩⟩⟩ (by kernel_rfl)
def tl1_net_state_holders_2 (d:List G):Option (Option Nat × List G) :=
 range1 rs_net_state_holders_2 tr_net_state_holders_2 (gi d 4).rows ((gi d 5).int.toNat) d
theorem ind_net_state_holders_2 (d x:List G) (b:Nat):(foldR rs_net_state_holders_2.st rs_net_state_holders_2.adr [x] (rs_net_state_holders_2.init d b)).bind tr_net_state_holders_2=(foldR rs_net_state_holders_2.st rs_net_state_holders_2.adr [x] (rs_net_state_holders_2.init d 0)).bind tr_net_state_holders_2:=by
 simp only [foldR_one,rs_net_state_holders_2]
 unfold sr_net_state_holders_2 ri_net_state_holders_2 tr_net_state_holders_2
 dsimp +instances only [giC0,giCs]
 simp only [bind_cond,Option.bind_some,Option.bind_none]
 dsimp +instances only [giC0,giCs]
 simp only [intC,Int.toNat_natCast,beqC,cond_true]
def F1_net_state_holders (d:List G):Option (List G) :=
 (loopB ((((Nat.beq (gi d 3).rows.length (gi d 3).rows.length)&&true)&&true)&&true) (cutR (tl1_net_state_holders_2 [.l (gi d 0).rows,.l (gi d 1).rows,.l (gi d 2).rows,.l (gi d 3).rows,.l (gi d 4).rows,.i (((gi d 5).int.toNat:Nat):Int),.l [],.i 0])) fun cg1 g1=>(bif ((((Nat.beq (gi g1 3).rows.length (gi g1 3).rows.length)&&true)&&true)&&true) then some [.l (gi g1 0).rows,.l (gi g1 1).rows,.l (gi g1 2).rows,.l (gi g1 3).rows,.l (gi g1 4).rows,.i (((gi g1 5).int.toNat:Nat):Int),.l (gi g1 6).rows,.i (((gi g1 7).int.toNat:Nat):Int)] else none))
theorem F1_le {d r:List G} (h:F1_net_state_holders d=some r):F_net_state_holders d=some r :=
 loopB_le (fun v hv=>range1_le (fun b=>rfl) (ind_net_state_holders_2 _) hv) h
def s1_net_state_holders:FSpec:={ s_net_state_holders with F:=F1_net_state_holders }
def u_l2_netted:Tab:=t7.addW s1_net_state_holders
theorem u_l2_netted_ok:TabOK P u_l2_netted:=t7_ok.aW fun d r h=>c_net_state_holders d r (F1_le h)
def u0_l2_netted:Tab:=u_l2_netted.inline P 84 Tryz.f84 []
theorem u0_l2_netted_ok:TabOK P u0_l2_netted:=u_l2_netted_ok.inline hm Tryz.func84 (by kernel_rfl) []
def u1_l2_netted:Tab:=u0_l2_netted.inline P 85 Tryz.f85 []
theorem u1_l2_netted_ok:TabOK P u1_l2_netted:=u0_l2_netted_ok.inline hm Tryz.func85 (by kernel_rfl) []
def u2_l2_netted:Tab:=u1_l2_netted.inline P 83 Tryz.f83 []
theorem u2_l2_netted_ok:TabOK P u2_l2_netted:=u1_l2_netted_ok.inline hm Tryz.func83 (by kernel_rfl) []
def u3_l2_netted:Tab:=u2_l2_netted.inline P 86 Tryz.f86 []
theorem u3_l2_netted_ok:TabOK P u3_l2_netted:=u2_l2_netted_ok.inline hm Tryz.func86 (by kernel_rfl) []
def u4_l2_netted:Tab:=u3_l2_netted.inline P 87 Tryz.f87 []
theorem u4_l2_netted_ok:TabOK P u4_l2_netted:=u3_l2_netted_ok.inline hm Tryz.func87 (by kernel_rfl) []
def u5_l2_netted:Tab:=u4_l2_netted.inline P 50 Tryz.f50 []
theorem u5_l2_netted_ok:TabOK P u5_l2_netted:=u4_l2_netted_ok.inline hm Tryz.func50 (by kernel_rfl) []
def u6_l2_netted:Tab:=u5_l2_netted.inline P 24 Tryz.f24 []
theorem u6_l2_netted_ok:TabOK P u6_l2_netted:=u5_l2_netted_ok.inline hm Tryz.func24 (by kernel_rfl) []
def u7_l2_netted:Tab:=u6_l2_netted.inline P 106 Tryz.f106 []
theorem u7_l2_netted_ok:TabOK P u7_l2_netted:=u6_l2_netted_ok.inline hm Tryz.func106 (by kernel_rfl) []
def u8_l2_netted:Tab:=u7_l2_netted.inlineW P 169 Tryz.f169
theorem u8_l2_netted_ok:TabOK P u8_l2_netted:=u7_l2_netted_ok.inlineW hm Tryz.func169 (by kernel_rfl) (by kernel_rfl)
def u9_l2_netted:Tab:=u8_l2_netted.inlineB P ⟨188,26,41,15,15,true⟩ 3 140 Tryz.f140 [some [.int .i64]]
theorem u9_l2_netted_ok:TabOK P u9_l2_netted:=u8_l2_netted_ok.inlineB hm bw_l2_netted Tryz.func140 (by kernel_rfl) (by kernel_rfl) [some [.int .i64]]
def u10_l2_netted:Tab:=u9_l2_netted.inline P 152 Tryz.f152 []
theorem u10_l2_netted_ok:TabOK P u10_l2_netted:=u9_l2_netted_ok.inline hm Tryz.func152 (by kernel_rfl) []
def u11_l2_netted:Tab:=u10_l2_netted.inline P 172 Tryz.f172 []
theorem u11_l2_netted_ok:TabOK P u11_l2_netted:=u10_l2_netted_ok.inline hm Tryz.func172 (by kernel_rfl) []
def u12_l2_netted:Tab:=u11_l2_netted.inlineW P 189 Tryz.f189
theorem u12_l2_netted_ok:TabOK P u12_l2_netted:=u11_l2_netted_ok.inlineW hm Tryz.func189 (by kernel_rfl) (by kernel_rfl)
def u13_l2_netted:Tab:=u12_l2_netted.inlineW P 171 Tryz.f171
theorem u13_l2_netted_ok:TabOK P u13_l2_netted:=u12_l2_netted_ok.inlineW hm Tryz.func171 (by kernel_rfl) (by kernel_rfl)
def u14_l2_netted:Tab:=u13_l2_netted.inlineW P 142 Tryz.f142
theorem u14_l2_netted_ok:TabOK P u14_l2_netted:=u13_l2_netted_ok.inlineW hm Tryz.func142 (by kernel_rfl) (by kernel_rfl)
def u15_l2_netted:Tab:=u14_l2_netted.inline P 141 Tryz.f141 []
theorem u15_l2_netted_ok:TabOK P u15_l2_netted:=u14_l2_netted_ok.inline hm Tryz.func141 (by kernel_rfl) []
def u16_l2_netted:Tab:=u15_l2_netted.inlineW P 107 Tryz.f107
theorem u16_l2_netted_ok:TabOK P u16_l2_netted:=u15_l2_netted_ok.inlineW hm Tryz.func107 (by kernel_rfl) (by kernel_rfl)
def u17_l2_netted:Tab:=u16_l2_netted.inlineW P 78 Tryz.f78
theorem u17_l2_netted_ok:TabOK P u17_l2_netted:=u16_l2_netted_ok.inlineW hm Tryz.func78 (by kernel_rfl) (by kernel_rfl)
def u18_l2_netted:Tab:=u17_l2_netted.inlineW P 108 Tryz.f108
theorem u18_l2_netted_ok:TabOK P u18_l2_netted:=u17_l2_netted_ok.inlineW hm Tryz.func108 (by kernel_rfl) (by kernel_rfl)
def u19_l2_netted:Tab:=u18_l2_netted.inlineW P 79 Tryz.f79
theorem u19_l2_netted_ok:TabOK P u19_l2_netted:=u18_l2_netted_ok.inlineW hm Tryz.func79 (by kernel_rfl) (by kernel_rfl)
def u20_l2_netted:Tab:=u19_l2_netted.inline P 44 Tryz.f44 []
theorem u20_l2_netted_ok:TabOK P u20_l2_netted:=u19_l2_netted_ok.inline hm Tryz.func44 (by kernel_rfl) []
theorem q_l2_netted:PCall P 13 [] (.lit (.bool true)):=fn_pure (L:=nL0) hm u20_l2_netted_ok [] (fun _ _=>nLk _ _ _) Tryz.func13 rfl (by kernel_rfl) (by kernel_rfl)
def F_l2_netted (_:List G):Option (List G):=some [.t true]
def s_l2_netted:FSpec:=⟨13,[],[],[],[.s (.bool)],[],[],[],F_l2_netted⟩
theorem c_l2_netted:∀ d r,F_l2_netted d=some r→ACallX P 13 (s_l2_netted.args0 d) (denH (s_l2_netted.H0 d)) (s_l2_netted.out r) (denH (s_l2_netted.H1 r)):=fun d r h=>by
 cases (show some [G.t true]=some r from h)
 exact q_l2_netted []
def t8:Tab:=t7.addP s_l2_netted
theorem t8_ok:TabOK P t8:=t7_ok.aP c_l2_netted


def F_pilemake_Below (d:List G):Option (List G) :=
 (bif (ltI (gi d 1).int 1) then some [.i 0] else (bif (!((gi d 1).int==0)) then (bif (ltI (Int.tmod (gi d 0).int (gi d 1).int) 0) then (bif (inI ((Int.tmod (gi d 0).int (gi d 1).int)+(gi d 1).int)) then some [.i ((Int.tmod (gi d 0).int (gi d 1).int)+(gi d 1).int)] else none) else some [.i (Int.tmod (gi d 0).int (gi d 1).int)]) else none))
def s_pilemake_Below:FSpec:=⟨46,[.s (.int .i64),.s (.int .i64)],[],[],[.s (.int .i64)],[],[],[],F_pilemake_Below⟩
theorem b_pilemake_Below:BodyOK P t8 nL0 Tryz.f46 s_pilemake_Below:=fun d=>by kernel_rfl
theorem c_pilemake_Below:COK P s_pilemake_Below:=bdC hm t8_ok Tryz.func46 (nLk _ _ _) b_pilemake_Below
def t9:Tab:=t8.addP s_pilemake_Below
theorem t9_ok:TabOK P t9:=t8_ok.aP c_pilemake_Below

def F_mk_Next (d:List G):Option (List G) :=
 (bif (inI ((gi d 1).int+1)) then (bif ((((gi d 0).rows.length:Nat):Int)==0) then (bif (inI (((gi d 1).int+1)*7919)) then (callF (F_pilemake_Below [.i (((gi d 1).int+1)*7919),.i (gi d 2).int]) fun g1=>some [.l (gi d 0).rows,.i ((gi d 1).int+1),.i (gi g1 0).int]) else none) else (bif (inI (((gi d 1).int+1)-1)) then (bif (!((((gi d 0).rows.length:Nat):Int)==0)) then (bif (inI (((gi d 1).int+1)-1)) then (bif ((!((((gi d 0).rows.length:Nat):Int)==0))&&(inI (Int.tdiv (((gi d 1).int+1)-1) (((gi d 0).rows.length:Nat):Int)))) then (bif ((nnI (Int.tmod (((gi d 1).int+1)-1) (((gi d 0).rows.length:Nat):Int)))&&(ltI (Int.tmod (((gi d 1).int+1)-1) (((gi d 0).rows.length:Nat):Int)) (((gi d 0).rows.length:Nat):Int))) then (callF (F_pilemake_Below [.i (gi ((gi d 0).rows.getD ((Int.tmod (((gi d 1).int+1)-1) (((gi d 0).rows.length:Nat):Int)).toNat) []) 0).int,.i 1073741824]) fun g2=>(bif (inI (7919+(Int.tmod (((gi d 1).int+1)-1) (((gi d 0).rows.length:Nat):Int)))) then (bif (inI ((Int.tdiv (((gi d 1).int+1)-1) (((gi d 0).rows.length:Nat):Int))*(7919+(Int.tmod (((gi d 1).int+1)-1) (((gi d 0).rows.length:Nat):Int))))) then (bif (inI ((gi g2 0).int+((Int.tdiv (((gi d 1).int+1)-1) (((gi d 0).rows.length:Nat):Int))*(7919+(Int.tmod (((gi d 1).int+1)-1) (((gi d 0).rows.length:Nat):Int)))))) then (callF (F_pilemake_Below [.i ((gi g2 0).int+((Int.tdiv (((gi d 1).int+1)-1) (((gi d 0).rows.length:Nat):Int))*(7919+(Int.tmod (((gi d 1).int+1)-1) (((gi d 0).rows.length:Nat):Int))))),.i (gi d 2).int]) fun g3=>some [.l (gi d 0).rows,.i ((gi d 1).int+1),.i (gi g3 0).int]) else none) else none) else none)) else none) else none) else none) else none) else none)) else none)
def s_mk_Next:FSpec:=⟨18,[.s (.ptr 0 0),.s (.int .i64)],[.box [.list [.int .i64],.int .i64]],[.slot 0],[.s (.int .i64)],[.box [.list [.int .i64],.int .i64]],[.fix 0],[],F_mk_Next⟩
theorem b_mk_Next:BodyOK P t9 nL0 Tryz.f18 s_mk_Next:=fun d=>by kernel_rfl
theorem c_mk_Next:COK P s_mk_Next:=bdC hm t9_ok Tryz.func18 (nLk _ _ _) b_mk_Next
def t10:Tab:=t9.addW s_mk_Next
theorem t10_ok:TabOK P t10:=t9_ok.aW c_mk_Next

def F_mk_Range (d:List G):Option (List G) :=
 (bif (ltI (gi d 3).int (gi d 2).int) then some [.l (gi d 0).rows,.i (gi d 1).int,.i (gi d 2).int] else (bif (inI ((gi d 3).int-(gi d 2).int)) then (bif (inI (((gi d 3).int-(gi d 2).int)+1)) then (callF (F_mk_Next [.l (gi d 0).rows,.i (gi d 1).int,.i (((gi d 3).int-(gi d 2).int)+1)]) fun g1=>(bif (inI ((gi d 2).int+(gi g1 2).int)) then some [.l (gi g1 0).rows,.i (gi g1 1).int,.i ((gi d 2).int+(gi g1 2).int)] else none)) else none) else none))
def s_mk_Range:FSpec:=⟨5,[.s (.ptr 0 0),.s (.int .i64),.s (.int .i64)],[.box [.list [.int .i64],.int .i64]],[.slot 0],[.s (.int .i64)],[.box [.list [.int .i64],.int .i64]],[.fix 0],[],F_mk_Range⟩
theorem b_mk_Range:BodyOK P t10 nL0 Tryz.f5 s_mk_Range:=fun d=>by kernel_rfl
theorem c_mk_Range:COK P s_mk_Range:=bdC hm t10_ok Tryz.func5 (nLk _ _ _) b_mk_Range
def t11:Tab:=t10.addW s_mk_Range
theorem t11_ok:TabOK P t11:=t10_ok.aW c_mk_Range

def F_mk_Pick (d:List G):Option (List G) :=
 (callF (F_mk_Next [.l (gi d 0).rows,.i (gi d 1).int,.i (((gi d 2).rows.length:Nat):Int)]) fun g1=>(bif ((nnI (gi g1 2).int)&&(ltI (gi g1 2).int (((gi d 2).rows.length:Nat):Int))) then some [.l (gi g1 0).rows,.i (gi g1 1).int,.i (gi ((gi d 2).rows.getD (((gi g1 2).int).toNat) []) 0).int] else none))
def s_mk_Pick:FSpec:=⟨14,[.s (.ptr 0 0),.s (.list [.int .i64])],[.box [.list [.int .i64],.int .i64]],[.slot 0],[.s (.int .i64)],[.box [.list [.int .i64],.int .i64]],[.fix 0],[],F_mk_Pick⟩
theorem b_mk_Pick:BodyOK P t11 nL0 Tryz.f14 s_mk_Pick:=fun d=>by kernel_rfl
theorem c_mk_Pick:COK P s_mk_Pick:=bdC hm t11_ok Tryz.func14 (nLk _ _ _) b_mk_Pick
def t12:Tab:=t11.addW s_mk_Pick
theorem t12_ok:TabOK P t12:=t11_ok.aW c_mk_Pick

def F_mk_Some (d:List G):Option (List G) :=
 (callF (F_mk_Next [.l (gi d 0).rows,.i (gi d 1).int,.i (((gi d 2).rows.length:Nat):Int)]) fun g1=>(bif ((nnI (gi g1 2).int)&&(ltI (gi g1 2).int (((gi d 2).rows.length:Nat):Int))) then some [.l (gi g1 0).rows,.i (gi g1 1).int,.s (gi ((gi d 2).rows.getD (((gi g1 2).int).toNat) []) 0).str] else none))
def s_mk_Some:FSpec:=⟨15,[.s (.ptr 0 0),.s (.list [.str])],[.box [.list [.int .i64],.int .i64]],[.slot 0],[.s (.str)],[.box [.list [.int .i64],.int .i64]],[.fix 0],[],F_mk_Some⟩
theorem b_mk_Some:BodyOK P t12 nL0 Tryz.f15 s_mk_Some:=fun d=>by kernel_rfl
theorem c_mk_Some:COK P s_mk_Some:=bdC hm t12_ok Tryz.func15 (nLk _ _ _) b_mk_Some
def t13:Tab:=t12.addW s_mk_Some
theorem t13_ok:TabOK P t13:=t12_ok.aW c_mk_Some

def F_mk_Flip (d:List G):Option (List G) :=
 (callF (F_mk_Next [.l (gi d 0).rows,.i (gi d 1).int,.i (gi d 2).int]) fun g1=>some [.l (gi g1 0).rows,.i (gi g1 1).int,.t ((gi g1 2).int==0)])
def s_mk_Flip:FSpec:=⟨17,[.s (.ptr 0 0),.s (.int .i64)],[.box [.list [.int .i64],.int .i64]],[.slot 0],[.s (.bool)],[.box [.list [.int .i64],.int .i64]],[.fix 0],[],F_mk_Flip⟩
theorem b_mk_Flip:BodyOK P t13 nL0 Tryz.f17 s_mk_Flip:=fun d=>by kernel_rfl
theorem c_mk_Flip:COK P s_mk_Flip:=bdC hm t13_ok Tryz.func17 (nLk _ _ _) b_mk_Flip
def t14:Tab:=t13.addW s_mk_Flip
theorem t14_ok:TabOK P t14:=t13_ok.aW c_mk_Flip

def F_mk_ACall (d:List G):Option (List G) :=
 (callF (F_mk_Flip [.l (gi d 0).rows,.i (gi d 1).int,.i 60]) fun g1=>(bif (gi g1 2).bool then (callF (F_mk_Some [.l (gi g1 0).rows,.i (gi g1 1).int,.l [[.s (⟨#[]⟩:ByteArray)],[.s (⟨#[107,49]⟩:ByteArray)],[.s (⟨#[75,49,65,66]⟩:ByteArray)],[.s (⟨#[107,49,97,98,47]⟩:ByteArray)],[.s (⟨#[49,97]⟩:ByteArray)],[.s (⟨#[107,49,97,98,47,109,109,47,112]⟩:ByteArray)]]]) fun g2=>some [.l (gi g2 0).rows,.i (gi g2 1).int,.s (gi g2 2).str]) else (callF (F_mk_Some [.l (gi g1 0).rows,.i (gi g1 1).int,.l [[.s (⟨#[107,49,97,98]⟩:ByteArray)],[.s (⟨#[107,49,97,97]⟩:ByteArray)],[.s (⟨#[107,49,97,98,47,52]⟩:ByteArray)],[.s (⟨#[111,104,50,97,98,99]⟩:ByteArray)],[.s (⟨#[111,104,50,97,98,100]⟩:ByteArray)],[.s (⟨#[119,49,97,119]⟩:ByteArray)],[.s (⟨#[110,49,109,109]⟩:ByteArray)],[.s (⟨#[103,51,120,121,122,47,112]⟩:ByteArray)]]]) fun g3=>some [.l (gi g3 0).rows,.i (gi g3 1).int,.s (gi g3 2).str])))
def s_mk_ACall:FSpec:=⟨45,[.s (.ptr 0 0)],[.box [.list [.int .i64],.int .i64]],[.slot 0],[.s (.str)],[.box [.list [.int .i64],.int .i64]],[.fix 0],[],F_mk_ACall⟩
theorem b_mk_ACall:BodyOK P t14 nL0 Tryz.f45 s_mk_ACall:=fun d=>by kernel_rfl
theorem c_mk_ACall:COK P s_mk_ACall:=bdC hm t14_ok Tryz.func45 (nLk _ _ _) b_mk_ACall
def t15:Tab:=t14.addW s_mk_ACall
theorem t15_ok:TabOK P t15:=t14_ok.aW c_mk_ACall

def F_mk_Odd (d:List G):Option (List G) :=
 (callF (F_mk_Flip [.l (gi d 0).rows,.i (gi d 1).int,.i 12]) fun g1=>(bif (gi g1 2).bool then (bif (inI ((gi d 2).int-1)) then (bif (inI ((gi d 3).int+1)) then (callF (F_mk_Pick [.l (gi g1 0).rows,.i (gi g1 1).int,.l [[.i ((gi d 2).int-1)],[.i ((gi d 3).int+1)],[.i (gi d 2).int],[.i (gi d 3).int],[.i (-1099511627776)],[.i 1099511627776]]]) fun g2=>some [.l (gi g2 0).rows,.i (gi g2 1).int,.i (gi g2 2).int]) else none) else none) else (callF (F_mk_Range [.l (gi g1 0).rows,.i (gi g1 1).int,.i (gi d 2).int,.i (gi d 3).int]) fun g3=>some [.l (gi g3 0).rows,.i (gi g3 1).int,.i (gi g3 2).int])))
def s_mk_Odd:FSpec:=⟨19,[.s (.ptr 0 0),.s (.int .i64),.s (.int .i64)],[.box [.list [.int .i64],.int .i64]],[.slot 0],[.s (.int .i64)],[.box [.list [.int .i64],.int .i64]],[.fix 0],[],F_mk_Odd⟩
theorem b_mk_Odd:BodyOK P t15 nL0 Tryz.f19 s_mk_Odd:=fun d=>by kernel_rfl
theorem c_mk_Odd:COK P s_mk_Odd:=bdC hm t15_ok Tryz.func19 (nLk _ _ _) b_mk_Odd
def t16:Tab:=t15.addW s_mk_Odd
theorem t16_ok:TabOK P t16:=t15_ok.aW c_mk_Odd

def F_mk_SomeContact (d:List G):Option (List G) :=
 (callF (F_mk_Pick [.l (gi d 0).rows,.i (gi d 1).int,.l [[.i 1],[.i 1],[.i 2],[.i 3]]]) fun g1=>(callF (F_mk_Some [.l (gi g1 0).rows,.i (gi g1 1).int,.l [[.s (⟨#[98,50,48]⟩:ByteArray)],[.s (⟨#[98,50,48]⟩:ByteArray)],[.s (⟨#[98,52,48]⟩:ByteArray)]]]) fun g2=>(callF (F_mk_ACall [.l (gi g2 0).rows,.i (gi g2 1).int]) fun g3=>(callF (F_mk_Pick [.l (gi g3 0).rows,.i (gi g3 1).int,.l [[.i 0],[.i 1],[.i 2],[.i 3],[.i 4],[.i 5],[.i 6],[.i 7]]]) fun g4=>(callF (F_mk_Pick [.l (gi g4 0).rows,.i (gi g4 1).int,.l [[.i 0],[.i 1],[.i 2],[.i 9]]]) fun g5=>(callF (F_mk_Some [.l (gi g5 0).rows,.i (gi g5 1).int,.l [[.s (⟨#[]⟩:ByteArray)],[.s (⟨#[]⟩:ByteArray)],[.s (⟨#[102,105,110]⟩:ByteArray)]]]) fun g6=>(callF (F_mk_Some [.l (gi g6 0).rows,.i (gi g6 1).int,.l [[.s (⟨#[]⟩:ByteArray)],[.s (⟨#[]⟩:ByteArray)],[.s (⟨#[117,115,97]⟩:ByteArray)]]]) fun g7=>(callF (F_mk_Flip [.l (gi g7 0).rows,.i (gi g7 1).int,.i 100]) fun g8=>(bif (gi g8 2).bool then (callF (F_mk_Next [.l (gi g8 0).rows,.i (gi g8 1).int,.i 4]) fun g9=>(bif ((gi g9 2).int==0) then (callF (F_mk_Odd [.l (gi g9 0).rows,.i (gi g9 1).int,.i 0,.i 500]) fun g10=>(callF (F_mk_Odd [.l (gi g10 0).rows,.i (gi g10 1).int,.i 1,.i 3]) fun g11=>some [.l (gi g11 0).rows,.i (gi g11 1).int,.l [[.i (gi g10 2).int,.i (gi g11 2).int,.s (gi g2 2).str,.s (gi g3 2).str,.i (gi g4 2).int,.i (gi g5 2).int,.s (gi g6 2).str,.s (gi g7 2).str]]])) else (bif ((gi g9 2).int==1) then (callF (F_mk_Some [.l (gi g9 0).rows,.i (gi g9 1).int,.l [[.s (⟨#[]⟩:ByteArray)],[.s (⟨#[66]⟩:ByteArray)],[.s (⟨#[98,50,48]⟩:ByteArray)]]]) fun g12=>some [.l (gi g12 0).rows,.i (gi g12 1).int,.l [[.i (gi d 2).int,.i (gi g1 2).int,.s (gi g12 2).str,.s (gi g3 2).str,.i (gi g4 2).int,.i (gi g5 2).int,.s (gi g6 2).str,.s (gi g7 2).str]]]) else (bif ((gi g9 2).int==2) then (callF (F_mk_Odd [.l (gi g9 0).rows,.i (gi g9 1).int,.i 0,.i 99999]) fun g13=>(callF (F_mk_Odd [.l (gi g13 0).rows,.i (gi g13 1).int,.i 0,.i 99999]) fun g14=>some [.l (gi g14 0).rows,.i (gi g14 1).int,.l [[.i (gi d 2).int,.i (gi g1 2).int,.s (gi g2 2).str,.s (gi g3 2).str,.i (gi g13 2).int,.i (gi g14 2).int,.s (gi g6 2).str,.s (gi g7 2).str]]])) else (callF (F_mk_Some [.l (gi g9 0).rows,.i (gi g9 1).int,.l [[.s (⟨#[]⟩:ByteArray)],[.s (⟨#[65]⟩:ByteArray)]]]) fun g15=>(callF (F_mk_Some [.l (gi g15 0).rows,.i (gi g15 1).int,.l [[.s (⟨#[49]⟩:ByteArray)],[.s (⟨#[117,115,97]⟩:ByteArray)]]]) fun g16=>some [.l (gi g16 0).rows,.i (gi g16 1).int,.l [[.i (gi d 2).int,.i (gi g1 2).int,.s (gi g2 2).str,.s (gi g3 2).str,.i (gi g4 2).int,.i (gi g5 2).int,.s (gi g15 2).str,.s (gi g16 2).str]]])))))) else some [.l (gi g8 0).rows,.i (gi g8 1).int,.l [[.i (gi d 2).int,.i (gi g1 2).int,.s (gi g2 2).str,.s (gi g3 2).str,.i (gi g4 2).int,.i (gi g5 2).int,.s (gi g6 2).str,.s (gi g7 2).str]]])))))))))
def s_mk_SomeContact:FSpec:=⟨16,[.s (.ptr 0 0),.s (.int .i64)],[.box [.list [.int .i64],.int .i64]],[.slot 0],[.s (.row KCt)],[.box [.list [.int .i64],.int .i64]],[.fix 0],[],F_mk_SomeContact⟩
theorem b_mk_SomeContact:BodyOK P t16 nL0 Tryz.f16 s_mk_SomeContact:=fun d=>by kernel_rfl
theorem c_mk_SomeContact:COK P s_mk_SomeContact:=bdC hm t16_ok Tryz.func16 (nLk _ _ _) b_mk_SomeContact
def t17:Tab:=t16.addW s_mk_SomeContact
theorem t17_ok:TabOK P t17:=t16_ok.aW c_mk_SomeContact

def F_r2_sign (d:List G):Option (List G) :=
 (bif (ltI (gi d 0).int 0) then some [.i (-1)] else (bif (ltI 0 (gi d 0).int) then some [.i 1] else some [.i 0]))
def s_r2_sign:FSpec:=⟨48,[.s (.int .i64)],[],[],[.s (.int .i64)],[],[],[],F_r2_sign⟩
theorem b_r2_sign:BodyOK P t17 nL0 Tryz.f48 s_r2_sign:=fun d=>by kernel_rfl
theorem c_r2_sign:COK P s_r2_sign:=bdC hm t17_ok Tryz.func48 (nLk _ _ _) b_r2_sign
def t18:Tab:=t17.addP s_r2_sign
theorem t18_ok:TabOK P t18:=t17_ok.aP c_r2_sign

def F_r2_DeedOrder (d:List G):Option (List G) :=
 (bif ((gi (gi d 0).row 2).int != (gi (gi d 1).row 2).int) then (bif (inI ((gi (gi d 0).row 2).int-(gi (gi d 1).row 2).int)) then (callF (F_r2_sign [.i ((gi (gi d 0).row 2).int-(gi (gi d 1).row 2).int)]) fun g1=>some [.i (gi g1 0).int]) else none) else (bif (!((gi (gi d 0).row 0).str.toList==(gi (gi d 1).row 0).str.toList)) then (callF (F_strings_Compare [.s (gi (gi d 0).row 0).str,.s (gi (gi d 1).row 0).str]) fun g2=>some [.i (gi g2 0).int]) else (bif (inI ((gi (gi d 0).row 1).int-(gi (gi d 1).row 1).int)) then (callF (F_r2_sign [.i ((gi (gi d 0).row 1).int-(gi (gi d 1).row 1).int)]) fun g3=>some [.i (gi g3 0).int]) else none)))
def s_r2_DeedOrder:FSpec:=⟨21,[.s (.row KDeed),.s (.row KDeed)],[],[],[.s (.int .i64)],[],[],[],F_r2_DeedOrder⟩
theorem b_r2_DeedOrder:BodyOK P t18 nL0 Tryz.f21 s_r2_DeedOrder:=fun d=>by kernel_rfl
theorem c_r2_DeedOrder:COK P s_r2_DeedOrder:=bdC hm t18_ok Tryz.func21 (nLk _ _ _) b_r2_DeedOrder
def t19:Tab:=t18.addP s_r2_DeedOrder
theorem t19_ok:TabOK P t19:=t18_ok.aP c_r2_DeedOrder

def st_insS_Deed_4 (d:List G):Option (Option Nat × List G) :=
 (bif (ltI (gi d 1).int (gi d 4).int) then (bif ((nnI (gi d 4).int)&&(ltI (gi d 4).int (((gi d 0).rows.length:Nat):Int))) then (bif (decide ((0+((gi d 4).int).toNat)<(gi d 0).rows.length)) then (bif (inI ((gi d 4).int-1)) then (bif ((nnI ((gi d 4).int-1))&&(ltI ((gi d 4).int-1) (((gi d 0).rows.length:Nat):Int))) then (bif (decide ((0+((gi d 4).int-1).toNat)<(gi d 0).rows.length)) then (callF (F_r2_DeedOrder [.l [(gEta KDeed ((gi d 0).rows.getD (0+((gi d 4).int).toNat) []))],.l [(gEta KDeed ((gi d 0).rows.getD (0+((gi d 4).int-1).toNat) []))]]) fun g1=>(bif (ltI (gi g1 0).int 0) then (bif (inI ((gi d 4).int-1)) then (bif (inI ((gi d 4).int-1)) then (bif ((nnI ((gi d 4).int-1))&&(ltI ((gi d 4).int-1) (((gi d 0).rows.length:Nat):Int))) then (bif (decide ((0+((gi d 4).int-1).toNat)<(gi d 0).rows.length)) then (bif ((nnI (gi d 4).int)&&(ltI (gi d 4).int (((gi d 0).rows.length:Nat):Int))) then (bif (decide ((0+((gi d 4).int).toNat)<(gi d 0).rows.length)) then (bif ((nnI (gi d 4).int)&&(ltI (gi d 4).int (((gi d 0).rows.length:Nat):Int))) then (bif (decide ((0+((gi d 4).int).toNat)<(gi d 0).rows.length)) then (bif ((nnI ((gi d 4).int-1))&&(ltI ((gi d 4).int-1) (((gi d 0).rows.length:Nat):Int))) then (bif (decide ((0+((gi d 4).int-1).toNat)<((gi d 0).rows.set (0+((gi d 4).int).toNat) (putG KDeed ((gi d 0).rows.getD (0+((gi d 4).int).toNat) []) 0 (gEta KDeed ((gi d 0).rows.getD (0+((gi d 4).int-1).toNat) [])))).length)) then (bif (inI ((gi d 4).int-1)) then (bif ((Nat.beq (gi d 0).rows.length (((gi d 0).rows.set (0+((gi d 4).int).toNat) (putG KDeed ((gi d 0).rows.getD (0+((gi d 4).int).toNat) []) 0 (gEta KDeed ((gi d 0).rows.getD (0+((gi d 4).int-1).toNat) [])))).set (0+((gi d 4).int-1).toNat) (putG KDeed (((gi d 0).rows.set (0+((gi d 4).int).toNat) (putG KDeed ((gi d 0).rows.getD (0+((gi d 4).int).toNat) []) 0 (gEta KDeed ((gi d 0).rows.getD (0+((gi d 4).int-1).toNat) [])))).getD (0+((gi d 4).int-1).toNat) []) 0 (gEta KDeed ((gi d 0).rows.getD (0+((gi d 4).int).toNat) [])))).length)&&true) then some (none,[.l (((gi d 0).rows.set (0+((gi d 4).int).toNat) (putG KDeed ((gi d 0).rows.getD (0+((gi d 4).int).toNat) []) 0 (gEta KDeed ((gi d 0).rows.getD (0+((gi d 4).int-1).toNat) [])))).set (0+((gi d 4).int-1).toNat) (putG KDeed (((gi d 0).rows.set (0+((gi d 4).int).toNat) (putG KDeed ((gi d 0).rows.getD (0+((gi d 4).int).toNat) []) 0 (gEta KDeed ((gi d 0).rows.getD (0+((gi d 4).int-1).toNat) [])))).getD (0+((gi d 4).int-1).toNat) []) 0 (gEta KDeed ((gi d 0).rows.getD (0+((gi d 4).int).toNat) [])))),.i (gi d 1).int,.i (gi d 2).int,.i (gi d 3).int,.i ((gi d 4).int-1)]) else none) else none) else none) else none) else none) else none) else none) else none) else none) else none) else none) else none) else (bif ((Nat.beq (gi d 0).rows.length (gi d 0).rows.length)&&true) then some (some 0,[.l (gi d 0).rows,.i (gi d 1).int,.i (gi d 2).int,.i (gi d 3).int]) else none))) else none) else none) else none) else none) else none) else (bif ((Nat.beq (gi d 0).rows.length (gi d 0).rows.length)&&true) then some (some 0,[.l (gi d 0).rows,.i (gi d 1).int,.i (gi d 2).int,.i (gi d 3).int]) else none))
def l_insS_Deed_4:LSpec:=⟨4,[],⟨53,[(0,.s (.vec 0 15)),(1,.s (.int .i64)),(2,.s (.int .i64)),(3,.s (.fn 21)),(8,.s (.int .i64)),(9,.s (.int .i64))],[.vec KDeed 0]⟩,[.fix 0],[⟨.exit 2,⟨53,[(0,.s (.vec 0 15)),(1,.s (.int .i64)),(2,.s (.int .i64)),(3,.s (.fn 21)),(8,.s (.int .i64))],[.vec KDeed 0]⟩,[.fix 0]⟩],st_insS_Deed_4⟩
theorem r_insS_Deed_4:RoundOK P t19 nL0 1 (loopAt Tryz.f80 4) l_insS_Deed_4:=fun d=>by kernel_rfl
def L_insS_Deed_4:LT:=nL0.add 1 l_insS_Deed_4
theorem L_insS_Deed_4_ok:LpK P 1 L_insS_Deed_4 (bodyOf Tryz.f80):=LpK.a hm t19_ok (nLk _ _ _) r_insS_Deed_4
def st_insS_Deed_1 (d:List G):Option (Option Nat × List G) :=
 (bif (ltI (gi d 3).int (gi d 2).int) then (loopB ((Nat.beq (gi d 0).rows.length (gi d 0).rows.length)&&true) (LRun st_insS_Deed_4 [.l (gi d 0).rows,.i (gi d 1).int,.i (gi d 2).int,.i (gi d 3).int,.i (gi d 3).int]) fun cg2 g2=>(bif (inI ((gi g2 3).int+1)) then (bif ((Nat.beq (gi g2 0).rows.length (gi g2 0).rows.length)&&true) then some (none,[.l (gi g2 0).rows,.i (gi g2 1).int,.i (gi g2 2).int,.i ((gi g2 3).int+1)]) else none) else none)) else some (some 0,[.l (gi d 0).rows]))
def l_insS_Deed_1:LSpec:=⟨1,[],⟨53,[(0,.s (.vec 0 15)),(1,.s (.int .i64)),(2,.s (.int .i64)),(3,.s (.fn 21)),(8,.s (.int .i64))],[.vec KDeed 0]⟩,[.fix 0],[⟨.exit 0,⟨53,[],[.vec KDeed 0]⟩,[.fix 0]⟩],st_insS_Deed_1⟩
theorem r_insS_Deed_1:RoundOK P t19 L_insS_Deed_4 1 (loopAt Tryz.f80 1) l_insS_Deed_1:=fun d=>by kernel_rfl
def L_insS_Deed_1:LT:=L_insS_Deed_4.add 1 l_insS_Deed_1
theorem L_insS_Deed_1_ok:LpK P 1 L_insS_Deed_1 (bodyOf Tryz.f80):=LpK.a hm t19_ok L_insS_Deed_4_ok r_insS_Deed_1
def F_insS_Deed (d:List G):Option (List G) :=
 (bif (inI ((gi d 1).int+1)) then (loopB ((Nat.beq (gi d 0).rows.length (gi d 0).rows.length)&&true) (LRun st_insS_Deed_1 [.l (gi d 0).rows,.i (gi d 1).int,.i (gi d 2).int,.i ((gi d 1).int+1)]) fun cg3 g3=>some [.l (gi g3 0).rows]) else none)
def s_insS_Deed:FSpec:=⟨80,[.s (.vec 0 15),.s (.int .i64),.s (.int .i64),.s (.fn 21)],[.vec KDeed 0],[.slot 0],[],[.vec KDeed 0],[.fix 0],[],F_insS_Deed⟩
theorem b_insS_Deed:BodyOK P t19 L_insS_Deed_1 Tryz.f80 s_insS_Deed:=fun d=>by kernel_rfl
theorem c_insS_Deed:COK P s_insS_Deed:=bdC hm t19_ok Tryz.func80 L_insS_Deed_1_ok b_insS_Deed
def t20:Tab:=t19.addW s_insS_Deed
theorem t20_ok:TabOK P t20:=t19_ok.aW c_insS_Deed

def st_stbS_Deed_2 (d:List G):Option (Option Nat × List G) :=
 (bif (leI (gi d 4).int (gi d 1).int) then (callB (((Nat.beq (gi d 0).rows.length (gi d 0).rows.length)&&true)&&(F_insS_Deed [.l (gi d 0).rows,.i (gi d 3).int,.i (gi d 4).int]).isSome) (F_insS_Deed [.l (gi d 0).rows,.i (gi d 3).int,.i (gi d 4).int]) fun g1=>(bif (inI ((gi d 4).int+(gi d 2).int)) then (bif ((Nat.beq (gi d 0).rows.length (gi g1 0).rows.length)&&true) then some (none,[.l (gi g1 0).rows,.i (gi d 1).int,.i (gi d 2).int,.i (gi d 4).int,.i ((gi d 4).int+(gi d 2).int)]) else none) else none)) else (bif ((Nat.beq (gi d 0).rows.length (gi d 0).rows.length)&&true) then some (some 0,[.l (gi d 0).rows,.i (gi d 1).int,.i (gi d 2).int,.i (gi d 3).int]) else none))
def l_stbS_Deed_2:LSpec:=⟨2,[],⟨63,[(0,.s (.vec 0 15)),(1,.s (.int .i64)),(2,.s (.fn 21)),(6,.s (.int .i64)),(7,.s (.int .i64)),(8,.s (.int .i64))],[.vec KDeed 0]⟩,[.fix 0],[⟨.exit 0,⟨63,[(0,.s (.vec 0 15)),(1,.s (.int .i64)),(2,.s (.fn 21)),(6,.s (.int .i64)),(7,.s (.int .i64))],[.vec KDeed 0]⟩,[.fix 0]⟩],st_stbS_Deed_2⟩
theorem r_stbS_Deed_2:RoundOK P t20 nL0 1 (loopAt Tryz.f47 2) l_stbS_Deed_2:=fun d=>by kernel_rfl
def L_stbS_Deed_2:LT:=nL0.add 1 l_stbS_Deed_2
theorem L_stbS_Deed_2_ok:LpK P 1 L_stbS_Deed_2 (bodyOf Tryz.f47):=LpK.a hm t20_ok (nLk _ _ _) r_stbS_Deed_2
def st_stbS_Deed_9 (d:List G):Option (Option Nat × List G) :=
 (bif (leI (gi d 4).int (gi d 1).int) then (bif (inI ((gi d 3).int+(gi d 2).int)) then none else none) else (bif ((Nat.beq (gi d 0).rows.length (gi d 0).rows.length)&&true) then some (some 0,[.l (gi d 0).rows,.i (gi d 1).int,.i (gi d 2).int,.i (gi d 3).int]) else none))
def l_stbS_Deed_9:LSpec:=⟨9,[],⟨63,[(0,.s (.vec 0 15)),(1,.s (.int .i64)),(2,.s (.fn 21)),(6,.s (.int .i64)),(7,.s (.int .i64)),(8,.s (.int .i64))],[.vec KDeed 0]⟩,[.fix 0],[⟨.exit 4,⟨63,[(0,.s (.vec 0 15)),(1,.s (.int .i64)),(2,.s (.fn 21)),(6,.s (.int .i64)),(7,.s (.int .i64))],[.vec KDeed 0]⟩,[.fix 0]⟩],st_stbS_Deed_9⟩
theorem r_stbS_Deed_9:RoundOK P t20 L_stbS_Deed_2 1 (loopAt Tryz.f47 9) l_stbS_Deed_9:=fun d=>by kernel_rfl
def L_stbS_Deed_9:LT:=L_stbS_Deed_2.add 1 l_stbS_Deed_9
theorem L_stbS_Deed_9_ok:LpK P 1 L_stbS_Deed_9 (bodyOf Tryz.f47):=LpK.a hm t20_ok L_stbS_Deed_2_ok r_stbS_Deed_9
def st_stbS_Deed_7 (d:List G):Option (Option Nat × List G) :=
 (bif (ltI (gi d 2).int (gi d 1).int) then (bif (inI (2*(gi d 2).int)) then (loopB ((Nat.beq (gi d 0).rows.length (gi d 0).rows.length)&&true) (LRun st_stbS_Deed_9 [.l (gi d 0).rows,.i (gi d 1).int,.i (gi d 2).int,.i 0,.i (2*(gi d 2).int)]) fun cg4 g4=>(bif (inI ((gi g4 3).int+(gi g4 2).int)) then (bif (ltI ((gi g4 3).int+(gi g4 2).int) (gi g4 1).int) then none else (bif (inI ((gi g4 2).int*2)) then (bif ((Nat.beq (gi g4 0).rows.length (gi g4 0).rows.length)&&true) then some (none,[.l (gi g4 0).rows,.i (gi g4 1).int,.i ((gi g4 2).int*2)]) else none) else none)) else none)) else none) else some (some 0,[.l (gi d 0).rows]))
def l_stbS_Deed_7:LSpec:=⟨7,[],⟨63,[(0,.s (.vec 0 15)),(1,.s (.int .i64)),(2,.s (.fn 21)),(6,.s (.int .i64))],[.vec KDeed 0]⟩,[.fix 0],[⟨.exit 2,⟨63,[],[.vec KDeed 0]⟩,[.fix 0]⟩],st_stbS_Deed_7⟩
theorem r_stbS_Deed_7:RoundOK P t20 L_stbS_Deed_9 1 (loopAt Tryz.f47 7) l_stbS_Deed_7:=fun d=>by kernel_rfl
def L_stbS_Deed_7:LT:=L_stbS_Deed_9.add 1 l_stbS_Deed_7
theorem L_stbS_Deed_7_ok:LpK P 1 L_stbS_Deed_7 (bodyOf Tryz.f47):=LpK.a hm t20_ok L_stbS_Deed_9_ok r_stbS_Deed_7
def F_stbS_Deed (d:List G):Option (List G) :=
 (loopB ((Nat.beq (gi d 0).rows.length (gi d 0).rows.length)&&true) (LRun st_stbS_Deed_2 [.l (gi d 0).rows,.i (gi d 1).int,.i 20,.i 0,.i 20]) fun cg2 g2=>(callB (((Nat.beq (gi g2 0).rows.length (gi g2 0).rows.length)&&true)&&(F_insS_Deed [.l (gi g2 0).rows,.i (gi g2 3).int,.i (gi g2 1).int]).isSome) (F_insS_Deed [.l (gi g2 0).rows,.i (gi g2 3).int,.i (gi g2 1).int]) fun g3=>(loopB ((Nat.beq (gi g2 0).rows.length (gi g3 0).rows.length)&&true) (LRun st_stbS_Deed_7 [.l (gi g3 0).rows,.i (gi g2 1).int,.i (gi g2 2).int]) fun cg5 g5=>some [.l (gi g5 0).rows])))
def s_stbS_Deed:FSpec:=⟨47,[.s (.vec 0 15),.s (.int .i64),.s (.fn 21)],[.vec KDeed 0],[.slot 0],[],[.vec KDeed 0],[.fix 0],[],F_stbS_Deed⟩
theorem b_stbS_Deed:BodyOK P t20 L_stbS_Deed_7 Tryz.f47 s_stbS_Deed:=fun d=>by kernel_rfl
theorem c_stbS_Deed:COK P s_stbS_Deed:=bdC hm t20_ok Tryz.func47 L_stbS_Deed_7_ok b_stbS_Deed
def t21:Tab:=t20.addW s_stbS_Deed
theorem t21_ok:TabOK P t21:=t20_ok.aW c_stbS_Deed

def F_srtS_Deed (d:List G):Option (List G) :=
 (callB (((Nat.beq (gi d 0).rows.length (gi d 0).rows.length)&&true)&&(F_stbS_Deed [.l (gi d 0).rows,.i (((gi d 0).rows.length:Nat):Int)]).isSome) (F_stbS_Deed [.l (gi d 0).rows,.i (((gi d 0).rows.length:Nat):Int)]) fun g1=>some [.l (gi g1 0).rows])
def s_srtS_Deed:FSpec:=⟨20,[.s (.vec 0 15),.s (.fn 21)],[.vec KDeed 0],[.slot 0],[],[.vec KDeed 0],[.fix 0],[],F_srtS_Deed⟩
theorem b_srtS_Deed:BodyOK P t21 nL0 Tryz.f20 s_srtS_Deed:=fun d=>by kernel_rfl
theorem c_srtS_Deed:COK P s_srtS_Deed:=bdC hm t21_ok Tryz.func20 (nLk _ _ _) b_srtS_Deed
def t22:Tab:=t21.addW s_srtS_Deed
theorem t22_ok:TabOK P t22:=t21_ok.aW c_srtS_Deed

def tl_mk_Deeds_28 (d:List G):Option (Option Nat × List G) :=
 (bif ((Nat.beq (gi d 2).rows.length (gi d 2).rows.length)&&(decide (((gi d 2).rows.length+1)≤1048576))) then (bif ((Nat.beq ((gi d 2).rows++([[.s (gi d 5).str,.i (gi d 6).int,.i (gi d 7).int,.i (gi d 8).int,.i (gi d 9).int,.i (gi d 10).int,.s (gi d 11).str,.s (gi d 12).str,.i (gi d 13).int,.i (gi d 14).int,.s (gi d 15).str,.s (gi d 16).str,.s (gi d 17).str,.s (gi d 18).str,.i (gi d 19).int]]:List (List G))).length ((gi d 2).rows++([[.s (gi d 5).str,.i (gi d 6).int,.i (gi d 7).int,.i (gi d 8).int,.i (gi d 9).int,.i (gi d 10).int,.s (gi d 11).str,.s (gi d 12).str,.i (gi d 13).int,.i (gi d 14).int,.s (gi d 15).str,.s (gi d 16).str,.s (gi d 17).str,.s (gi d 18).str,.i (gi d 19).int]]:List (List G))).length)&&true) then some (some 0,[.l (gi d 0).rows,.i (gi d 1).int,.l ((gi d 2).rows++([[.s (gi d 5).str,.i (gi d 6).int,.i (gi d 7).int,.i (gi d 8).int,.i (gi d 9).int,.i (gi d 10).int,.s (gi d 11).str,.s (gi d 12).str,.i (gi d 13).int,.i (gi d 14).int,.s (gi d 15).str,.s (gi d 16).str,.s (gi d 17).str,.s (gi d 18).str,.i (gi d 19).int]]:List (List G))),.l (gi d 3).rows,.i (((gi d 4).int.toNat:Nat):Int),.i (gi d 20).int,.i (gi d 21).int,.i (gi d 22).int]) else none) else none)
def l_mk_Deeds_28c:LSpec:=⟨28,[],⟨115,[(0,.s (.ptr 0 0)),(5,.s (.vec 1 15)),(6,.s (.int .i64)),(7,.s (.map 2)),(8,.s (.ptr 3 0)),(10,.s (.int .i64)),(11,.s (.int .i64))],[.box [.list [.int .i64],.int .i64],.vec KDeed 0,.map (.one (.str)) (.one (.int .i64)),.box [.str,.int .i64,.int .i64,.int .i64,.int .i64,.int .i64,.str,.str,.int .i64,.int .i64,.str,.str,.str,.str,.int .i64]]⟩,[.fix 0,.slot 5,.slot 7,.slot 8],[⟨.normal,⟨115,[(0,.s (.ptr 0 0)),(5,.s (.vec 1 15)),(6,.s (.int .i64)),(7,.s (.map 2)),(10,.s (.int .i64)),(11,.s (.int .i64))],[.box [.list [.int .i64],.int .i64],.vec KDeed 0,.map (.one (.str)) (.one (.int .i64))]⟩,[.fix 0,.slot 5,.slot 7]⟩],tl_mk_Deeds_28⟩
theorem r_mk_Deeds_28c:CutOK P t22 nL0 1 (cutAt Tryz.f4 28) l_mk_Deeds_28c:=fun d=>by kernel_rfl
def L_mk_Deeds_28c:LT:=nL0.addCut 1 l_mk_Deeds_28c
theorem L_mk_Deeds_28c_ok:LpK P 1 L_mk_Deeds_28c (bodyOf Tryz.f4):=LpK.aC hm t22_ok (nLk _ _ _) r_mk_Deeds_28c
def tl_mk_Deeds_19 (d:List G):Option (Option Nat × List G) :=
 (callF (F_mk_Flip [.l (gi d 0).rows,.i (gi d 1).int,.i 100]) fun g6=>(bif (gi g6 2).bool then (callF (F_mk_Next [.l (gi g6 0).rows,.i (gi g6 1).int,.i 4]) fun g7=>(bif ((gi g7 2).int==0) then (callF (F_mk_Some [.l (gi g7 0).rows,.i (gi g7 1).int,.l [[.s (⟨#[]⟩:ByteArray)],[.s (⟨#[115,97]⟩:ByteArray)]]]) fun g8=>(callF (F_mk_Odd [.l (gi g8 0).rows,.i (gi g8 1).int,.i 1,.i 9]) fun g9=>(loopB ((Nat.beq (gi d 2).rows.length (gi d 2).rows.length)&&true) (cutR (tl_mk_Deeds_28 [.l (gi g9 0).rows,.i (gi g9 1).int,.l (gi d 2).rows,.l (gi d 3).rows,.i (((gi d 4).int.toNat:Nat):Int),.s (gi g8 2).str,.i (gi g9 2).int,.i (gi d 7).int,.i (gi d 8).int,.i (gi d 9).int,.i (gi d 10).int,.s (gi d 11).str,.s (gi d 12).str,.i (gi d 13).int,.i (gi d 14).int,.s (gi d 15).str,.s (gi d 16).str,.s (gi d 17).str,.s (gi d 18).str,.i (gi d 19).int,.i (gi d 20).int,.i (gi d 21).int,.i (gi d 22).int])) fun cg10 g10=>(bif ((Nat.beq (gi g10 2).rows.length (gi g10 2).rows.length)&&true) then some (some 0,[.l (gi g10 0).rows,.i (gi g10 1).int,.l (gi g10 2).rows,.l (gi g10 3).rows,.i (((gi g10 4).int.toNat:Nat):Int),.i (gi g10 5).int,.i (gi g10 6).int,.i (gi g10 7).int]) else none)))) else (bif ((gi g7 2).int==1) then (callF (F_mk_Odd [.l (gi g7 0).rows,.i (gi g7 1).int,.i 1,.i 5]) fun g11=>(loopB ((Nat.beq (gi d 2).rows.length (gi d 2).rows.length)&&true) (cutR (tl_mk_Deeds_28 [.l (gi g11 0).rows,.i (gi g11 1).int,.l (gi d 2).rows,.l (gi d 3).rows,.i (((gi d 4).int.toNat:Nat):Int),.s (gi d 5).str,.i (gi d 6).int,.i (gi d 7).int,.i (gi g11 2).int,.i (gi d 9).int,.i (gi d 10).int,.s (gi d 11).str,.s (gi d 12).str,.i (gi d 13).int,.i (gi d 14).int,.s (gi d 15).str,.s (gi d 16).str,.s (gi d 17).str,.s (gi d 18).str,.i (gi d 19).int,.i (gi d 20).int,.i (gi d 21).int,.i (gi d 22).int])) fun cg12 g12=>(bif ((Nat.beq (gi g12 2).rows.length (gi g12 2).rows.length)&&true) then some (some 0,[.l (gi g12 0).rows,.i (gi g12 1).int,.l (gi g12 2).rows,.l (gi g12 3).rows,.i (((gi g12 4).int.toNat:Nat):Int),.i (gi g12 5).int,.i (gi g12 6).int,.i (gi g12 7).int]) else none))) else (bif ((gi g7 2).int==2) then (callF (F_mk_Some [.l (gi g7 0).rows,.i (gi g7 1).int,.l [[.s (⟨#[]⟩:ByteArray)],[.s (⟨#[98,50,48]⟩:ByteArray)]]]) fun g13=>(callF (F_mk_Some [.l (gi g13 0).rows,.i (gi g13 1).int,.l [[.s (⟨#[]⟩:ByteArray)],[.s (⟨#[115,97]⟩:ByteArray)]]]) fun g14=>(loopB ((Nat.beq (gi d 2).rows.length (gi d 2).rows.length)&&true) (cutR (tl_mk_Deeds_28 [.l (gi g14 0).rows,.i (gi g14 1).int,.l (gi d 2).rows,.l (gi d 3).rows,.i (((gi d 4).int.toNat:Nat):Int),.s (gi d 5).str,.i (gi d 6).int,.i (gi d 7).int,.i (gi d 8).int,.i (gi d 9).int,.i (gi d 10).int,.s (gi d 11).str,.s (gi d 12).str,.i (gi d 13).int,.i (gi d 14).int,.s (gi d 15).str,.s (gi d 16).str,.s (gi g13 2).str,.s (gi g14 2).str,.i (gi d 19).int,.i (gi d 20).int,.i (gi d 21).int,.i (gi d 22).int])) fun cg15 g15=>(bif ((Nat.beq (gi g15 2).rows.length (gi g15 2).rows.length)&&true) then some (some 0,[.l (gi g15 0).rows,.i (gi g15 1).int,.l (gi g15 2).rows,.l (gi g15 3).rows,.i (((gi g15 4).int.toNat:Nat):Int),.i (gi g15 5).int,.i (gi g15 6).int,.i (gi g15 7).int]) else none)))) else (callF (F_mk_Odd [.l (gi g7 0).rows,.i (gi g7 1).int,.i 1,.i 99999]) fun g16=>(callF (F_mk_Odd [.l (gi g16 0).rows,.i (gi g16 1).int,.i 0,.i 5]) fun g17=>(loopB ((Nat.beq (gi d 2).rows.length (gi d 2).rows.length)&&true) (cutR (tl_mk_Deeds_28 [.l (gi g17 0).rows,.i (gi g17 1).int,.l (gi d 2).rows,.l (gi d 3).rows,.i (((gi d 4).int.toNat:Nat):Int),.s (gi d 5).str,.i (gi d 6).int,.i (gi d 7).int,.i (gi d 8).int,.i (gi d 9).int,.i (gi d 10).int,.s (gi d 11).str,.s (gi d 12).str,.i (gi g16 2).int,.i (gi d 14).int,.s (gi d 15).str,.s (gi d 16).str,.s (gi d 17).str,.s (gi d 18).str,.i (gi g17 2).int,.i (gi d 20).int,.i (gi d 21).int,.i (gi d 22).int])) fun cg18 g18=>(bif ((Nat.beq (gi g18 2).rows.length (gi g18 2).rows.length)&&true) then some (some 0,[.l (gi g18 0).rows,.i (gi g18 1).int,.l (gi g18 2).rows,.l (gi g18 3).rows,.i (((gi g18 4).int.toNat:Nat):Int),.i (gi g18 5).int,.i (gi g18 6).int,.i (gi g18 7).int]) else none)))))))) else (loopB ((Nat.beq (gi d 2).rows.length (gi d 2).rows.length)&&true) (cutR (tl_mk_Deeds_28 [.l (gi g6 0).rows,.i (gi g6 1).int,.l (gi d 2).rows,.l (gi d 3).rows,.i (((gi d 4).int.toNat:Nat):Int),.s (gi d 5).str,.i (gi d 6).int,.i (gi d 7).int,.i (gi d 8).int,.i (gi d 9).int,.i (gi d 10).int,.s (gi d 11).str,.s (gi d 12).str,.i (gi d 13).int,.i (gi d 14).int,.s (gi d 15).str,.s (gi d 16).str,.s (gi d 17).str,.s (gi d 18).str,.i (gi d 19).int,.i (gi d 20).int,.i (gi d 21).int,.i (gi d 22).int])) fun cg19 g19=>(bif ((Nat.beq (gi g19 2).rows.length (gi g19 2).rows.length)&&true) then some (some 0,[.l (gi g19 0).rows,.i (gi g19 1).int,.l (gi g19 2).rows,.l (gi g19 3).rows,.i (((gi g19 4).int.toNat:Nat):Int),.i (gi g19 5).int,.i (gi g19 6).int,.i (gi g19 7).int]) else none))))
def l_mk_Deeds_19c:LSpec:=⟨19,[],⟨115,[(0,.s (.ptr 0 0)),(5,.s (.vec 1 15)),(6,.s (.int .i64)),(7,.s (.map 2)),(8,.s (.ptr 3 0)),(10,.s (.int .i64)),(11,.s (.int .i64))],[.box [.list [.int .i64],.int .i64],.vec KDeed 0,.map (.one (.str)) (.one (.int .i64)),.box [.str,.int .i64,.int .i64,.int .i64,.int .i64,.int .i64,.str,.str,.int .i64,.int .i64,.str,.str,.str,.str,.int .i64]]⟩,[.fix 0,.slot 5,.slot 7,.slot 8],[⟨.normal,⟨115,[(0,.s (.ptr 0 0)),(5,.s (.vec 1 15)),(6,.s (.int .i64)),(7,.s (.map 2)),(10,.s (.int .i64)),(11,.s (.int .i64))],[.box [.list [.int .i64],.int .i64],.vec KDeed 0,.map (.one (.str)) (.one (.int .i64))]⟩,[.fix 0,.slot 5,.slot 7]⟩],tl_mk_Deeds_19⟩
theorem r_mk_Deeds_19c:CutOK P t22 L_mk_Deeds_28c 1 (cutAt Tryz.f4 19) l_mk_Deeds_19c:=fun d=>by kernel_rfl
def L_mk_Deeds_19c:LT:=L_mk_Deeds_28c.addCut 1 l_mk_Deeds_19c
theorem L_mk_Deeds_19c_ok:LpK P 1 L_mk_Deeds_19c (bodyOf Tryz.f4):=LpK.aC hm t22_ok L_mk_Deeds_28c_ok r_mk_Deeds_19c
def tl_mk_Deeds_18 (d:List G):Option (Option Nat × List G) :=
 (bif (gi d 23).bool then (callF (F_mk_Range [.l (gi d 0).rows,.i (gi d 1).int,.i 1,.i 7]) fun g23=>(bif ((Nat.beq (gi d 2).rows.length (gi d 2).rows.length)&&true) then some (some 0,[.l (gi g23 0).rows,.i (gi g23 1).int,.l (gi d 2).rows,.l (gi d 3).rows,.i (((gi d 4).int.toNat:Nat):Int),.s (gi d 5).str,.i (gi d 6).int,.i (gi d 7).int,.i (gi d 8).int,.i (gi d 9).int,.i (gi d 10).int,.s (gi d 11).str,.s (gi d 12).str,.i (gi g23 2).int,.i (gi d 14).int,.s (gi d 15).str,.s (gi d 16).str,.s (gi d 17).str,.s (gi d 18).str,.i (gi d 19).int,.i (gi d 20).int,.i (gi d 21).int,.i (gi d 22).int]) else none)) else (callF (F_mk_Some [.l (gi d 0).rows,.i (gi d 1).int,.l [[.s (⟨#[115,97]⟩:ByteArray)],[.s (⟨#[115,97]⟩:ByteArray)],[.s (⟨#[115,98]⟩:ByteArray)]]]) fun g24=>(callF (F_mk_Range [.l (gi g24 0).rows,.i (gi g24 1).int,.i 1,.i (if (gi (mget [.str] (gi d 3).rows [.s (⟨#[115,97]⟩:ByteArray)] [.i 0]) 0).int>1 then (gi (mget [.str] (gi d 3).rows [.s (⟨#[115,97]⟩:ByteArray)] [.i 0]) 0).int else 1)]) fun g25=>(bif ((Nat.beq (gi d 2).rows.length (gi d 2).rows.length)&&true) then some (some 0,[.l (gi g25 0).rows,.i (gi g25 1).int,.l (gi d 2).rows,.l (gi d 3).rows,.i (((gi d 4).int.toNat:Nat):Int),.s (gi d 5).str,.i (gi d 6).int,.i (gi d 7).int,.i (gi d 8).int,.i (gi d 9).int,.i (gi d 10).int,.s (gi d 11).str,.s (gi d 12).str,.i (gi d 13).int,.i (gi d 14).int,.s (gi d 15).str,.s (gi d 16).str,.s (gi d 17).str,.s (gi g24 2).str,.i (gi g25 2).int,.i (gi d 20).int,.i (gi d 21).int,.i (gi d 22).int]) else none))))
def l_mk_Deeds_18c:LSpec:=⟨18,[],⟨115,[(0,.s (.ptr 0 0)),(5,.s (.vec 1 15)),(6,.s (.int .i64)),(7,.s (.map 2)),(8,.s (.ptr 3 0)),(10,.s (.int .i64)),(11,.s (.int .i64)),(65,.s (.bool))],[.box [.list [.int .i64],.int .i64],.vec KDeed 0,.map (.one (.str)) (.one (.int .i64)),.box [.str,.int .i64,.int .i64,.int .i64,.int .i64,.int .i64,.str,.str,.int .i64,.int .i64,.str,.str,.str,.str,.int .i64]]⟩,[.fix 0,.slot 5,.slot 7,.slot 8],[⟨.normal,⟨115,[(0,.s (.ptr 0 0)),(5,.s (.vec 1 15)),(6,.s (.int .i64)),(7,.s (.map 2)),(8,.s (.ptr 3 0)),(10,.s (.int .i64)),(11,.s (.int .i64))],[.box [.list [.int .i64],.int .i64],.vec KDeed 0,.map (.one (.str)) (.one (.int .i64)),.box [.str,.int .i64,.int .i64,.int .i64,.int .i64,.int .i64,.str,.str,.int .i64,.int .i64,.str,.str,.str,.str,.int .i64]]⟩,[.fix 0,.slot 5,.slot 7,.slot 8]⟩],tl_mk_Deeds_18⟩
theorem r_mk_Deeds_18c:CutOK P t22 L_mk_Deeds_19c 1 (cutAt Tryz.f4 18) l_mk_Deeds_18c:=fun d=>by kernel_rfl
def L_mk_Deeds_18c:LT:=L_mk_Deeds_19c.addCut 1 l_mk_Deeds_18c
theorem L_mk_Deeds_18c_ok:LpK P 1 L_mk_Deeds_18c (bodyOf Tryz.f4):=LpK.aC hm t22_ok L_mk_Deeds_19c_ok r_mk_Deeds_18c
def st_mk_Deeds_5 (d:List G):Option (Option Nat × List G) :=
 (bif (ltI (gi d 7).int (gi d 6).int) then (callF (F_mk_Pick [.l (gi d 0).rows,.i (gi d 1).int,.l [[.i 0],[.i 1],[.i 5]]]) fun g1=>(bif (inI ((gi d 5).int+(gi g1 2).int)) then (callF (F_mk_Some [.l (gi g1 0).rows,.i (gi g1 1).int,.l [[.s (⟨#[115,97]⟩:ByteArray)],[.s (⟨#[115,97]⟩:ByteArray)],[.s (⟨#[115,98]⟩:ByteArray)],[.s (⟨#[115,99]⟩:ByteArray)]]]) fun g2=>(callF (F_mk_Pick [.l (gi g2 0).rows,.i (gi g2 1).int,.l [[.i 1],[.i 1],[.i 1],[.i 1],[.i 2],[.i 3],[.i 3],[.i 4],[.i 5]]]) fun g3=>(bif (inI ((gi (mget [.str] (gi d 3).rows [.s (gi g2 2).str] [.i 0]) 0).int+1)) then (bif ((gi g3 2).int==1) then (bif (inI (((gi d 5).int+(gi g1 2).int)-3)) then (callF (F_mk_Range [.l (gi g3 0).rows,.i (gi g3 1).int,.i (if (((gi d 5).int+(gi g1 2).int)-3)>0 then (((gi d 5).int+(gi g1 2).int)-3) else 0),.i ((gi d 5).int+(gi g1 2).int)]) fun g4=>(callF (F_mk_SomeContact [.l (gi g4 0).rows,.i (gi g4 1).int,.i (gi g4 2).int]) fun g5=>(loopB ((Nat.beq (gi d 2).rows.length (gi d 2).rows.length)&&true) (cutR (tl_mk_Deeds_19 [.l (gi g5 0).rows,.i (gi g5 1).int,.l (gi d 2).rows,.l (mput [.str] (gi d 3).rows [.s (gi g2 2).str] [.i ((gi (mget [.str] (gi d 3).rows [.s (gi g2 2).str] [.i 0]) 0).int+1)] (gi d 4).int.toNat),.i (((mclk [.str] (gi d 3).rows [.s (gi g2 2).str] (gi d 4).int.toNat):Nat):Int),.s (gi g2 2).str,.i (gi (mget [.str] (mput [.str] (gi d 3).rows [.s (gi g2 2).str] [.i ((gi (mget [.str] (gi d 3).rows [.s (gi g2 2).str] [.i 0]) 0).int+1)] (gi d 4).int.toNat) [.s (gi g2 2).str] [.i 0]) 0).int,.i ((gi d 5).int+(gi g1 2).int),.i (gi g3 2).int,.i (gi (gi g5 2).row 0).int,.i (gi (gi g5 2).row 1).int,.s (gi (gi g5 2).row 2).str,.s (gi (gi g5 2).row 3).str,.i (gi (gi g5 2).row 4).int,.i (gi (gi g5 2).row 5).int,.s (gi (gi g5 2).row 6).str,.s (gi (gi g5 2).row 7).str,.s (⟨#[]⟩:ByteArray),.s (⟨#[]⟩:ByteArray),.i 0,.i ((gi d 5).int+(gi g1 2).int),.i (gi d 6).int,.i (gi d 7).int])) fun cg20 g20=>(bif (inI ((gi g20 7).int+1)) then (bif ((Nat.beq (gi g20 2).rows.length (gi g20 2).rows.length)&&true) then some (none,[.l (gi g20 0).rows,.i (gi g20 1).int,.l (gi g20 2).rows,.l (gi g20 3).rows,.i (((gi g20 4).int.toNat:Nat):Int),.i (gi g20 5).int,.i (gi g20 6).int,.i ((gi g20 7).int+1)]) else none) else none)))) else none) else (bif ((gi g3 2).int==2) then (callF (F_mk_Some [.l (gi g3 0).rows,.i (gi g3 1).int,.l [[.s (⟨#[98,50,48]⟩:ByteArray)],[.s (⟨#[98,52,48]⟩:ByteArray)]]]) fun g21=>(loopB ((Nat.beq (gi d 2).rows.length (gi d 2).rows.length)&&true) (cutR (tl_mk_Deeds_19 [.l (gi g21 0).rows,.i (gi g21 1).int,.l (gi d 2).rows,.l (mput [.str] (gi d 3).rows [.s (gi g2 2).str] [.i ((gi (mget [.str] (gi d 3).rows [.s (gi g2 2).str] [.i 0]) 0).int+1)] (gi d 4).int.toNat),.i (((mclk [.str] (gi d 3).rows [.s (gi g2 2).str] (gi d 4).int.toNat):Nat):Int),.s (gi g2 2).str,.i (gi (mget [.str] (mput [.str] (gi d 3).rows [.s (gi g2 2).str] [.i ((gi (mget [.str] (gi d 3).rows [.s (gi g2 2).str] [.i 0]) 0).int+1)] (gi d 4).int.toNat) [.s (gi g2 2).str] [.i 0]) 0).int,.i ((gi d 5).int+(gi g1 2).int),.i (gi g3 2).int,.i 0,.i 0,.s (⟨#[]⟩:ByteArray),.s (⟨#[]⟩:ByteArray),.i 0,.i 0,.s (⟨#[]⟩:ByteArray),.s (⟨#[]⟩:ByteArray),.s (gi g21 2).str,.s (⟨#[]⟩:ByteArray),.i 0,.i ((gi d 5).int+(gi g1 2).int),.i (gi d 6).int,.i (gi d 7).int])) fun cg22 g22=>(bif (inI ((gi g22 7).int+1)) then (bif ((Nat.beq (gi g22 2).rows.length (gi g22 2).rows.length)&&true) then some (none,[.l (gi g22 0).rows,.i (gi g22 1).int,.l (gi g22 2).rows,.l (gi g22 3).rows,.i (((gi g22 4).int.toNat:Nat):Int),.i (gi g22 5).int,.i (gi g22 6).int,.i ((gi g22 7).int+1)]) else none) else none))) else (bif ((gi g3 2).int==3) then (loopB ((Nat.beq (gi d 2).rows.length (gi d 2).rows.length)&&true) (cutR (tl_mk_Deeds_18 [.l (gi g3 0).rows,.i (gi g3 1).int,.l (gi d 2).rows,.l (mput [.str] (gi d 3).rows [.s (gi g2 2).str] [.i ((gi (mget [.str] (gi d 3).rows [.s (gi g2 2).str] [.i 0]) 0).int+1)] (gi d 4).int.toNat),.i (((mclk [.str] (gi d 3).rows [.s (gi g2 2).str] (gi d 4).int.toNat):Nat):Int),.s (gi g2 2).str,.i (gi (mget [.str] (mput [.str] (gi d 3).rows [.s (gi g2 2).str] [.i ((gi (mget [.str] (gi d 3).rows [.s (gi g2 2).str] [.i 0]) 0).int+1)] (gi d 4).int.toNat) [.s (gi g2 2).str] [.i 0]) 0).int,.i ((gi d 5).int+(gi g1 2).int),.i (gi g3 2).int,.i 0,.i 0,.s (⟨#[]⟩:ByteArray),.s (⟨#[]⟩:ByteArray),.i 0,.i 0,.s (⟨#[]⟩:ByteArray),.s (⟨#[]⟩:ByteArray),.s (⟨#[]⟩:ByteArray),.s (⟨#[]⟩:ByteArray),.i 0,.i ((gi d 5).int+(gi g1 2).int),.i (gi d 6).int,.i (gi d 7).int,.t ((gi g3 2).int==3)])) fun cg26 g26=>(loopB ((Nat.beq (gi g26 2).rows.length (gi g26 2).rows.length)&&true) (cutR (tl_mk_Deeds_19 [.l (gi g26 0).rows,.i (gi g26 1).int,.l (gi g26 2).rows,.l (gi g26 3).rows,.i (((gi g26 4).int.toNat:Nat):Int),.s (gi g26 5).str,.i (gi g26 6).int,.i (gi g26 7).int,.i (gi g26 8).int,.i (gi g26 9).int,.i (gi g26 10).int,.s (gi g26 11).str,.s (gi g26 12).str,.i (gi g26 13).int,.i (gi g26 14).int,.s (gi g26 15).str,.s (gi g26 16).str,.s (gi g26 17).str,.s (gi g26 18).str,.i (gi g26 19).int,.i (gi g26 20).int,.i (gi g26 21).int,.i (gi g26 22).int])) fun cg27 g27=>(bif (inI ((gi g27 7).int+1)) then (bif ((Nat.beq (gi g27 2).rows.length (gi g27 2).rows.length)&&true) then some (none,[.l (gi g27 0).rows,.i (gi g27 1).int,.l (gi g27 2).rows,.l (gi g27 3).rows,.i (((gi g27 4).int.toNat:Nat):Int),.i (gi g27 5).int,.i (gi g27 6).int,.i ((gi g27 7).int+1)]) else none) else none))) else (loopB ((Nat.beq (gi d 2).rows.length (gi d 2).rows.length)&&true) (cutR (tl_mk_Deeds_18 [.l (gi g3 0).rows,.i (gi g3 1).int,.l (gi d 2).rows,.l (mput [.str] (gi d 3).rows [.s (gi g2 2).str] [.i ((gi (mget [.str] (gi d 3).rows [.s (gi g2 2).str] [.i 0]) 0).int+1)] (gi d 4).int.toNat),.i (((mclk [.str] (gi d 3).rows [.s (gi g2 2).str] (gi d 4).int.toNat):Nat):Int),.s (gi g2 2).str,.i (gi (mget [.str] (mput [.str] (gi d 3).rows [.s (gi g2 2).str] [.i ((gi (mget [.str] (gi d 3).rows [.s (gi g2 2).str] [.i 0]) 0).int+1)] (gi d 4).int.toNat) [.s (gi g2 2).str] [.i 0]) 0).int,.i ((gi d 5).int+(gi g1 2).int),.i (gi g3 2).int,.i 0,.i 0,.s (⟨#[]⟩:ByteArray),.s (⟨#[]⟩:ByteArray),.i 0,.i 0,.s (⟨#[]⟩:ByteArray),.s (⟨#[]⟩:ByteArray),.s (⟨#[]⟩:ByteArray),.s (⟨#[]⟩:ByteArray),.i 0,.i ((gi d 5).int+(gi g1 2).int),.i (gi d 6).int,.i (gi d 7).int,.t ((gi g3 2).int==4)])) fun cg28 g28=>(loopB ((Nat.beq (gi g28 2).rows.length (gi g28 2).rows.length)&&true) (cutR (tl_mk_Deeds_19 [.l (gi g28 0).rows,.i (gi g28 1).int,.l (gi g28 2).rows,.l (gi g28 3).rows,.i (((gi g28 4).int.toNat:Nat):Int),.s (gi g28 5).str,.i (gi g28 6).int,.i (gi g28 7).int,.i (gi g28 8).int,.i (gi g28 9).int,.i (gi g28 10).int,.s (gi g28 11).str,.s (gi g28 12).str,.i (gi g28 13).int,.i (gi g28 14).int,.s (gi g28 15).str,.s (gi g28 16).str,.s (gi g28 17).str,.s (gi g28 18).str,.i (gi g28 19).int,.i (gi g28 20).int,.i (gi g28 21).int,.i (gi g28 22).int])) fun cg29 g29=>(bif (inI ((gi g29 7).int+1)) then (bif ((Nat.beq (gi g29 2).rows.length (gi g29 2).rows.length)&&true) then some (none,[.l (gi g29 0).rows,.i (gi g29 1).int,.l (gi g29 2).rows,.l (gi g29 3).rows,.i (((gi g29 4).int.toNat:Nat):Int),.i (gi g29 5).int,.i (gi g29 6).int,.i ((gi g29 7).int+1)]) else none) else none)))))) else none))) else none)) else (bif ((Nat.beq (gi d 2).rows.length (gi d 2).rows.length)&&true) then some (some 0,[.l (gi d 0).rows,.i (gi d 1).int,.l (gi d 2).rows]) else none))
def l_mk_Deeds_5:LSpec:=⟨5,[(5,KDeed)],⟨115,[(0,.s (.ptr 0 0)),(5,.s (.vec 1 15)),(6,.s (.int .i64)),(7,.s (.map 2)),(10,.s (.int .i64)),(11,.s (.int .i64))],[.box [.list [.int .i64],.int .i64],.vec KDeed 0,.map (.one (.str)) (.one (.int .i64))]⟩,[.fix 0,.slot 5,.slot 7],[⟨.exit 0,⟨115,[(5,.s (.vec 1 15))],[.box [.list [.int .i64],.int .i64],.vec KDeed 0]⟩,[.fix 0,.slot 5]⟩],st_mk_Deeds_5⟩
theorem r_mk_Deeds_5:RoundOK P t22 L_mk_Deeds_18c 1 (loopAt Tryz.f4 5) l_mk_Deeds_5:=fun d=>by kernel_rfl
def L_mk_Deeds_5:LT:=L_mk_Deeds_18c.add 1 l_mk_Deeds_5
theorem L_mk_Deeds_5_ok:LpK P 1 L_mk_Deeds_5 (bodyOf Tryz.f4):=LpK.a hm t22_ok L_mk_Deeds_18c_ok r_mk_Deeds_5
def F_mk_Deeds (d:List G):Option (List G) :=
 (loopB true (LRun st_mk_Deeds_5 [.l (gi d 0).rows,.i (gi d 1).int,.l [],.l [],.i 0,.i 0,.i (gi d 2).int,.i 0]) fun cg30 g30=>(callB (((Nat.beq (gi g30 2).rows.length (gi g30 2).rows.length)&&true)&&(F_srtS_Deed [.l (gi g30 2).rows]).isSome) (F_srtS_Deed [.l (gi g30 2).rows]) fun g31=>(bif ((Nat.beq (gi g30 2).rows.length (gi g31 0).rows.length)&&true) then some [.l (gi g30 0).rows,.i (gi g30 1).int,.l (gi g31 0).rows] else none)))
def s_mk_Deeds:FSpec:=⟨4,[.s (.ptr 0 0),.s (.int .i64)],[.box [.list [.int .i64],.int .i64]],[.slot 0],[.s (.list KDeed)],[.box [.list [.int .i64],.int .i64]],[.fix 0],[],F_mk_Deeds⟩
theorem b_mk_Deeds:BodyOK P t22 L_mk_Deeds_5 Tryz.f4 s_mk_Deeds:=fun d=>by kernel_rfl
theorem c_mk_Deeds:COK P s_mk_Deeds:=bdC hm t22_ok Tryz.func4 L_mk_Deeds_5_ok b_mk_Deeds
def t23:Tab:=t22.addW s_mk_Deeds
theorem t23_ok:TabOK P t23:=t22_ok.aW c_mk_Deeds

def F_r2_in (d:List G):Option (List G) :=
 (bif (leI (gi d 1).int (gi d 0).int) then some [.t (leI (gi d 0).int (gi d 2).int)] else some [.t false])
def s_r2_in:FSpec:=⟨57,[.s (.int .i64),.s (.int .i64),.s (.int .i64)],[],[],[.s (.bool)],[],[],[],F_r2_in⟩
theorem b_r2_in:BodyOK P t23 nL0 Tryz.f57 s_r2_in:=fun d=>by kernel_rfl
theorem c_r2_in:COK P s_r2_in:=bdC hm t23_ok Tryz.func57 (nLk _ _ _) b_r2_in
def t24:Tab:=t23.addP s_r2_in
theorem t24_ok:TabOK P t24:=t23_ok.aP c_r2_in

def st_r2_only_2 (d:List G):Option (Option Nat × List G) :=
 (bif (ltI (gi d 3).int (gi d 2).int) then (bif ((nnI (gi d 3).int)&&(ltI (gi d 3).int (((gi d 0).str.size:Nat):Int))) then (callF (F_strings_IndexByte [.s (gi d 1).str,.i (((gi d 0).str.data.toList.getD (((gi d 3).int).toNat) 0).toNat:Int)]) fun g1=>(bif (ltI (gi g1 0).int 0) then some (some 0,[.t false]) else (bif (inI ((gi d 3).int+1)) then some (none,[.s (gi d 0).str,.s (gi d 1).str,.i (gi d 2).int,.i ((gi d 3).int+1)]) else none))) else none) else some (some 1,[]))
def l_r2_only_2:LSpec:=⟨2,[],⟨18,[(0,.s (.str)),(1,.s (.str)),(7,.s (.int .i64)),(8,.s (.int .i64))],[]⟩,[],[⟨.ret,⟨18,[(4,.s (.bool))],[]⟩,[]⟩,⟨.exit 0,⟨18,[],[]⟩,[]⟩],st_r2_only_2⟩
theorem r_r2_only_2:RoundOK P t24 nL0 0 (loopAt Tryz.f76 2) l_r2_only_2:=fun d=>by kernel_rfl
def L_r2_only_2:LT:=nL0.add 0 l_r2_only_2
theorem L_r2_only_2_ok:LpK P 0 L_r2_only_2 (bodyOf Tryz.f76):=LpK.a hm t24_ok (nLk _ _ _) r_r2_only_2
def F_r2_only (d:List G):Option (List G) :=
 (loopB true (LRun st_r2_only_2 [.s (gi d 0).str,.s (gi d 1).str,.i (((gi d 0).str.size:Nat):Int),.i 0]) fun cg2 g2=>(bif Nat.beq cg2 0 then some [.t (gi g2 0).bool] else some [.t true]))
def s_r2_only:FSpec:=⟨76,[.s (.str),.s (.str)],[],[],[.s (.bool)],[],[],[],F_r2_only⟩
theorem b_r2_only:BodyOK P t24 L_r2_only_2 Tryz.f76 s_r2_only:=fun d=>by kernel_rfl
theorem c_r2_only:COK P s_r2_only:=bdC hm t24_ok Tryz.func76 L_r2_only_2_ok b_r2_only
def t25:Tab:=t24.addP s_r2_only
theorem t25_ok:TabOK P t25:=t24_ok.aP c_r2_only

def F_r2_Key (d:List G):Option (List G) :=
 (callF (F_r2_in [.i (((gi d 0).str.size:Nat):Int),.i 1,.i 40]) fun g1=>(bif (gi g1 0).bool then (bif (leI 1 (((gi d 0).str.size:Nat):Int)) then (callF (F_r2_only [.s ((gi d 0).str.extract 0 1),.s (⟨#[97,98,99,100,101,102,103,104,105,106,107,108,109,110,111,112,113,114,115,116,117,118,119,120,121,122]⟩:ByteArray)]) fun g2=>(bif (gi g2 0).bool then (callF (F_r2_only [.s (gi d 0).str,.s (⟨#[97,98,99,100,101,102,103,104,105,106,107,108,109,110,111,112,113,114,115,116,117,118,119,120,121,122,48,49,50,51,52,53,54,55,56,57,45,95]⟩:ByteArray)]) fun g3=>some [.t (gi g3 0).bool]) else some [.t false])) else none) else some [.t false]))
def s_r2_Key:FSpec:=⟨56,[.s (.str)],[],[],[.s (.bool)],[],[],[],F_r2_Key⟩
theorem b_r2_Key:BodyOK P t25 nL0 Tryz.f56 s_r2_Key:=fun d=>by kernel_rfl
theorem c_r2_Key:COK P s_r2_Key:=bdC hm t25_ok Tryz.func56 (nLk _ _ _) b_r2_Key
def t26:Tab:=t25.addP s_r2_Key
theorem t26_ok:TabOK P t26:=t25_ok.aP c_r2_Key

def F_r2_Moment (d:List G):Option (List G) :=
 (callF (F_r2_in [.i (gi d 0).int,.i 0,.i 345686399999]) fun g1=>some [.t (gi g1 0).bool])
def s_r2_Moment:FSpec:=⟨58,[.s (.int .i64)],[],[],[.s (.bool)],[],[],[],F_r2_Moment⟩
theorem b_r2_Moment:BodyOK P t26 nL0 Tryz.f58 s_r2_Moment:=fun d=>by kernel_rfl
theorem c_r2_Moment:COK P s_r2_Moment:=bdC hm t26_ok Tryz.func58 (nLk _ _ _) b_r2_Moment
def t27:Tab:=t26.addP s_r2_Moment
theorem t27_ok:TabOK P t27:=t26_ok.aP c_r2_Moment

def F_stringslite_Index (d:List G):Option (List G) :=
 idx1F d
def s_stringslite_Index:FSpec:=⟨132,[.s (.str),.s (.str)],[],[],[.s (.int .i64)],[],[],[],F_stringslite_Index⟩
theorem c_stringslite_Index:∀ d r,F_stringslite_Index d=some r→ACallX P 132 (s_stringslite_Index.args0 d) (denH (s_stringslite_Index.H0 d)) (s_stringslite_Index.out r) (denH (s_stringslite_Index.H1 r)):=fun d r h=>index_call Tryz.laysSlIndex d r h
def t28:Tab:=t27.addP s_stringslite_Index
theorem t28_ok:TabOK P t28:=t27_ok.aP c_stringslite_Index

def F_stringslite_Cut (d:List G):Option (List G) :=
 (callF (F_stringslite_Index [.s (gi d 0).str,.s (gi d 1).str]) fun g1=>(bif (leI 0 (gi g1 0).int) then (bif ((nnI (gi g1 0).int)&&(leI (gi g1 0).int (((gi d 0).str.size:Nat):Int))) then (bif (inI ((gi g1 0).int+(((gi d 1).str.size:Nat):Int))) then (bif ((nnI ((gi g1 0).int+(((gi d 1).str.size:Nat):Int)))&&(leI ((gi g1 0).int+(((gi d 1).str.size:Nat):Int)) (((gi d 0).str.size:Nat):Int))) then some [.s ((gi d 0).str.extract 0 ((gi g1 0).int).toNat),.s ((gi d 0).str.extract ((gi g1 0).int+(((gi d 1).str.size:Nat):Int)).toNat (gi d 0).str.size),.t true] else none) else none) else none) else some [.s (gi d 0).str,.s (⟨#[]⟩:ByteArray),.t false]))
def s_stringslite_Cut:FSpec:=⟨101,[.s (.str),.s (.str)],[],[],[.s (.str),.s (.str),.s (.bool)],[],[],[],F_stringslite_Cut⟩
theorem b_stringslite_Cut:BodyOK P t28 nL0 Tryz.f101 s_stringslite_Cut:=fun d=>by kernel_rfl
theorem c_stringslite_Cut:COK P s_stringslite_Cut:=bdC hm t28_ok Tryz.func101 (nLk _ _ _) b_stringslite_Cut
def t29:Tab:=t28.addP s_stringslite_Cut
theorem t29_ok:TabOK P t29:=t28_ok.aP c_stringslite_Cut

def F_strings_Cut (d:List G):Option (List G) :=
 (callF (F_stringslite_Cut [.s (gi d 0).str,.s (gi d 1).str]) fun g1=>some [.s (gi g1 0).str,.s (gi g1 1).str,.t (gi g1 2).bool])
def s_strings_Cut:FSpec:=⟨72,[.s (.str),.s (.str)],[],[],[.s (.str),.s (.str),.s (.bool)],[],[],[],F_strings_Cut⟩
theorem b_strings_Cut:BodyOK P t29 nL0 Tryz.f72 s_strings_Cut:=fun d=>by kernel_rfl
theorem c_strings_Cut:COK P s_strings_Cut:=bdC hm t29_ok Tryz.func72 (nLk _ _ _) b_strings_Cut
def t30:Tab:=t29.addP s_strings_Cut
theorem t30_ok:TabOK P t30:=t29_ok.aP c_strings_Cut

def F_strings_IndexRune (d:List G):Option (List G) :=
 runeF d
def s_strings_IndexRune:FSpec:=⟨183,[.s (.str),.s (.int .i32)],[],[],[.s (.int .i64)],[],[],[],F_strings_IndexRune⟩
theorem c_strings_IndexRune:∀ d r,F_strings_IndexRune d=some r→ACallX P 183 (s_strings_IndexRune.args0 d) (denH (s_strings_IndexRune.H0 d)) (s_strings_IndexRune.out r) (denH (s_strings_IndexRune.H1 r)):=fun d r h=>rune_call Tryz.laysRune d r h
def t31:Tab:=t30.addP s_strings_IndexRune
theorem t31_ok:TabOK P t31:=t30_ok.aP c_strings_IndexRune

def F_strings_shouldUseASCIISet (d:List G):Option (List G) :=
 some [.t (ltI 8 (gi d 0).int)]
def s_strings_shouldUseASCIISet:FSpec:=⟨199,[.s (.int .i64)],[],[],[.s (.bool)],[],[],[],F_strings_shouldUseASCIISet⟩
theorem b_strings_shouldUseASCIISet:BodyOK P t31 nL0 Tryz.f199 s_strings_shouldUseASCIISet:=fun d=>by kernel_rfl
theorem c_strings_shouldUseASCIISet:COK P s_strings_shouldUseASCIISet:=bdC hm t31_ok Tryz.func199 (nLk _ _ _) b_strings_shouldUseASCIISet
def t32:Tab:=t31.addP s_strings_shouldUseASCIISet
theorem t32_ok:TabOK P t32:=t31_ok.aP c_strings_shouldUseASCIISet

def F_strings_makeASCIISet (d:List G):Option (List G) :=
 mksetF d
def s_strings_makeASCIISet:FSpec:=⟨127,[.s (.str)],[],[],[.s (.row K256),.s (.bool)],[],[],[],F_strings_makeASCIISet⟩
theorem c_strings_makeASCIISet:∀ d r,F_strings_makeASCIISet d=some r→ACallX P 127 (s_strings_makeASCIISet.args0 d) (denH (s_strings_makeASCIISet.H0 d)) (s_strings_makeASCIISet.out r) (denH (s_strings_makeASCIISet.H1 r)):=fun d r h=>mkset_call Tryz.laysMkSet (by kernel_rfl) d r h
def t33:Tab:=t32.addP s_strings_makeASCIISet
theorem t33_ok:TabOK P t33:=t32_ok.aP c_strings_makeASCIISet

def F_strings_asciiSet_contains (d:List G):Option (List G) :=
 (bif ((nnI (gi d 1).int)&&(ltI (gi d 1).int 256)) then some [.t (gi ([[.t (gi (gi d 0).row 0).bool],[.t (gi (gi d 0).row 1).bool],[.t (gi (gi d 0).row 2).bool],[.t (gi (gi d 0).row 3).bool],[.t (gi (gi d 0).row 4).bool],[.t (gi (gi d 0).row 5).bool],[.t (gi (gi d 0).row 6).bool],[.t (gi (gi d 0).row 7).bool],[.t (gi (gi d 0).row 8).bool],[.t (gi (gi d 0).row 9).bool],[.t (gi (gi d 0).row 10).bool],[.t (gi (gi d 0).row 11).bool],[.t (gi (gi d 0).row 12).bool],[.t (gi (gi d 0).row 13).bool],[.t (gi (gi d 0).row 14).bool],[.t (gi (gi d 0).row 15).bool],[.t (gi (gi d 0).row 16).bool],[.t (gi (gi d 0).row 17).bool],[.t (gi (gi d 0).row 18).bool],[.t (gi (gi d 0).row 19).bool],[.t (gi (gi d 0).row 20).bool],[.t (gi (gi d 0).row 21).bool],[.t (gi (gi d 0).row 22).bool],[.t (gi (gi d 0).row 23).bool],[.t (gi (gi d 0).row 24).bool],[.t (gi (gi d 0).row 25).bool],[.t (gi (gi d 0).row 26).bool],[.t (gi (gi d 0).row 27).bool],[.t (gi (gi d 0).row 28).bool],[.t (gi (gi d 0).row 29).bool],[.t (gi (gi d 0).row 30).bool],[.t (gi (gi d 0).row 31).bool],[.t (gi (gi d 0).row 32).bool],[.t (gi (gi d 0).row 33).bool],[.t (gi (gi d 0).row 34).bool],[.t (gi (gi d 0).row 35).bool],[.t (gi (gi d 0).row 36).bool],[.t (gi (gi d 0).row 37).bool],[.t (gi (gi d 0).row 38).bool],[.t (gi (gi d 0).row 39).bool],[.t (gi (gi d 0).row 40).bool],[.t (gi (gi d 0).row 41).bool],[.t (gi (gi d 0).row 42).bool],[.t (gi (gi d 0).row 43).bool],[.t (gi (gi d 0).row 44).bool],[.t (gi (gi d 0).row 45).bool],[.t (gi (gi d 0).row 46).bool],[.t (gi (gi d 0).row 47).bool],[.t (gi (gi d 0).row 48).bool],[.t (gi (gi d 0).row 49).bool],[.t (gi (gi d 0).row 50).bool],[.t (gi (gi d 0).row 51).bool],[.t (gi (gi d 0).row 52).bool],[.t (gi (gi d 0).row 53).bool],[.t (gi (gi d 0).row 54).bool],[.t (gi (gi d 0).row 55).bool],[.t (gi (gi d 0).row 56).bool],[.t (gi (gi d 0).row 57).bool],[.t (gi (gi d 0).row 58).bool],[.t (gi (gi d 0).row 59).bool],[.t (gi (gi d 0).row 60).bool],[.t (gi (gi d 0).row 61).bool],[.t (gi (gi d 0).row 62).bool],[.t (gi (gi d 0).row 63).bool],[.t (gi (gi d 0).row 64).bool],[.t (gi (gi d 0).row 65).bool],[.t (gi (gi d 0).row 66).bool],[.t (gi (gi d 0).row 67).bool],[.t (gi (gi d 0).row 68).bool],[.t (gi (gi d 0).row 69).bool],[.t (gi (gi d 0).row 70).bool],[.t (gi (gi d 0).row 71).bool],[.t (gi (gi d 0).row 72).bool],[.t (gi (gi d 0).row 73).bool],[.t (gi (gi d 0).row 74).bool],[.t (gi (gi d 0).row 75).bool],[.t (gi (gi d 0).row 76).bool],[.t (gi (gi d 0).row 77).bool],[.t (gi (gi d 0).row 78).bool],[.t (gi (gi d 0).row 79).bool],[.t (gi (gi d 0).row 80).bool],[.t (gi (gi d 0).row 81).bool],[.t (gi (gi d 0).row 82).bool],[.t (gi (gi d 0).row 83).bool],[.t (gi (gi d 0).row 84).bool],[.t (gi (gi d 0).row 85).bool],[.t (gi (gi d 0).row 86).bool],[.t (gi (gi d 0).row 87).bool],[.t (gi (gi d 0).row 88).bool],[.t (gi (gi d 0).row 89).bool],[.t (gi (gi d 0).row 90).bool],[.t (gi (gi d 0).row 91).bool],[.t (gi (gi d 0).row 92).bool],[.t (gi (gi d 0).row 93).bool],[.t (gi (gi d 0).row 94).bool],[.t (gi (gi d 0).row 95).bool],[.t (gi (gi d 0).row 96).bool],[.t (gi (gi d 0).row 97).bool],[.t (gi (gi d 0).row 98).bool],[.t (gi (gi d 0).row 99).bool],[.t (gi (gi d 0).row 100).bool],[.t (gi (gi d 0).row 101).bool],[.t (gi (gi d 0).row 102).bool],[.t (gi (gi d 0).row 103).bool],[.t (gi (gi d 0).row 104).bool],[.t (gi (gi d 0).row 105).bool],[.t (gi (gi d 0).row 106).bool],[.t (gi (gi d 0).row 107).bool],[.t (gi (gi d 0).row 108).bool],[.t (gi (gi d 0).row 109).bool],[.t (gi (gi d 0).row 110).bool],[.t (gi (gi d 0).row 111).bool],[.t (gi (gi d 0).row 112).bool],[.t (gi (gi d 0).row 113).bool],[.t (gi (gi d 0).row 114).bool],[.t (gi (gi d 0).row 115).bool],[.t (gi (gi d 0).row 116).bool],[.t (gi (gi d 0).row 117).bool],[.t (gi (gi d 0).row 118).bool],[.t (gi (gi d 0).row 119).bool],[.t (gi (gi d 0).row 120).bool],[.t (gi (gi d 0).row 121).bool],[.t (gi (gi d 0).row 122).bool],[.t (gi (gi d 0).row 123).bool],[.t (gi (gi d 0).row 124).bool],[.t (gi (gi d 0).row 125).bool],[.t (gi (gi d 0).row 126).bool],[.t (gi (gi d 0).row 127).bool],[.t (gi (gi d 0).row 128).bool],[.t (gi (gi d 0).row 129).bool],[.t (gi (gi d 0).row 130).bool],[.t (gi (gi d 0).row 131).bool],[.t (gi (gi d 0).row 132).bool],[.t (gi (gi d 0).row 133).bool],[.t (gi (gi d 0).row 134).bool],[.t (gi (gi d 0).row 135).bool],[.t (gi (gi d 0).row 136).bool],[.t (gi (gi d 0).row 137).bool],[.t (gi (gi d 0).row 138).bool],[.t (gi (gi d 0).row 139).bool],[.t (gi (gi d 0).row 140).bool],[.t (gi (gi d 0).row 141).bool],[.t (gi (gi d 0).row 142).bool],[.t (gi (gi d 0).row 143).bool],[.t (gi (gi d 0).row 144).bool],[.t (gi (gi d 0).row 145).bool],[.t (gi (gi d 0).row 146).bool],[.t (gi (gi d 0).row 147).bool],[.t (gi (gi d 0).row 148).bool],[.t (gi (gi d 0).row 149).bool],[.t (gi (gi d 0).row 150).bool],[.t (gi (gi d 0).row 151).bool],[.t (gi (gi d 0).row 152).bool],[.t (gi (gi d 0).row 153).bool],[.t (gi (gi d 0).row 154).bool],[.t (gi (gi d 0).row 155).bool],[.t (gi (gi d 0).row 156).bool],[.t (gi (gi d 0).row 157).bool],[.t (gi (gi d 0).row 158).bool],[.t (gi (gi d 0).row 159).bool],[.t (gi (gi d 0).row 160).bool],[.t (gi (gi d 0).row 161).bool],[.t (gi (gi d 0).row 162).bool],[.t (gi (gi d 0).row 163).bool],[.t (gi (gi d 0).row 164).bool],[.t (gi (gi d 0).row 165).bool],[.t (gi (gi d 0).row 166).bool],[.t (gi (gi d 0).row 167).bool],[.t (gi (gi d 0).row 168).bool],[.t (gi (gi d 0).row 169).bool],[.t (gi (gi d 0).row 170).bool],[.t (gi (gi d 0).row 171).bool],[.t (gi (gi d 0).row 172).bool],[.t (gi (gi d 0).row 173).bool],[.t (gi (gi d 0).row 174).bool],[.t (gi (gi d 0).row 175).bool],[.t (gi (gi d 0).row 176).bool],[.t (gi (gi d 0).row 177).bool],[.t (gi (gi d 0).row 178).bool],[.t (gi (gi d 0).row 179).bool],[.t (gi (gi d 0).row 180).bool],[.t (gi (gi d 0).row 181).bool],[.t (gi (gi d 0).row 182).bool],[.t (gi (gi d 0).row 183).bool],[.t (gi (gi d 0).row 184).bool],[.t (gi (gi d 0).row 185).bool],[.t (gi (gi d 0).row 186).bool],[.t (gi (gi d 0).row 187).bool],[.t (gi (gi d 0).row 188).bool],[.t (gi (gi d 0).row 189).bool],[.t (gi (gi d 0).row 190).bool],[.t (gi (gi d 0).row 191).bool],[.t (gi (gi d 0).row 192).bool],[.t (gi (gi d 0).row 193).bool],[.t (gi (gi d 0).row 194).bool],[.t (gi (gi d 0).row 195).bool],[.t (gi (gi d 0).row 196).bool],[.t (gi (gi d 0).row 197).bool],[.t (gi (gi d 0).row 198).bool],[.t (gi (gi d 0).row 199).bool],[.t (gi (gi d 0).row 200).bool],[.t (gi (gi d 0).row 201).bool],[.t (gi (gi d 0).row 202).bool],[.t (gi (gi d 0).row 203).bool],[.t (gi (gi d 0).row 204).bool],[.t (gi (gi d 0).row 205).bool],[.t (gi (gi d 0).row 206).bool],[.t (gi (gi d 0).row 207).bool],[.t (gi (gi d 0).row 208).bool],[.t (gi (gi d 0).row 209).bool],[.t (gi (gi d 0).row 210).bool],[.t (gi (gi d 0).row 211).bool],[.t (gi (gi d 0).row 212).bool],[.t (gi (gi d 0).row 213).bool],[.t (gi (gi d 0).row 214).bool],[.t (gi (gi d 0).row 215).bool],[.t (gi (gi d 0).row 216).bool],[.t (gi (gi d 0).row 217).bool],[.t (gi (gi d 0).row 218).bool],[.t (gi (gi d 0).row 219).bool],[.t (gi (gi d 0).row 220).bool],[.t (gi (gi d 0).row 221).bool],[.t (gi (gi d 0).row 222).bool],[.t (gi (gi d 0).row 223).bool],[.t (gi (gi d 0).row 224).bool],[.t (gi (gi d 0).row 225).bool],[.t (gi (gi d 0).row 226).bool],[.t (gi (gi d 0).row 227).bool],[.t (gi (gi d 0).row 228).bool],[.t (gi (gi d 0).row 229).bool],[.t (gi (gi d 0).row 230).bool],[.t (gi (gi d 0).row 231).bool],[.t (gi (gi d 0).row 232).bool],[.t (gi (gi d 0).row 233).bool],[.t (gi (gi d 0).row 234).bool],[.t (gi (gi d 0).row 235).bool],[.t (gi (gi d 0).row 236).bool],[.t (gi (gi d 0).row 237).bool],[.t (gi (gi d 0).row 238).bool],[.t (gi (gi d 0).row 239).bool],[.t (gi (gi d 0).row 240).bool],[.t (gi (gi d 0).row 241).bool],[.t (gi (gi d 0).row 242).bool],[.t (gi (gi d 0).row 243).bool],[.t (gi (gi d 0).row 244).bool],[.t (gi (gi d 0).row 245).bool],[.t (gi (gi d 0).row 246).bool],[.t (gi (gi d 0).row 247).bool],[.t (gi (gi d 0).row 248).bool],[.t (gi (gi d 0).row 249).bool],[.t (gi (gi d 0).row 250).bool],[.t (gi (gi d 0).row 251).bool],[.t (gi (gi d 0).row 252).bool],[.t (gi (gi d 0).row 253).bool],[.t (gi (gi d 0).row 254).bool],[.t (gi (gi d 0).row 255).bool]].getD (((gi d 1).int).toNat) []) 0).bool] else none)
def s_strings_asciiSet_contains:FSpec:=⟨159,[.s (.cptr K256),.s (.int .u8)],[],[],[.s (.bool)],[],[],[],F_strings_asciiSet_contains⟩
theorem b_strings_asciiSet_contains:BodyOK P t33 nL0 Tryz.f159 s_strings_asciiSet_contains:=fun d=>by kernel_rfl
theorem c_strings_asciiSet_contains:COK P s_strings_asciiSet_contains:=bdC hm t33_ok Tryz.func159 (nLk _ _ _) b_strings_asciiSet_contains
def t34:Tab:=t33.addP s_strings_asciiSet_contains
theorem t34_ok:TabOK P t34:=t33_ok.aP c_strings_asciiSet_contains

def F_utf8_RuneStart (d:List G):Option (List G) :=
 some [.t ((andI .u8 (gi d 0).int 192) != 128)]
def s_utf8_RuneStart:FSpec:=⟨184,[.s (.int .u8)],[],[],[.s (.bool)],[],[],[],F_utf8_RuneStart⟩
theorem b_utf8_RuneStart:BodyOK P t34 nL0 Tryz.f184 s_utf8_RuneStart:=fun d=>by kernel_rfl
theorem c_utf8_RuneStart:COK P s_utf8_RuneStart:=bdC hm t34_ok Tryz.func184 (nLk _ _ _) b_utf8_RuneStart
def t35:Tab:=t34.addP s_utf8_RuneStart
theorem t35_ok:TabOK P t35:=t34_ok.aP c_utf8_RuneStart

def F_utf8_decodeRuneInStringSlow (d:List G):Option (List G) :=
 (bif (ltI (((gi d 0).str.size:Nat):Int) 1) then some [.i 65533,.i 0] else (bif (ltI 0 (((gi d 0).str.size:Nat):Int)) then none else none))
def s_utf8_decodeRuneInStringSlow:FSpec:=⟨182,[.s (.str)],[],[],[.s (.int .i32),.s (.int .i64)],[],[],[],F_utf8_decodeRuneInStringSlow⟩
theorem b_utf8_decodeRuneInStringSlow:BodyOK P t35 nL0 Tryz.f182 s_utf8_decodeRuneInStringSlow:=fun d=>by kernel_rfl
theorem c_utf8_decodeRuneInStringSlow:COK P s_utf8_decodeRuneInStringSlow:=bdC hm t35_ok Tryz.func182 (nLk _ _ _) b_utf8_decodeRuneInStringSlow
def t36:Tab:=t35.addP s_utf8_decodeRuneInStringSlow
theorem t36_ok:TabOK P t36:=t35_ok.aP c_utf8_decodeRuneInStringSlow

def F_utf8_DecodeRuneInString (d:List G):Option (List G) :=
 (bif (!((gi d 0).str.toList==(⟨#[]⟩:ByteArray).toList)) then (bif (ltI 0 (((gi d 0).str.size:Nat):Int)) then (bif (ltI (((gi d 0).str.data.toList.getD 0 0).toNat:Int) 128) then (bif (ltI 0 (((gi d 0).str.size:Nat):Int)) then some [.i (IntKind.i32.wrap (((gi d 0).str.data.toList.getD 0 0).toNat:Int)),.i 1] else none) else (callF (F_utf8_decodeRuneInStringSlow [.s (gi d 0).str]) fun g1=>some [.i (gi g1 0).int,.i (gi g1 1).int])) else none) else (callF (F_utf8_decodeRuneInStringSlow [.s (gi d 0).str]) fun g2=>some [.i (gi g2 0).int,.i (gi g2 1).int]))
def s_utf8_DecodeRuneInString:FSpec:=⟨157,[.s (.str)],[],[],[.s (.int .i32),.s (.int .i64)],[],[],[],F_utf8_DecodeRuneInString⟩
theorem b_utf8_DecodeRuneInString:BodyOK P t36 nL0 Tryz.f157 s_utf8_DecodeRuneInString:=fun d=>by kernel_rfl
theorem c_utf8_DecodeRuneInString:COK P s_utf8_DecodeRuneInString:=bdC hm t36_ok Tryz.func157 (nLk _ _ _) b_utf8_DecodeRuneInString
def t37:Tab:=t36.addP s_utf8_DecodeRuneInString
theorem t37_ok:TabOK P t37:=t36_ok.aP c_utf8_DecodeRuneInString

def st_utf8_DecodeLastRuneInString_10 (d:List G):Option (Option Nat × List G) :=
 (bif (leI (gi d 3).int (gi d 2).int) then (bif ((nnI (gi d 2).int)&&(ltI (gi d 2).int (((gi d 0).str.size:Nat):Int))) then (callF (F_utf8_RuneStart [.i (((gi d 0).str.data.toList.getD (((gi d 2).int).toNat) 0).toNat:Int)]) fun g1=>(bif (gi g1 0).bool then some (some 0,[.s (gi d 0).str,.i (gi d 1).int,.i (gi d 2).int]) else (bif (inI ((gi d 2).int-1)) then some (none,[.s (gi d 0).str,.i (gi d 1).int,.i ((gi d 2).int-1),.i (gi d 3).int]) else none))) else none) else some (some 0,[.s (gi d 0).str,.i (gi d 1).int,.i (gi d 2).int]))
def l_utf8_DecodeLastRuneInString_10:LSpec:=⟨10,[],⟨51,[(0,.s (.str)),(4,.s (.int .i64)),(5,.s (.int .i64)),(6,.s (.int .i64))],[]⟩,[],[⟨.exit 0,⟨51,[(0,.s (.str)),(4,.s (.int .i64)),(5,.s (.int .i64))],[]⟩,[]⟩],st_utf8_DecodeLastRuneInString_10⟩
theorem r_utf8_DecodeLastRuneInString_10:RoundOK P t37 nL0 0 (loopAt Tryz.f161 10) l_utf8_DecodeLastRuneInString_10:=fun d=>by kernel_rfl
def L_utf8_DecodeLastRuneInString_10:LT:=nL0.add 0 l_utf8_DecodeLastRuneInString_10
theorem L_utf8_DecodeLastRuneInString_10_ok:LpK P 0 L_utf8_DecodeLastRuneInString_10 (bodyOf Tryz.f161):=LpK.a hm t37_ok (nLk _ _ _) r_utf8_DecodeLastRuneInString_10
def F_utf8_DecodeLastRuneInString (d:List G):Option (List G) :=
 (bif ((((gi d 0).str.size:Nat):Int)==0) then some [.i 65533,.i 0] else (bif (inI ((((gi d 0).str.size:Nat):Int)-1)) then (bif ((nnI ((((gi d 0).str.size:Nat):Int)-1))&&(ltI ((((gi d 0).str.size:Nat):Int)-1) (((gi d 0).str.size:Nat):Int))) then (bif (ltI (IntKind.i32.wrap (((gi d 0).str.data.toList.getD (((((gi d 0).str.size:Nat):Int)-1).toNat) 0).toNat:Int)) 128) then some [.i (IntKind.i32.wrap (((gi d 0).str.data.toList.getD (((((gi d 0).str.size:Nat):Int)-1).toNat) 0).toNat:Int)),.i 1] else (bif (inI ((((gi d 0).str.size:Nat):Int)-4)) then (bif (inI (((((gi d 0).str.size:Nat):Int)-1)-1)) then (loopB true (LRun st_utf8_DecodeLastRuneInString_10 [.s (gi d 0).str,.i (((gi d 0).str.size:Nat):Int),.i (((((gi d 0).str.size:Nat):Int)-1)-1),.i (if 0>((((gi d 0).str.size:Nat):Int)-4) then 0 else ((((gi d 0).str.size:Nat):Int)-4))]) fun cg2 g2=>(bif (ltI (gi g2 2).int 0) then (bif ((leI 0 (gi g2 1).int)&&(leI (gi g2 1).int (((gi g2 0).str.size:Nat):Int))) then (callF (F_utf8_DecodeRuneInString [.s ((gi g2 0).str.extract 0 ((gi g2 1).int).toNat)]) fun g3=>(bif (inI (0+(gi g3 1).int)) then (bif ((0+(gi g3 1).int) != (gi g2 1).int) then some [.i 65533,.i 1] else some [.i (gi g3 0).int,.i (gi g3 1).int]) else none)) else none) else (bif ((nnI (gi g2 2).int)&&((leI (gi g2 2).int (gi g2 1).int)&&(leI (gi g2 1).int (((gi g2 0).str.size:Nat):Int)))) then (callF (F_utf8_DecodeRuneInString [.s ((gi g2 0).str.extract ((gi g2 2).int).toNat ((gi g2 1).int).toNat)]) fun g4=>(bif (inI ((gi g2 2).int+(gi g4 1).int)) then (bif (((gi g2 2).int+(gi g4 1).int) != (gi g2 1).int) then some [.i 65533,.i 1] else some [.i (gi g4 0).int,.i (gi g4 1).int]) else none)) else none))) else none) else none)) else none) else none))
def s_utf8_DecodeLastRuneInString:FSpec:=⟨161,[.s (.str)],[],[],[.s (.int .i32),.s (.int .i64)],[],[],[],F_utf8_DecodeLastRuneInString⟩
theorem b_utf8_DecodeLastRuneInString:BodyOK P t37 L_utf8_DecodeLastRuneInString_10 Tryz.f161 s_utf8_DecodeLastRuneInString:=fun d=>by kernel_rfl
theorem c_utf8_DecodeLastRuneInString:COK P s_utf8_DecodeLastRuneInString:=bdC hm t37_ok Tryz.func161 L_utf8_DecodeLastRuneInString_10_ok b_utf8_DecodeLastRuneInString
def t38:Tab:=t37.addP s_utf8_DecodeLastRuneInString
theorem t38_ok:TabOK P t38:=t37_ok.aP c_utf8_DecodeLastRuneInString

def st_strings_LastIndexAny_14 (d:List G):Option (Option Nat × List G) :=
 (bif (leI 0 (gi d 2).int) then (bif ((nnI (gi d 2).int)&&(ltI (gi d 2).int (((gi d 0).str.size:Nat):Int))) then (callF (F_strings_asciiSet_contains [.l [(gEta K256 (gi d 1).row)],.i (((gi d 0).str.data.toList.getD (((gi d 2).int).toNat) 0).toNat:Int)]) fun g5=>(bif (gi g5 0).bool then some (some 0,[.i (gi d 2).int]) else (bif (inI ((gi d 2).int-1)) then some (none,[.s (gi d 0).str,.l [(gEta K256 (gi d 1).row)],.i ((gi d 2).int-1)]) else none))) else none) else some (some 1,[]))
def l_strings_LastIndexAny_14:LSpec:=⟨14,[],⟨96,[(0,.s (.str)),(6,.s (.cptr K256)),(8,.s (.int .i64))],[]⟩,[],[⟨.ret,⟨96,[(4,.s (.int .i64))],[]⟩,[]⟩,⟨.exit 0,⟨96,[],[]⟩,[]⟩],st_strings_LastIndexAny_14⟩
theorem r_strings_LastIndexAny_14:RoundOK P t38 nL0 0 (loopAt Tryz.f176 14) l_strings_LastIndexAny_14:=fun d=>by kernel_rfl
def L_strings_LastIndexAny_14:LT:=nL0.add 0 l_strings_LastIndexAny_14
theorem L_strings_LastIndexAny_14_ok:LpK P 0 L_strings_LastIndexAny_14 (bodyOf Tryz.f176):=LpK.a hm t38_ok (nLk _ _ _) r_strings_LastIndexAny_14
def st_strings_LastIndexAny_24 (d:List G):Option (Option Nat × List G) :=
 (bif (ltI 0 (gi d 2).int) then (bif ((nnI (gi d 2).int)&&(leI (gi d 2).int (((gi d 0).str.size:Nat):Int))) then (callF (F_utf8_DecodeLastRuneInString [.s ((gi d 0).str.extract 0 ((gi d 2).int).toNat)]) fun g7=>(bif (inI ((gi d 2).int-(gi g7 1).int)) then (bif ((gi d 1).int==(gi g7 0).int) then some (some 0,[.i ((gi d 2).int-(gi g7 1).int)]) else some (none,[.s (gi d 0).str,.i (gi d 1).int,.i ((gi d 2).int-(gi g7 1).int)])) else none)) else none) else some (some 1,[]))
def l_strings_LastIndexAny_24:LSpec:=⟨24,[],⟨96,[(0,.s (.str)),(9,.s (.int .i32)),(10,.s (.int .i64))],[]⟩,[],[⟨.ret,⟨96,[(4,.s (.int .i64))],[]⟩,[]⟩,⟨.exit 2,⟨96,[],[]⟩,[]⟩],st_strings_LastIndexAny_24⟩
theorem r_strings_LastIndexAny_24:RoundOK P t38 L_strings_LastIndexAny_14 0 (loopAt Tryz.f176 24) l_strings_LastIndexAny_24:=fun d=>by kernel_rfl
def L_strings_LastIndexAny_24:LT:=L_strings_LastIndexAny_14.add 0 l_strings_LastIndexAny_24
theorem L_strings_LastIndexAny_24_ok:LpK P 0 L_strings_LastIndexAny_24 (bodyOf Tryz.f176):=LpK.a hm t38_ok L_strings_LastIndexAny_14_ok r_strings_LastIndexAny_24
def st_strings_LastIndexAny_31 (d:List G):Option (Option Nat × List G) :=
 (bif (ltI 0 (gi d 2).int) then (bif ((nnI (gi d 2).int)&&(leI (gi d 2).int (((gi d 0).str.size:Nat):Int))) then (callF (F_utf8_DecodeLastRuneInString [.s ((gi d 0).str.extract 0 ((gi d 2).int).toNat)]) fun g10=>(bif (inI ((gi d 2).int-(gi g10 1).int)) then (callF (F_strings_IndexRune [.s (gi d 1).str,.i (gi g10 0).int]) fun g11=>(bif (leI 0 (gi g11 0).int) then some (some 0,[.i ((gi d 2).int-(gi g10 1).int)]) else some (none,[.s (gi d 0).str,.s (gi d 1).str,.i ((gi d 2).int-(gi g10 1).int)]))) else none)) else none) else some (some 1,[]))
def l_strings_LastIndexAny_31:LSpec:=⟨31,[],⟨96,[(0,.s (.str)),(1,.s (.str)),(13,.s (.int .i64))],[]⟩,[],[⟨.ret,⟨96,[(4,.s (.int .i64))],[]⟩,[]⟩,⟨.exit 4,⟨96,[],[]⟩,[]⟩],st_strings_LastIndexAny_31⟩
theorem r_strings_LastIndexAny_31:RoundOK P t38 L_strings_LastIndexAny_24 0 (loopAt Tryz.f176 31) l_strings_LastIndexAny_31:=fun d=>by kernel_rfl
def L_strings_LastIndexAny_31:LT:=L_strings_LastIndexAny_24.add 0 l_strings_LastIndexAny_31
theorem L_strings_LastIndexAny_31_ok:LpK P 0 L_strings_LastIndexAny_31 (bodyOf Tryz.f176):=LpK.a hm t38_ok L_strings_LastIndexAny_24_ok r_strings_LastIndexAny_31
def F_strings_LastIndexAny (d:List G):Option (List G) :=
 (bif ((gi d 1).str.toList==(⟨#[]⟩:ByteArray).toList) then some [.i (-1)] else (bif ((((gi d 0).str.size:Nat):Int)==1) then (bif (ltI 0 (((gi d 0).str.size:Nat):Int)) then (bif (leI 128 (IntKind.i32.wrap (((gi d 0).str.data.toList.getD 0 0).toNat:Int))) then (callF (F_strings_IndexRune [.s (gi d 1).str,.i 65533]) fun g1=>(bif (leI 0 (gi g1 0).int) then some [.i 0] else some [.i (-1)])) else (callF (F_strings_IndexRune [.s (gi d 1).str,.i (IntKind.i32.wrap (((gi d 0).str.data.toList.getD 0 0).toNat:Int))]) fun g2=>(bif (leI 0 (gi g2 0).int) then some [.i 0] else some [.i (-1)]))) else none) else (callF (F_strings_shouldUseASCIISet [.i (((gi d 0).str.size:Nat):Int)]) fun g3=>(bif (gi g3 0).bool then (callF (F_strings_makeASCIISet [.s (gi d 1).str]) fun g4=>(bif (gi g4 1).bool then (bif (inI ((((gi d 0).str.size:Nat):Int)-1)) then (loopB true (LRun st_strings_LastIndexAny_14 [.s (gi d 0).str,.l [(gEta K256 (gi g4 0).row)],.i ((((gi d 0).str.size:Nat):Int)-1)]) fun cg6 g6=>(bif Nat.beq cg6 0 then some [.i (gi g6 0).int] else some [.i (-1)])) else none) else (bif ((((gi d 1).str.size:Nat):Int)==1) then (bif (ltI 0 (((gi d 1).str.size:Nat):Int)) then (bif (leI 128 (IntKind.i32.wrap (((gi d 1).str.data.toList.getD 0 0).toNat:Int))) then (loopB true (LRun st_strings_LastIndexAny_24 [.s (gi d 0).str,.i 65533,.i (((gi d 0).str.size:Nat):Int)]) fun cg8 g8=>(bif Nat.beq cg8 0 then some [.i (gi g8 0).int] else some [.i (-1)])) else (loopB true (LRun st_strings_LastIndexAny_24 [.s (gi d 0).str,.i (IntKind.i32.wrap (((gi d 1).str.data.toList.getD 0 0).toNat:Int)),.i (((gi d 0).str.size:Nat):Int)]) fun cg9 g9=>(bif Nat.beq cg9 0 then some [.i (gi g9 0).int] else some [.i (-1)]))) else none) else (loopB true (LRun st_strings_LastIndexAny_31 [.s (gi d 0).str,.s (gi d 1).str,.i (((gi d 0).str.size:Nat):Int)]) fun cg12 g12=>(bif Nat.beq cg12 0 then some [.i (gi g12 0).int] else some [.i (-1)]))))) else (bif ((((gi d 1).str.size:Nat):Int)==1) then (bif (ltI 0 (((gi d 1).str.size:Nat):Int)) then (bif (leI 128 (IntKind.i32.wrap (((gi d 1).str.data.toList.getD 0 0).toNat:Int))) then (loopB true (LRun st_strings_LastIndexAny_24 [.s (gi d 0).str,.i 65533,.i (((gi d 0).str.size:Nat):Int)]) fun cg13 g13=>(bif Nat.beq cg13 0 then some [.i (gi g13 0).int] else some [.i (-1)])) else (loopB true (LRun st_strings_LastIndexAny_24 [.s (gi d 0).str,.i (IntKind.i32.wrap (((gi d 1).str.data.toList.getD 0 0).toNat:Int)),.i (((gi d 0).str.size:Nat):Int)]) fun cg14 g14=>(bif Nat.beq cg14 0 then some [.i (gi g14 0).int] else some [.i (-1)]))) else none) else (loopB true (LRun st_strings_LastIndexAny_31 [.s (gi d 0).str,.s (gi d 1).str,.i (((gi d 0).str.size:Nat):Int)]) fun cg15 g15=>(bif Nat.beq cg15 0 then some [.i (gi g15 0).int] else some [.i (-1)])))))))
def s_strings_LastIndexAny:FSpec:=⟨176,[.s (.str),.s (.str)],[],[],[.s (.int .i64)],[],[],[],F_strings_LastIndexAny⟩
theorem b_strings_LastIndexAny:BodyOK P t38 L_strings_LastIndexAny_31 Tryz.f176 s_strings_LastIndexAny:=fun d=>by kernel_rfl
theorem c_strings_LastIndexAny:COK P s_strings_LastIndexAny:=bdC hm t38_ok Tryz.func176 L_strings_LastIndexAny_31_ok b_strings_LastIndexAny
def t39:Tab:=t38.addP s_strings_LastIndexAny
theorem t39_ok:TabOK P t39:=t38_ok.aP c_strings_LastIndexAny

def F_r1_in (d:List G):Option (List G) :=
 (bif (leI (gi d 1).int (gi d 0).int) then some [.t (leI (gi d 0).int (gi d 2).int)] else some [.t false])
def s_r1_in:FSpec:=⟨178,[.s (.int .i64),.s (.int .i64),.s (.int .i64)],[],[],[.s (.bool)],[],[],[],F_r1_in⟩
theorem b_r1_in:BodyOK P t39 nL0 Tryz.f178 s_r1_in:=fun d=>by kernel_rfl
theorem c_r1_in:COK P s_r1_in:=bdC hm t39_ok Tryz.func178 (nLk _ _ _) b_r1_in
def t40:Tab:=t39.addP s_r1_in
theorem t40_ok:TabOK P t40:=t39_ok.aP c_r1_in

def F_strings_Contains (d:List G):Option (List G) :=
 has1F d
def s_strings_Contains:FSpec:=⟨149,[.s (.str),.s (.str)],[],[],[.s (.bool)],[],[],[],F_strings_Contains⟩
theorem c_strings_Contains:∀ d r,F_strings_Contains d=some r→ACallX P 149 (s_strings_Contains.args0 d) (denH (s_strings_Contains.H0 d)) (s_strings_Contains.out r) (denH (s_strings_Contains.H1 r)):=fun d r h=>has_call Tryz.laysHas d r h
def t41:Tab:=t40.addP s_strings_Contains
theorem t41_ok:TabOK P t41:=t40_ok.aP c_strings_Contains

def F_r2_sameNo (d:List G):Option (List G) :=
 (bif ((gi (gi d 0).row 0).str.toList==(gi (gi d 1).row 0).str.toList) then some [.t ((gi (gi d 0).row 1).int==(gi (gi d 1).row 1).int)] else some [.t false])
def s_r2_sameNo:FSpec:=⟨32,[.s (.row KDeed),.s (.row KDeed)],[],[],[.s (.bool)],[],[],[],F_r2_sameNo⟩
theorem b_r2_sameNo:BodyOK P t41 nL0 Tryz.f32 s_r2_sameNo:=fun d=>by kernel_rfl
theorem c_r2_sameNo:COK P s_r2_sameNo:=bdC hm t41_ok Tryz.func32 (nLk _ _ _) b_r2_sameNo
def t42:Tab:=t41.addP s_r2_sameNo
theorem t42_ok:TabOK P t42:=t41_ok.aP c_r2_sameNo

def F_r2_DeedsFault_1 (d:List G):Option (List G) :=
 (callF (F_r2_sameNo [.l [(gEta KDeed (gi d 0).row)],.l [(gEta KDeed (gi d 1).row)]]) fun g1=>some [.t (gi g1 0).bool])
def s_r2_DeedsFault_1:FSpec:=⟨31,[.s (.row KDeed),.s (.cptr KDeed)],[],[],[.s (.bool)],[],[],[],F_r2_DeedsFault_1⟩
theorem b_r2_DeedsFault_1:BodyOK P t42 nL0 Tryz.f31 s_r2_DeedsFault_1:=fun d=>by kernel_rfl
theorem c_r2_DeedsFault_1:COK P s_r2_DeedsFault_1:=bdC hm t42_ok Tryz.func31 (nLk _ _ _) b_r2_DeedsFault_1
def t43:Tab:=t42.addP s_r2_DeedsFault_1
theorem t43_ok:TabOK P t43:=t42_ok.aP c_r2_DeedsFault_1

def st_sl_IndexFunc_Deed_2 (d:List G):Option (Option Nat × List G) :=
 (bif (ltI (gi d 3).int (gi d 2).int) then (bif ((nnI (gi d 3).int)&&(ltI (gi d 3).int (((gi d 0).rows.length:Nat):Int))) then (callF (F_r2_DeedsFault_1 [.l [(gEta KDeed ((gi d 0).rows.getD (((gi d 3).int).toNat) []))],.l [(gEta KDeed (gi d 1).row)]]) fun g1=>(bif (gi g1 0).bool then some (some 0,[.i (gi d 3).int]) else (bif (inI ((gi d 3).int+1)) then some (none,[.l (gi d 0).rows,.l [(gEta KDeed (gi d 1).row)],.i (gi d 2).int,.i ((gi d 3).int+1)]) else none))) else none) else some (some 1,[]))
def l_sl_IndexFunc_Deed_2:LSpec:=⟨2,[],⟨19,[(0,.s (.list KDeed)),(1,.clo 31 [.cptr KDeed]),(7,.s (.int .i64)),(8,.s (.int .i64))],[]⟩,[],[⟨.ret,⟨19,[(4,.s (.int .i64))],[]⟩,[]⟩,⟨.exit 0,⟨19,[],[]⟩,[]⟩],st_sl_IndexFunc_Deed_2⟩
theorem r_sl_IndexFunc_Deed_2:RoundOK P t43 nL0 0 (loopAt Tryz.f60 2) l_sl_IndexFunc_Deed_2:=fun d=>by kernel_rfl
def L_sl_IndexFunc_Deed_2:LT:=nL0.add 0 l_sl_IndexFunc_Deed_2
theorem L_sl_IndexFunc_Deed_2_ok:LpK P 0 L_sl_IndexFunc_Deed_2 (bodyOf Tryz.f60):=LpK.a hm t43_ok (nLk _ _ _) r_sl_IndexFunc_Deed_2
def F_sl_IndexFunc_Deed (d:List G):Option (List G) :=
 (loopB true (LRun st_sl_IndexFunc_Deed_2 [.l (gi d 0).rows,.l [(gEta KDeed (gi d 1).row)],.i (((gi d 0).rows.length:Nat):Int),.i 0]) fun cg2 g2=>(bif Nat.beq cg2 0 then some [.i (gi g2 0).int] else some [.i (-1)]))
def s_sl_IndexFunc_Deed:FSpec:=⟨60,[.s (.list KDeed),.clo 31 [.cptr KDeed]],[],[],[.s (.int .i64)],[],[],[],F_sl_IndexFunc_Deed⟩
theorem b_sl_IndexFunc_Deed:BodyOK P t43 L_sl_IndexFunc_Deed_2 Tryz.f60 s_sl_IndexFunc_Deed:=fun d=>by kernel_rfl
theorem c_sl_IndexFunc_Deed:COK P s_sl_IndexFunc_Deed:=bdC hm t43_ok Tryz.func60 L_sl_IndexFunc_Deed_2_ok b_sl_IndexFunc_Deed
def t44:Tab:=t43.addP s_sl_IndexFunc_Deed
theorem t44_ok:TabOK P t44:=t43_ok.aP c_sl_IndexFunc_Deed

def F_sl_ContainsFunc_Deed (d:List G):Option (List G) :=
 (callF (F_sl_IndexFunc_Deed [.l (gi d 0).rows,.l [(gEta KDeed (gi d 1).row)]]) fun g1=>some [.t (leI 0 (gi g1 0).int)])
def s_sl_ContainsFunc_Deed:FSpec:=⟨30,[.s (.list KDeed),.clo 31 [.cptr KDeed]],[],[],[.s (.bool)],[],[],[],F_sl_ContainsFunc_Deed⟩
theorem b_sl_ContainsFunc_Deed:BodyOK P t44 nL0 Tryz.f30 s_sl_ContainsFunc_Deed:=fun d=>by kernel_rfl
theorem c_sl_ContainsFunc_Deed:COK P s_sl_ContainsFunc_Deed:=bdC hm t44_ok Tryz.func30 (nLk _ _ _) b_sl_ContainsFunc_Deed
def t45:Tab:=t44.addP s_sl_ContainsFunc_Deed
theorem t45_ok:TabOK P t45:=t44_ok.aP c_sl_ContainsFunc_Deed

def F_r2_plainModes (d:List G):Option (List G) :=
 some [.l [[.s (⟨#[]⟩:ByteArray)],[.s (⟨#[99,111,100,101]⟩:ByteArray)],[.s (⟨#[118,111,105,99,101]⟩:ByteArray)],[.s (⟨#[100,97,116,97]⟩:ByteArray)]]]
def s_r2_plainModes:FSpec:=⟨62,[],[],[],[.s (.list [.str])],[],[],[],F_r2_plainModes⟩
theorem b_r2_plainModes:BodyOK P t45 nL0 Tryz.f62 s_r2_plainModes:=fun d=>by kernel_rfl
theorem c_r2_plainModes:COK P s_r2_plainModes:=bdC hm t45_ok Tryz.func62 (nLk _ _ _) b_r2_plainModes
def t46:Tab:=t45.addP s_r2_plainModes
theorem t46_ok:TabOK P t46:=t45_ok.aP c_r2_plainModes

def F_r2_dash (d:List G):Option (List G) :=
 (bif ((gi d 0).str.toList==(⟨#[]⟩:ByteArray).toList) then some [.s (⟨#[45]⟩:ByteArray)] else some [.s (gi d 0).str])
def s_r2_dash:FSpec:=⟨63,[.s (.str)],[],[],[.s (.str)],[],[],[],F_r2_dash⟩
theorem b_r2_dash:BodyOK P t46 nL0 Tryz.f63 s_r2_dash:=fun d=>by kernel_rfl
theorem c_r2_dash:COK P s_r2_dash:=bdC hm t46_ok Tryz.func63 (nLk _ _ _) b_r2_dash
def t47:Tab:=t46.addP s_r2_dash
theorem t47_ok:TabOK P t47:=t46_ok.aP c_r2_dash

def F_mk_Changed (d:List G):Option (List G) :=
 (bif ((gi d 2).str.toList==(⟨#[]⟩:ByteArray).toList) then some [.l (gi d 0).rows,.i (gi d 1).int,.s (gi d 3).str] else (bif ((gi d 3).str.toList==(⟨#[]⟩:ByteArray).toList) then some [.l (gi d 0).rows,.i (gi d 1).int,.s (gi d 3).str] else (callF (F_mk_Next [.l (gi d 0).rows,.i (gi d 1).int,.i (((gi d 2).str.size:Nat):Int)]) fun g1=>(callF (F_mk_Next [.l (gi g1 0).rows,.i (gi g1 1).int,.i (((gi d 3).str.size:Nat):Int)]) fun g2=>(bif ((nnI (gi g2 2).int)&&(ltI (gi g2 2).int (((gi d 3).str.size:Nat):Int))) then (callF (F_mk_Next [.l (gi g2 0).rows,.i (gi g2 1).int,.i 3]) fun g3=>(bif ((gi g3 2).int==0) then (bif ((nnI (gi g1 2).int)&&(leI (gi g1 2).int (((gi d 2).str.size:Nat):Int))) then (bif (Nat.ble (((gi d 2).str.extract 0 ((gi g1 2).int).toNat).size+(Utf8.encode (IntKind.i32.wrap (((gi d 3).str.data.toList.getD (((gi g2 2).int).toNat) 0).toNat:Int))).size) 9223372036854775807) then (bif (inI ((gi g1 2).int+1)) then (bif ((nnI ((gi g1 2).int+1))&&(leI ((gi g1 2).int+1) (((gi d 2).str.size:Nat):Int))) then (bif (Nat.ble ((((gi d 2).str.extract 0 ((gi g1 2).int).toNat)++(Utf8.encode (IntKind.i32.wrap (((gi d 3).str.data.toList.getD (((gi g2 2).int).toNat) 0).toNat:Int)))).size+((gi d 2).str.extract ((gi g1 2).int+1).toNat (gi d 2).str.size).size) 9223372036854775807) then some [.l (gi g3 0).rows,.i (gi g3 1).int,.s ((((gi d 2).str.extract 0 ((gi g1 2).int).toNat)++(Utf8.encode (IntKind.i32.wrap (((gi d 3).str.data.toList.getD (((gi g2 2).int).toNat) 0).toNat:Int))))++((gi d 2).str.extract ((gi g1 2).int+1).toNat (gi d 2).str.size))] else none) else none) else none) else none) else none) else (bif ((gi g3 2).int==1) then (bif ((nnI (gi g1 2).int)&&(leI (gi g1 2).int (((gi d 2).str.size:Nat):Int))) then (bif (Nat.ble (((gi d 2).str.extract 0 ((gi g1 2).int).toNat).size+(Utf8.encode (IntKind.i32.wrap (((gi d 3).str.data.toList.getD (((gi g2 2).int).toNat) 0).toNat:Int))).size) 9223372036854775807) then (bif ((nnI (gi g1 2).int)&&(leI (gi g1 2).int (((gi d 2).str.size:Nat):Int))) then (bif (Nat.ble ((((gi d 2).str.extract 0 ((gi g1 2).int).toNat)++(Utf8.encode (IntKind.i32.wrap (((gi d 3).str.data.toList.getD (((gi g2 2).int).toNat) 0).toNat:Int)))).size+((gi d 2).str.extract ((gi g1 2).int).toNat (gi d 2).str.size).size) 9223372036854775807) then some [.l (gi g3 0).rows,.i (gi g3 1).int,.s ((((gi d 2).str.extract 0 ((gi g1 2).int).toNat)++(Utf8.encode (IntKind.i32.wrap (((gi d 3).str.data.toList.getD (((gi g2 2).int).toNat) 0).toNat:Int))))++((gi d 2).str.extract ((gi g1 2).int).toNat (gi d 2).str.size))] else none) else none) else none) else none) else (bif ((nnI (gi g1 2).int)&&(leI (gi g1 2).int (((gi d 2).str.size:Nat):Int))) then (bif (inI ((gi g1 2).int+1)) then (bif ((nnI ((gi g1 2).int+1))&&(leI ((gi g1 2).int+1) (((gi d 2).str.size:Nat):Int))) then (bif (Nat.ble (((gi d 2).str.extract 0 ((gi g1 2).int).toNat).size+((gi d 2).str.extract ((gi g1 2).int+1).toNat (gi d 2).str.size).size) 9223372036854775807) then some [.l (gi g3 0).rows,.i (gi g3 1).int,.s (((gi d 2).str.extract 0 ((gi g1 2).int).toNat)++((gi d 2).str.extract ((gi g1 2).int+1).toNat (gi d 2).str.size))] else none) else none) else none) else none)))) else none)))))
def s_mk_Changed:FSpec:=⟨23,[.s (.ptr 0 0),.s (.str),.s (.str)],[.box [.list [.int .i64],.int .i64]],[.slot 0],[.s (.str)],[.box [.list [.int .i64],.int .i64]],[.fix 0],[],F_mk_Changed⟩
theorem b_mk_Changed:BodyOK P t47 nL0 Tryz.f23 s_mk_Changed:=fun d=>by kernel_rfl
theorem c_mk_Changed:COK P s_mk_Changed:=bdC hm t47_ok Tryz.func23 (nLk _ _ _) b_mk_Changed
def t48:Tab:=t47.addW s_mk_Changed
theorem t48_ok:TabOK P t48:=t47_ok.aW c_mk_Changed

end
end Go.Proofs.SYtbnjbajipjjbgaaGreatDoor
