/-
 What is proved here: functions of the program as functions on data. No condition.
-/
import Derived.Test.YtelglbbhbgjagaaGreatDoorML0
set_option linter.all false
namespace Go.Proofs.SYtelglbbhbgjagaaGreatDoor
open Go Go.AL Go.Proofs
noncomputable section
def ucall_Parts_203:Tab:=t4.inline P 203 Tryz.f203 []
theorem ucall_Parts_203_ok:TabOK P ucall_Parts_203:=t4_ok.inline hm Tryz.func203 (by kernel_rfl) []
def ucall_Parts_233:Tab:=ucall_Parts_203.inline P 233 Tryz.f233 []
theorem ucall_Parts_233_ok:TabOK P ucall_Parts_233:=ucall_Parts_203_ok.inline hm Tryz.func233 (by kernel_rfl) []
def ucall_Parts_202:Tab:=ucall_Parts_233.inline P 202 Tryz.f202 []
theorem ucall_Parts_202_ok:TabOK P ucall_Parts_202:=ucall_Parts_233_ok.inline hm Tryz.func202 (by kernel_rfl) []
def ucall_Parts_127:Tab:=ucall_Parts_202.inline P 127 Tryz.f127 []
theorem ucall_Parts_127_ok:TabOK P ucall_Parts_127:=ucall_Parts_202_ok.inline hm Tryz.func127 (by kernel_rfl) []
def ucall_Parts_184:Tab:=ucall_Parts_127.inline P 184 Tryz.f184 []
theorem ucall_Parts_184_ok:TabOK P ucall_Parts_184:=ucall_Parts_127_ok.inline hm Tryz.func184 (by kernel_rfl) []
def ucall_Parts_226:Tab:=ucall_Parts_184.inline P 226 Tryz.f226 []
theorem ucall_Parts_226_ok:TabOK P ucall_Parts_226:=ucall_Parts_184_ok.inline hm Tryz.func226 (by kernel_rfl) []
def ucall_Parts_185:Tab:=ucall_Parts_226.inline P 185 Tryz.f185 []
theorem ucall_Parts_185_ok:TabOK P ucall_Parts_185:=ucall_Parts_226_ok.inline hm Tryz.func185 (by kernel_rfl) []
def ucall_Parts_228:Tab:=ucall_Parts_185.inline P 228 Tryz.f228 []
theorem ucall_Parts_228_ok:TabOK P ucall_Parts_228:=ucall_Parts_185_ok.inline hm Tryz.func228 (by kernel_rfl) []
def ucall_Parts_187:Tab:=ucall_Parts_228.inline P 187 Tryz.f187 []
theorem ucall_Parts_187_ok:TabOK P ucall_Parts_187:=ucall_Parts_228_ok.inline hm Tryz.func187 (by kernel_rfl) []
def ucall_Parts_244:Tab:=ucall_Parts_187.inline P 244 Tryz.f244 []
theorem ucall_Parts_244_ok:TabOK P ucall_Parts_244:=ucall_Parts_187_ok.inline hm Tryz.func244 (by kernel_rfl) []
def ucall_Parts_245:Tab:=ucall_Parts_244.inline P 245 Tryz.f245 []
theorem ucall_Parts_245_ok:TabOK P ucall_Parts_245:=ucall_Parts_244_ok.inline hm Tryz.func245 (by kernel_rfl) []
def ucall_Parts_227:Tab:=ucall_Parts_245.inline P 227 Tryz.f227 []
theorem ucall_Parts_227_ok:TabOK P ucall_Parts_227:=ucall_Parts_245_ok.inline hm Tryz.func227 (by kernel_rfl) []
def ucall_Parts_235:Tab:=ucall_Parts_227.inline P 235 Tryz.f235 []
theorem ucall_Parts_235_ok:TabOK P ucall_Parts_235:=ucall_Parts_227_ok.inline hm Tryz.func235 (by kernel_rfl) []
def ucall_Parts_209:Tab:=ucall_Parts_235.inline P 209 Tryz.f209 []
theorem ucall_Parts_209_ok:TabOK P ucall_Parts_209:=ucall_Parts_235_ok.inline hm Tryz.func209 (by kernel_rfl) []
def ucall_Parts_200:Tab:=ucall_Parts_209.inline P 200 Tryz.f200 []
theorem ucall_Parts_200_ok:TabOK P ucall_Parts_200:=ucall_Parts_209_ok.inline hm Tryz.func200 (by kernel_rfl) []
def ucall_Parts_139:Tab:=ucall_Parts_200.inline P 139 Tryz.f139 []
theorem ucall_Parts_139_ok:TabOK P ucall_Parts_139:=ucall_Parts_200_ok.inline hm Tryz.func139 (by kernel_rfl) []
def ucall_Parts_269:Tab:=ucall_Parts_139.inline P 269 Tryz.f269 []
theorem ucall_Parts_269_ok:TabOK P ucall_Parts_269:=ucall_Parts_139_ok.inline hm Tryz.func269 (by kernel_rfl) []
def ucall_Parts_248:Tab:=ucall_Parts_269.inline P 248 Tryz.f248 []
theorem ucall_Parts_248_ok:TabOK P ucall_Parts_248:=ucall_Parts_269_ok.inline hm Tryz.func248 (by kernel_rfl) []
def ucall_Parts_232:Tab:=ucall_Parts_248.inline P 232 Tryz.f232 []
theorem ucall_Parts_232_ok:TabOK P ucall_Parts_232:=ucall_Parts_248_ok.inline hm Tryz.func232 (by kernel_rfl) []
def ucall_Parts_201:Tab:=ucall_Parts_232.inline P 201 Tryz.f201 []
theorem ucall_Parts_201_ok:TabOK P ucall_Parts_201:=ucall_Parts_232_ok.inline hm Tryz.func201 (by kernel_rfl) []
def ucall_Parts_140:Tab:=ucall_Parts_201.inline P 140 Tryz.f140 []
theorem ucall_Parts_140_ok:TabOK P ucall_Parts_140:=ucall_Parts_201_ok.inline hm Tryz.func140 (by kernel_rfl) []
def ucall_Parts_141:Tab:=ucall_Parts_140.inline P 141 Tryz.f141 []
theorem ucall_Parts_141_ok:TabOK P ucall_Parts_141:=ucall_Parts_140_ok.inline hm Tryz.func141 (by kernel_rfl) []
def ucall_Parts_142:Tab:=ucall_Parts_141.inline P 142 Tryz.f142 []
theorem ucall_Parts_142_ok:TabOK P ucall_Parts_142:=ucall_Parts_141_ok.inline hm Tryz.func142 (by kernel_rfl) []
def tab_call_Parts:List (ByteArray × List G):=[(⟨#[]⟩,[.l [[.s ⟨#[]⟩,.s ⟨#[]⟩,.s ⟨#[]⟩,.i 0,.s ⟨#[]⟩]],.t false]),(⟨#[107,49]⟩,[.l [[.s ⟨#[]⟩,.s ⟨#[]⟩,.s ⟨#[]⟩,.i 0,.s ⟨#[]⟩]],.t false]),(⟨#[75,49,65,66]⟩,[.l [[.s ⟨#[]⟩,.s ⟨#[]⟩,.s ⟨#[]⟩,.i 0,.s ⟨#[]⟩]],.t false]),(⟨#[107,49,97,98,47]⟩,[.l [[.s ⟨#[]⟩,.s ⟨#[]⟩,.s ⟨#[]⟩,.i 0,.s ⟨#[]⟩]],.t false]),(⟨#[49,97]⟩,[.l [[.s ⟨#[]⟩,.s ⟨#[]⟩,.s ⟨#[]⟩,.i 0,.s ⟨#[]⟩]],.t false]),(⟨#[107,49,97,98,47,109,109,47,112]⟩,[.l [[.s ⟨#[]⟩,.s ⟨#[]⟩,.s ⟨#[]⟩,.i 0,.s ⟨#[]⟩]],.t false]),(⟨#[107,49,97,98]⟩,[.l [[.s ⟨#[107,49,97,98]⟩,.s ⟨#[107,49]⟩,.s ⟨#[97,98]⟩,.i 0,.s ⟨#[]⟩]],.t true]),(⟨#[107,49,97,97]⟩,[.l [[.s ⟨#[107,49,97,97]⟩,.s ⟨#[107,49]⟩,.s ⟨#[97,97]⟩,.i 0,.s ⟨#[]⟩]],.t true]),(⟨#[107,49,97,98,47,52]⟩,[.l [[.s ⟨#[107,49,97,98]⟩,.s ⟨#[107,49]⟩,.s ⟨#[97,98]⟩,.i 2,.s ⟨#[52]⟩]],.t true]),(⟨#[111,104,50,97,98,99]⟩,[.l [[.s ⟨#[111,104,50,97,98,99]⟩,.s ⟨#[111,104,50]⟩,.s ⟨#[97,98,99]⟩,.i 0,.s ⟨#[]⟩]],.t true]),(⟨#[111,104,50,97,98,100]⟩,[.l [[.s ⟨#[111,104,50,97,98,100]⟩,.s ⟨#[111,104,50]⟩,.s ⟨#[97,98,100]⟩,.i 0,.s ⟨#[]⟩]],.t true]),(⟨#[119,49,97,119]⟩,[.l [[.s ⟨#[119,49,97,119]⟩,.s ⟨#[119,49]⟩,.s ⟨#[97,119]⟩,.i 0,.s ⟨#[]⟩]],.t true]),(⟨#[110,49,109,109]⟩,[.l [[.s ⟨#[110,49,109,109]⟩,.s ⟨#[110,49]⟩,.s ⟨#[109,109]⟩,.i 0,.s ⟨#[]⟩]],.t true]),(⟨#[103,51,120,121,122,47,112]⟩,[.l [[.s ⟨#[103,51,120,121,122]⟩,.s ⟨#[103,51]⟩,.s ⟨#[120,121,122]⟩,.i 3,.s ⟨#[]⟩]],.t true])]
def F_call_Parts (d:List G):Option (List G):=lookS tab_call_Parts (gi d 0).str
def s_call_Parts:FSpec:=⟨92,[.s (.str)],[],[],[.s (.row KParts),.s (.bool)],[],[],[],F_call_Parts⟩
theorem q0_call_Parts:PCall P 92 [aS ⟨#[]⟩] (s_call_Parts.out [.l [[.s ⟨#[]⟩,.s ⟨#[]⟩,.s ⟨#[]⟩,.i 0,.s ⟨#[]⟩]],.t false]):=fn_pure (L:=nL0) hm ucall_Parts_142_ok [] (fun _ _=>nLk _ _ _) Tryz.func92 rfl (by kernel_rfl) (by kernel_rfl)
theorem q1_call_Parts:PCall P 92 [aS ⟨#[107,49]⟩] (s_call_Parts.out [.l [[.s ⟨#[]⟩,.s ⟨#[]⟩,.s ⟨#[]⟩,.i 0,.s ⟨#[]⟩]],.t false]):=fn_pure (L:=nL0) hm ucall_Parts_142_ok [] (fun _ _=>nLk _ _ _) Tryz.func92 rfl (by kernel_rfl) (by kernel_rfl)
theorem q2_call_Parts:PCall P 92 [aS ⟨#[75,49,65,66]⟩] (s_call_Parts.out [.l [[.s ⟨#[]⟩,.s ⟨#[]⟩,.s ⟨#[]⟩,.i 0,.s ⟨#[]⟩]],.t false]):=fn_pure (L:=nL0) hm ucall_Parts_142_ok [] (fun _ _=>nLk _ _ _) Tryz.func92 rfl (by kernel_rfl) (by kernel_rfl)
theorem q3_call_Parts:PCall P 92 [aS ⟨#[107,49,97,98,47]⟩] (s_call_Parts.out [.l [[.s ⟨#[]⟩,.s ⟨#[]⟩,.s ⟨#[]⟩,.i 0,.s ⟨#[]⟩]],.t false]):=fn_pure (L:=nL0) hm ucall_Parts_142_ok [] (fun _ _=>nLk _ _ _) Tryz.func92 rfl (by kernel_rfl) (by kernel_rfl)
theorem q4_call_Parts:PCall P 92 [aS ⟨#[49,97]⟩] (s_call_Parts.out [.l [[.s ⟨#[]⟩,.s ⟨#[]⟩,.s ⟨#[]⟩,.i 0,.s ⟨#[]⟩]],.t false]):=fn_pure (L:=nL0) hm ucall_Parts_142_ok [] (fun _ _=>nLk _ _ _) Tryz.func92 rfl (by kernel_rfl) (by kernel_rfl)
theorem q5_call_Parts:PCall P 92 [aS ⟨#[107,49,97,98,47,109,109,47,112]⟩] (s_call_Parts.out [.l [[.s ⟨#[]⟩,.s ⟨#[]⟩,.s ⟨#[]⟩,.i 0,.s ⟨#[]⟩]],.t false]):=fn_pure (L:=nL0) hm ucall_Parts_142_ok [] (fun _ _=>nLk _ _ _) Tryz.func92 rfl (by kernel_rfl) (by kernel_rfl)
theorem q6_call_Parts:PCall P 92 [aS ⟨#[107,49,97,98]⟩] (s_call_Parts.out [.l [[.s ⟨#[107,49,97,98]⟩,.s ⟨#[107,49]⟩,.s ⟨#[97,98]⟩,.i 0,.s ⟨#[]⟩]],.t true]):=fn_pure (L:=nL0) hm ucall_Parts_142_ok [] (fun _ _=>nLk _ _ _) Tryz.func92 rfl (by kernel_rfl) (by kernel_rfl)
theorem q7_call_Parts:PCall P 92 [aS ⟨#[107,49,97,97]⟩] (s_call_Parts.out [.l [[.s ⟨#[107,49,97,97]⟩,.s ⟨#[107,49]⟩,.s ⟨#[97,97]⟩,.i 0,.s ⟨#[]⟩]],.t true]):=fn_pure (L:=nL0) hm ucall_Parts_142_ok [] (fun _ _=>nLk _ _ _) Tryz.func92 rfl (by kernel_rfl) (by kernel_rfl)
theorem q8_call_Parts:PCall P 92 [aS ⟨#[107,49,97,98,47,52]⟩] (s_call_Parts.out [.l [[.s ⟨#[107,49,97,98]⟩,.s ⟨#[107,49]⟩,.s ⟨#[97,98]⟩,.i 2,.s ⟨#[52]⟩]],.t true]):=fn_pure (L:=nL0) hm ucall_Parts_142_ok [] (fun _ _=>nLk _ _ _) Tryz.func92 rfl (by kernel_rfl) (by kernel_rfl)
theorem q9_call_Parts:PCall P 92 [aS ⟨#[111,104,50,97,98,99]⟩] (s_call_Parts.out [.l [[.s ⟨#[111,104,50,97,98,99]⟩,.s ⟨#[111,104,50]⟩,.s ⟨#[97,98,99]⟩,.i 0,.s ⟨#[]⟩]],.t true]):=fn_pure (L:=nL0) hm ucall_Parts_142_ok [] (fun _ _=>nLk _ _ _) Tryz.func92 rfl (by kernel_rfl) (by kernel_rfl)
theorem q10_call_Parts:PCall P 92 [aS ⟨#[111,104,50,97,98,100]⟩] (s_call_Parts.out [.l [[.s ⟨#[111,104,50,97,98,100]⟩,.s ⟨#[111,104,50]⟩,.s ⟨#[97,98,100]⟩,.i 0,.s ⟨#[]⟩]],.t true]):=fn_pure (L:=nL0) hm ucall_Parts_142_ok [] (fun _ _=>nLk _ _ _) Tryz.func92 rfl (by kernel_rfl) (by kernel_rfl)
theorem q11_call_Parts:PCall P 92 [aS ⟨#[119,49,97,119]⟩] (s_call_Parts.out [.l [[.s ⟨#[119,49,97,119]⟩,.s ⟨#[119,49]⟩,.s ⟨#[97,119]⟩,.i 0,.s ⟨#[]⟩]],.t true]):=fn_pure (L:=nL0) hm ucall_Parts_142_ok [] (fun _ _=>nLk _ _ _) Tryz.func92 rfl (by kernel_rfl) (by kernel_rfl)
theorem q12_call_Parts:PCall P 92 [aS ⟨#[110,49,109,109]⟩] (s_call_Parts.out [.l [[.s ⟨#[110,49,109,109]⟩,.s ⟨#[110,49]⟩,.s ⟨#[109,109]⟩,.i 0,.s ⟨#[]⟩]],.t true]):=fn_pure (L:=nL0) hm ucall_Parts_142_ok [] (fun _ _=>nLk _ _ _) Tryz.func92 rfl (by kernel_rfl) (by kernel_rfl)
theorem q13_call_Parts:PCall P 92 [aS ⟨#[103,51,120,121,122,47,112]⟩] (s_call_Parts.out [.l [[.s ⟨#[103,51,120,121,122]⟩,.s ⟨#[103,51]⟩,.s ⟨#[120,121,122]⟩,.i 3,.s ⟨#[]⟩]],.t true]):=fn_pure (L:=nL0) hm ucall_Parts_142_ok [] (fun _ _=>nLk _ _ _) Tryz.func92 rfl (by kernel_rfl) (by kernel_rfl)
theorem c_call_Parts:∀ d r,F_call_Parts d=some r→ACallX P 92 (s_call_Parts.args0 d) (denH (s_call_Parts.H0 d)) (s_call_Parts.out r) (denH (s_call_Parts.H1 r)):=fun d r h=>by
 have h:=lookS_mem h
 have key:PCall P 92 [aS (gi d 0).str] (s_call_Parts.out r):=by
  generalize (gi d 0).str=s at h
  simp only [tab_call_Parts,List.mem_cons,List.not_mem_nil,or_false,Prod.mk.injEq] at h
  rcases h with ⟨rfl,rfl⟩ | ⟨rfl,rfl⟩ | ⟨rfl,rfl⟩ | ⟨rfl,rfl⟩ | ⟨rfl,rfl⟩ | ⟨rfl,rfl⟩ | ⟨rfl,rfl⟩ | ⟨rfl,rfl⟩ | ⟨rfl,rfl⟩ | ⟨rfl,rfl⟩ | ⟨rfl,rfl⟩ | ⟨rfl,rfl⟩ | ⟨rfl,rfl⟩ | ⟨rfl,rfl⟩
  ·exact q0_call_Parts
  ·exact q1_call_Parts
  ·exact q2_call_Parts
  ·exact q3_call_Parts
  ·exact q4_call_Parts
  ·exact q5_call_Parts
  ·exact q6_call_Parts
  ·exact q7_call_Parts
  ·exact q8_call_Parts
  ·exact q9_call_Parts
  ·exact q10_call_Parts
  ·exact q11_call_Parts
  ·exact q12_call_Parts
  ·exact q13_call_Parts
 exact key []
def t5:Tab:=t4.addP s_call_Parts
theorem t5_ok:TabOK P t5:=t4_ok.aP c_call_Parts
def ur1_PartsOf_245:Tab:=t5.inline P 245 Tryz.f245 []
theorem ur1_PartsOf_245_ok:TabOK P ur1_PartsOf_245:=t5_ok.inline hm Tryz.func245 (by kernel_rfl) []
def ur1_PartsOf_269:Tab:=ur1_PartsOf_245.inline P 269 Tryz.f269 []
theorem ur1_PartsOf_269_ok:TabOK P ur1_PartsOf_269:=ur1_PartsOf_245_ok.inline hm Tryz.func269 (by kernel_rfl) []
def ur1_PartsOf_248:Tab:=ur1_PartsOf_269.inline P 248 Tryz.f248 []
theorem ur1_PartsOf_248_ok:TabOK P ur1_PartsOf_248:=ur1_PartsOf_269_ok.inline hm Tryz.func248 (by kernel_rfl) []
def ur1_PartsOf_232:Tab:=ur1_PartsOf_248.inline P 232 Tryz.f232 []
theorem ur1_PartsOf_232_ok:TabOK P ur1_PartsOf_232:=ur1_PartsOf_248_ok.inline hm Tryz.func232 (by kernel_rfl) []
def ur1_PartsOf_201:Tab:=ur1_PartsOf_232.inline P 201 Tryz.f201 []
theorem ur1_PartsOf_201_ok:TabOK P ur1_PartsOf_201:=ur1_PartsOf_232_ok.inline hm Tryz.func201 (by kernel_rfl) []
def ur1_PartsOf_140:Tab:=ur1_PartsOf_201.inline P 140 Tryz.f140 []
theorem ur1_PartsOf_140_ok:TabOK P ur1_PartsOf_140:=ur1_PartsOf_201_ok.inline hm Tryz.func140 (by kernel_rfl) []
def ur1_PartsOf_127:Tab:=ur1_PartsOf_140.inline P 127 Tryz.f127 []
theorem ur1_PartsOf_127_ok:TabOK P ur1_PartsOf_127:=ur1_PartsOf_140_ok.inline hm Tryz.func127 (by kernel_rfl) []
def ur1_PartsOf_184:Tab:=ur1_PartsOf_127.inline P 184 Tryz.f184 []
theorem ur1_PartsOf_184_ok:TabOK P ur1_PartsOf_184:=ur1_PartsOf_127_ok.inline hm Tryz.func184 (by kernel_rfl) []
def ur1_PartsOf_226:Tab:=ur1_PartsOf_184.inline P 226 Tryz.f226 []
theorem ur1_PartsOf_226_ok:TabOK P ur1_PartsOf_226:=ur1_PartsOf_184_ok.inline hm Tryz.func226 (by kernel_rfl) []
def ur1_PartsOf_185:Tab:=ur1_PartsOf_226.inline P 185 Tryz.f185 []
theorem ur1_PartsOf_185_ok:TabOK P ur1_PartsOf_185:=ur1_PartsOf_226_ok.inline hm Tryz.func185 (by kernel_rfl) []
def ur1_PartsOf_228:Tab:=ur1_PartsOf_185.inline P 228 Tryz.f228 []
theorem ur1_PartsOf_228_ok:TabOK P ur1_PartsOf_228:=ur1_PartsOf_185_ok.inline hm Tryz.func228 (by kernel_rfl) []
def ur1_PartsOf_187:Tab:=ur1_PartsOf_228.inline P 187 Tryz.f187 []
theorem ur1_PartsOf_187_ok:TabOK P ur1_PartsOf_187:=ur1_PartsOf_228_ok.inline hm Tryz.func187 (by kernel_rfl) []
def ur1_PartsOf_244:Tab:=ur1_PartsOf_187.inline P 244 Tryz.f244 []
theorem ur1_PartsOf_244_ok:TabOK P ur1_PartsOf_244:=ur1_PartsOf_187_ok.inline hm Tryz.func244 (by kernel_rfl) []
def ur1_PartsOf_227:Tab:=ur1_PartsOf_244.inline P 227 Tryz.f227 []
theorem ur1_PartsOf_227_ok:TabOK P ur1_PartsOf_227:=ur1_PartsOf_244_ok.inline hm Tryz.func227 (by kernel_rfl) []
def ur1_PartsOf_235:Tab:=ur1_PartsOf_227.inline P 235 Tryz.f235 []
theorem ur1_PartsOf_235_ok:TabOK P ur1_PartsOf_235:=ur1_PartsOf_227_ok.inline hm Tryz.func235 (by kernel_rfl) []
def ur1_PartsOf_209:Tab:=ur1_PartsOf_235.inline P 209 Tryz.f209 []
theorem ur1_PartsOf_209_ok:TabOK P ur1_PartsOf_209:=ur1_PartsOf_235_ok.inline hm Tryz.func209 (by kernel_rfl) []
def ur1_PartsOf_211:Tab:=ur1_PartsOf_209.inline P 211 Tryz.f211 []
theorem ur1_PartsOf_211_ok:TabOK P ur1_PartsOf_211:=ur1_PartsOf_209_ok.inline hm Tryz.func211 (by kernel_rfl) []
def ur1_PartsOf_236:Tab:=ur1_PartsOf_211.inline P 236 Tryz.f236 []
theorem ur1_PartsOf_236_ok:TabOK P ur1_PartsOf_236:=ur1_PartsOf_211_ok.inline hm Tryz.func236 (by kernel_rfl) []
def ur1_PartsOf_212:Tab:=ur1_PartsOf_236.inline P 212 Tryz.f212 []
theorem ur1_PartsOf_212_ok:TabOK P ur1_PartsOf_212:=ur1_PartsOf_236_ok.inline hm Tryz.func212 (by kernel_rfl) []
def ur1_PartsOf_210:Tab:=ur1_PartsOf_212.inline P 210 Tryz.f210 []
theorem ur1_PartsOf_210_ok:TabOK P ur1_PartsOf_210:=ur1_PartsOf_212_ok.inline hm Tryz.func210 (by kernel_rfl) []
def ur1_PartsOf_155:Tab:=ur1_PartsOf_210.inline P 155 Tryz.f155 []
theorem ur1_PartsOf_155_ok:TabOK P ur1_PartsOf_155:=ur1_PartsOf_210_ok.inline hm Tryz.func155 (by kernel_rfl) []
def ur1_PartsOf_154:Tab:=ur1_PartsOf_155.inline P 154 Tryz.f154 []
theorem ur1_PartsOf_154_ok:TabOK P ur1_PartsOf_154:=ur1_PartsOf_155_ok.inline hm Tryz.func154 (by kernel_rfl) []
def ur1_PartsOf_156:Tab:=ur1_PartsOf_154.inline P 156 Tryz.f156 []
theorem ur1_PartsOf_156_ok:TabOK P ur1_PartsOf_156:=ur1_PartsOf_154_ok.inline hm Tryz.func156 (by kernel_rfl) []
def ur1_PartsOf_213:Tab:=ur1_PartsOf_156.inline P 213 Tryz.f213 []
theorem ur1_PartsOf_213_ok:TabOK P ur1_PartsOf_213:=ur1_PartsOf_156_ok.inline hm Tryz.func213 (by kernel_rfl) []
def ur1_PartsOf_157:Tab:=ur1_PartsOf_213.inline P 157 Tryz.f157 []
theorem ur1_PartsOf_157_ok:TabOK P ur1_PartsOf_157:=ur1_PartsOf_213_ok.inline hm Tryz.func157 (by kernel_rfl) []
def tab_r1_PartsOf:List (ByteArray × List G):=[(⟨#[]⟩,[.l [[.s ⟨#[]⟩,.s ⟨#[]⟩,.s ⟨#[]⟩,.i 0,.s ⟨#[]⟩]],.t false]),(⟨#[107,49]⟩,[.l [[.s ⟨#[]⟩,.s ⟨#[]⟩,.s ⟨#[]⟩,.i 0,.s ⟨#[]⟩]],.t false]),(⟨#[75,49,65,66]⟩,[.l [[.s ⟨#[]⟩,.s ⟨#[]⟩,.s ⟨#[]⟩,.i 0,.s ⟨#[]⟩]],.t false]),(⟨#[107,49,97,98,47]⟩,[.l [[.s ⟨#[]⟩,.s ⟨#[]⟩,.s ⟨#[]⟩,.i 0,.s ⟨#[]⟩]],.t false]),(⟨#[49,97]⟩,[.l [[.s ⟨#[]⟩,.s ⟨#[]⟩,.s ⟨#[]⟩,.i 0,.s ⟨#[]⟩]],.t false]),(⟨#[107,49,97,98,47,109,109,47,112]⟩,[.l [[.s ⟨#[]⟩,.s ⟨#[]⟩,.s ⟨#[]⟩,.i 0,.s ⟨#[]⟩]],.t false]),(⟨#[107,49,97,98]⟩,[.l [[.s ⟨#[107,49,97,98]⟩,.s ⟨#[107,49]⟩,.s ⟨#[97,98]⟩,.i 0,.s ⟨#[]⟩]],.t true]),(⟨#[107,49,97,97]⟩,[.l [[.s ⟨#[107,49,97,97]⟩,.s ⟨#[107,49]⟩,.s ⟨#[97,97]⟩,.i 0,.s ⟨#[]⟩]],.t true]),(⟨#[107,49,97,98,47,52]⟩,[.l [[.s ⟨#[107,49,97,98]⟩,.s ⟨#[107,49]⟩,.s ⟨#[97,98]⟩,.i 2,.s ⟨#[52]⟩]],.t true]),(⟨#[111,104,50,97,98,99]⟩,[.l [[.s ⟨#[111,104,50,97,98,99]⟩,.s ⟨#[111,104,50]⟩,.s ⟨#[97,98,99]⟩,.i 0,.s ⟨#[]⟩]],.t true]),(⟨#[111,104,50,97,98,100]⟩,[.l [[.s ⟨#[111,104,50,97,98,100]⟩,.s ⟨#[111,104,50]⟩,.s ⟨#[97,98,100]⟩,.i 0,.s ⟨#[]⟩]],.t true]),(⟨#[119,49,97,119]⟩,[.l [[.s ⟨#[119,49,97,119]⟩,.s ⟨#[119,49]⟩,.s ⟨#[97,119]⟩,.i 0,.s ⟨#[]⟩]],.t true]),(⟨#[110,49,109,109]⟩,[.l [[.s ⟨#[110,49,109,109]⟩,.s ⟨#[110,49]⟩,.s ⟨#[109,109]⟩,.i 0,.s ⟨#[]⟩]],.t true]),(⟨#[103,51,120,121,122,47,112]⟩,[.l [[.s ⟨#[103,51,120,121,122]⟩,.s ⟨#[103,51]⟩,.s ⟨#[120,121,122]⟩,.i 3,.s ⟨#[]⟩]],.t true])]
def F_r1_PartsOf (d:List G):Option (List G):=lookS tab_r1_PartsOf (gi d 0).str
def s_r1_PartsOf:FSpec:=⟨95,[.s (.str)],[],[],[.s (.row KParts),.s (.bool)],[],[],[],F_r1_PartsOf⟩
theorem q0_r1_PartsOf:PCall P 95 [aS ⟨#[]⟩] (s_r1_PartsOf.out [.l [[.s ⟨#[]⟩,.s ⟨#[]⟩,.s ⟨#[]⟩,.i 0,.s ⟨#[]⟩]],.t false]):=fn_pure (L:=nL0) hm ur1_PartsOf_157_ok [] (fun _ _=>nLk _ _ _) Tryz.func95 rfl (by kernel_rfl) (by kernel_rfl)
theorem q1_r1_PartsOf:PCall P 95 [aS ⟨#[107,49]⟩] (s_r1_PartsOf.out [.l [[.s ⟨#[]⟩,.s ⟨#[]⟩,.s ⟨#[]⟩,.i 0,.s ⟨#[]⟩]],.t false]):=fn_pure (L:=nL0) hm ur1_PartsOf_157_ok [] (fun _ _=>nLk _ _ _) Tryz.func95 rfl (by kernel_rfl) (by kernel_rfl)
theorem q2_r1_PartsOf:PCall P 95 [aS ⟨#[75,49,65,66]⟩] (s_r1_PartsOf.out [.l [[.s ⟨#[]⟩,.s ⟨#[]⟩,.s ⟨#[]⟩,.i 0,.s ⟨#[]⟩]],.t false]):=fn_pure (L:=nL0) hm ur1_PartsOf_157_ok [] (fun _ _=>nLk _ _ _) Tryz.func95 rfl (by kernel_rfl) (by kernel_rfl)
theorem q3_r1_PartsOf:PCall P 95 [aS ⟨#[107,49,97,98,47]⟩] (s_r1_PartsOf.out [.l [[.s ⟨#[]⟩,.s ⟨#[]⟩,.s ⟨#[]⟩,.i 0,.s ⟨#[]⟩]],.t false]):=fn_pure (L:=nL0) hm ur1_PartsOf_157_ok [] (fun _ _=>nLk _ _ _) Tryz.func95 rfl (by kernel_rfl) (by kernel_rfl)
theorem q4_r1_PartsOf:PCall P 95 [aS ⟨#[49,97]⟩] (s_r1_PartsOf.out [.l [[.s ⟨#[]⟩,.s ⟨#[]⟩,.s ⟨#[]⟩,.i 0,.s ⟨#[]⟩]],.t false]):=fn_pure (L:=nL0) hm ur1_PartsOf_157_ok [] (fun _ _=>nLk _ _ _) Tryz.func95 rfl (by kernel_rfl) (by kernel_rfl)
theorem q5_r1_PartsOf:PCall P 95 [aS ⟨#[107,49,97,98,47,109,109,47,112]⟩] (s_r1_PartsOf.out [.l [[.s ⟨#[]⟩,.s ⟨#[]⟩,.s ⟨#[]⟩,.i 0,.s ⟨#[]⟩]],.t false]):=fn_pure (L:=nL0) hm ur1_PartsOf_157_ok [] (fun _ _=>nLk _ _ _) Tryz.func95 rfl (by kernel_rfl) (by kernel_rfl)
theorem q6_r1_PartsOf:PCall P 95 [aS ⟨#[107,49,97,98]⟩] (s_r1_PartsOf.out [.l [[.s ⟨#[107,49,97,98]⟩,.s ⟨#[107,49]⟩,.s ⟨#[97,98]⟩,.i 0,.s ⟨#[]⟩]],.t true]):=fn_pure (L:=nL0) hm ur1_PartsOf_157_ok [] (fun _ _=>nLk _ _ _) Tryz.func95 rfl (by kernel_rfl) (by kernel_rfl)
theorem q7_r1_PartsOf:PCall P 95 [aS ⟨#[107,49,97,97]⟩] (s_r1_PartsOf.out [.l [[.s ⟨#[107,49,97,97]⟩,.s ⟨#[107,49]⟩,.s ⟨#[97,97]⟩,.i 0,.s ⟨#[]⟩]],.t true]):=fn_pure (L:=nL0) hm ur1_PartsOf_157_ok [] (fun _ _=>nLk _ _ _) Tryz.func95 rfl (by kernel_rfl) (by kernel_rfl)
theorem q8_r1_PartsOf:PCall P 95 [aS ⟨#[107,49,97,98,47,52]⟩] (s_r1_PartsOf.out [.l [[.s ⟨#[107,49,97,98]⟩,.s ⟨#[107,49]⟩,.s ⟨#[97,98]⟩,.i 2,.s ⟨#[52]⟩]],.t true]):=fn_pure (L:=nL0) hm ur1_PartsOf_157_ok [] (fun _ _=>nLk _ _ _) Tryz.func95 rfl (by kernel_rfl) (by kernel_rfl)
theorem q9_r1_PartsOf:PCall P 95 [aS ⟨#[111,104,50,97,98,99]⟩] (s_r1_PartsOf.out [.l [[.s ⟨#[111,104,50,97,98,99]⟩,.s ⟨#[111,104,50]⟩,.s ⟨#[97,98,99]⟩,.i 0,.s ⟨#[]⟩]],.t true]):=fn_pure (L:=nL0) hm ur1_PartsOf_157_ok [] (fun _ _=>nLk _ _ _) Tryz.func95 rfl (by kernel_rfl) (by kernel_rfl)
theorem q10_r1_PartsOf:PCall P 95 [aS ⟨#[111,104,50,97,98,100]⟩] (s_r1_PartsOf.out [.l [[.s ⟨#[111,104,50,97,98,100]⟩,.s ⟨#[111,104,50]⟩,.s ⟨#[97,98,100]⟩,.i 0,.s ⟨#[]⟩]],.t true]):=fn_pure (L:=nL0) hm ur1_PartsOf_157_ok [] (fun _ _=>nLk _ _ _) Tryz.func95 rfl (by kernel_rfl) (by kernel_rfl)
theorem q11_r1_PartsOf:PCall P 95 [aS ⟨#[119,49,97,119]⟩] (s_r1_PartsOf.out [.l [[.s ⟨#[119,49,97,119]⟩,.s ⟨#[119,49]⟩,.s ⟨#[97,119]⟩,.i 0,.s ⟨#[]⟩]],.t true]):=fn_pure (L:=nL0) hm ur1_PartsOf_157_ok [] (fun _ _=>nLk _ _ _) Tryz.func95 rfl (by kernel_rfl) (by kernel_rfl)
theorem q12_r1_PartsOf:PCall P 95 [aS ⟨#[110,49,109,109]⟩] (s_r1_PartsOf.out [.l [[.s ⟨#[110,49,109,109]⟩,.s ⟨#[110,49]⟩,.s ⟨#[109,109]⟩,.i 0,.s ⟨#[]⟩]],.t true]):=fn_pure (L:=nL0) hm ur1_PartsOf_157_ok [] (fun _ _=>nLk _ _ _) Tryz.func95 rfl (by kernel_rfl) (by kernel_rfl)
theorem q13_r1_PartsOf:PCall P 95 [aS ⟨#[103,51,120,121,122,47,112]⟩] (s_r1_PartsOf.out [.l [[.s ⟨#[103,51,120,121,122]⟩,.s ⟨#[103,51]⟩,.s ⟨#[120,121,122]⟩,.i 3,.s ⟨#[]⟩]],.t true]):=fn_pure (L:=nL0) hm ur1_PartsOf_157_ok [] (fun _ _=>nLk _ _ _) Tryz.func95 rfl (by kernel_rfl) (by kernel_rfl)
theorem c_r1_PartsOf:∀ d r,F_r1_PartsOf d=some r→ACallX P 95 (s_r1_PartsOf.args0 d) (denH (s_r1_PartsOf.H0 d)) (s_r1_PartsOf.out r) (denH (s_r1_PartsOf.H1 r)):=fun d r h=>by
 have h:=lookS_mem h
 have key:PCall P 95 [aS (gi d 0).str] (s_r1_PartsOf.out r):=by
  generalize (gi d 0).str=s at h
  simp only [tab_r1_PartsOf,List.mem_cons,List.not_mem_nil,or_false,Prod.mk.injEq] at h
  rcases h with ⟨rfl,rfl⟩ | ⟨rfl,rfl⟩ | ⟨rfl,rfl⟩ | ⟨rfl,rfl⟩ | ⟨rfl,rfl⟩ | ⟨rfl,rfl⟩ | ⟨rfl,rfl⟩ | ⟨rfl,rfl⟩ | ⟨rfl,rfl⟩ | ⟨rfl,rfl⟩ | ⟨rfl,rfl⟩ | ⟨rfl,rfl⟩ | ⟨rfl,rfl⟩ | ⟨rfl,rfl⟩
  ·exact q0_r1_PartsOf
  ·exact q1_r1_PartsOf
  ·exact q2_r1_PartsOf
  ·exact q3_r1_PartsOf
  ·exact q4_r1_PartsOf
  ·exact q5_r1_PartsOf
  ·exact q6_r1_PartsOf
  ·exact q7_r1_PartsOf
  ·exact q8_r1_PartsOf
  ·exact q9_r1_PartsOf
  ·exact q10_r1_PartsOf
  ·exact q11_r1_PartsOf
  ·exact q12_r1_PartsOf
  ·exact q13_r1_PartsOf
 exact key []
def t6:Tab:=t5.addP s_r1_PartsOf
theorem t6_ok:TabOK P t6:=t5_ok.aP c_r1_PartsOf
end
end Go.Proofs.SYtelglbbhbgjagaaGreatDoor
