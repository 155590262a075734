/-
 What is proved here: functions of the program as functions on data. No condition.
-/
import Derived.Test.YtioeckojljemcaaGreatDoorML0
set_option linter.all false
namespace Go.Proofs.SYtioeckojljemcaaGreatDoor
open Go Go.AL Go.Proofs
noncomputable section
def ucall_Parts_171:Tab:=t4.inline P 171 Tryz.f171 []
theorem ucall_Parts_171_ok:TabOK P ucall_Parts_171:=t4_ok.inline hm Tryz.func171 (by kernel_rfl) []
def ucall_Parts_193:Tab:=ucall_Parts_171.inline P 193 Tryz.f193 []
theorem ucall_Parts_193_ok:TabOK P ucall_Parts_193:=ucall_Parts_171_ok.inline hm Tryz.func193 (by kernel_rfl) []
def ucall_Parts_172:Tab:=ucall_Parts_193.inline P 172 Tryz.f172 []
theorem ucall_Parts_172_ok:TabOK P ucall_Parts_172:=ucall_Parts_193_ok.inline hm Tryz.func172 (by kernel_rfl) []
def ucall_Parts_139:Tab:=ucall_Parts_172.inline P 139 Tryz.f139 []
theorem ucall_Parts_139_ok:TabOK P ucall_Parts_139:=ucall_Parts_172_ok.inline hm Tryz.func139 (by kernel_rfl) []
def ucall_Parts_98:Tab:=ucall_Parts_139.inline P 98 Tryz.f98 []
theorem ucall_Parts_98_ok:TabOK P ucall_Parts_98:=ucall_Parts_139_ok.inline hm Tryz.func98 (by kernel_rfl) []
def ucall_Parts_63:Tab:=ucall_Parts_98.inline P 63 Tryz.f63 []
theorem ucall_Parts_63_ok:TabOK P ucall_Parts_63:=ucall_Parts_98_ok.inline hm Tryz.func63 (by kernel_rfl) []
def ucall_Parts_112:Tab:=ucall_Parts_63.inline P 112 Tryz.f112 []
theorem ucall_Parts_112_ok:TabOK P ucall_Parts_112:=ucall_Parts_63_ok.inline hm Tryz.func112 (by kernel_rfl) []
def ucall_Parts_173:Tab:=ucall_Parts_112.inline P 173 Tryz.f173 []
theorem ucall_Parts_173_ok:TabOK P ucall_Parts_173:=ucall_Parts_112_ok.inline hm Tryz.func173 (by kernel_rfl) []
def ucall_Parts_140:Tab:=ucall_Parts_173.inline P 140 Tryz.f140 []
theorem ucall_Parts_140_ok:TabOK P ucall_Parts_140:=ucall_Parts_173_ok.inline hm Tryz.func140 (by kernel_rfl) []
def ucall_Parts_141:Tab:=ucall_Parts_140.inline P 141 Tryz.f141 []
theorem ucall_Parts_141_ok:TabOK P ucall_Parts_141:=ucall_Parts_140_ok.inline hm Tryz.func141 (by kernel_rfl) []
def ucall_Parts_142:Tab:=ucall_Parts_141.inline P 142 Tryz.f142 []
theorem ucall_Parts_142_ok:TabOK P ucall_Parts_142:=ucall_Parts_141_ok.inline hm Tryz.func142 (by kernel_rfl) []
def ucall_Parts_178:Tab:=ucall_Parts_142.inline P 178 Tryz.f178 []
theorem ucall_Parts_178_ok:TabOK P ucall_Parts_178:=ucall_Parts_142_ok.inline hm Tryz.func178 (by kernel_rfl) []
def ucall_Parts_150:Tab:=ucall_Parts_178.inline P 150 Tryz.f150 []
theorem ucall_Parts_150_ok:TabOK P ucall_Parts_150:=ucall_Parts_178_ok.inline hm Tryz.func150 (by kernel_rfl) []
def ucall_Parts_174:Tab:=ucall_Parts_150.inline P 174 Tryz.f174 []
theorem ucall_Parts_174_ok:TabOK P ucall_Parts_174:=ucall_Parts_150_ok.inline hm Tryz.func174 (by kernel_rfl) []
def ucall_Parts_143:Tab:=ucall_Parts_174.inline P 143 Tryz.f143 []
theorem ucall_Parts_143_ok:TabOK P ucall_Parts_143:=ucall_Parts_174_ok.inline hm Tryz.func143 (by kernel_rfl) []
def ucall_Parts_99:Tab:=ucall_Parts_143.inline P 99 Tryz.f99 []
theorem ucall_Parts_99_ok:TabOK P ucall_Parts_99:=ucall_Parts_143_ok.inline hm Tryz.func99 (by kernel_rfl) []
def ucall_Parts_177:Tab:=ucall_Parts_99.inline P 177 Tryz.f177 []
theorem ucall_Parts_177_ok:TabOK P ucall_Parts_177:=ucall_Parts_99_ok.inline hm Tryz.func177 (by kernel_rfl) []
def ucall_Parts_194:Tab:=ucall_Parts_177.inline P 194 Tryz.f194 []
theorem ucall_Parts_194_ok:TabOK P ucall_Parts_194:=ucall_Parts_177_ok.inline hm Tryz.func194 (by kernel_rfl) []
def ucall_Parts_176:Tab:=ucall_Parts_194.inline P 176 Tryz.f176 []
theorem ucall_Parts_176_ok:TabOK P ucall_Parts_176:=ucall_Parts_194_ok.inline hm Tryz.func176 (by kernel_rfl) []
def ucall_Parts_175:Tab:=ucall_Parts_176.inline P 175 Tryz.f175 []
theorem ucall_Parts_175_ok:TabOK P ucall_Parts_175:=ucall_Parts_176_ok.inline hm Tryz.func175 (by kernel_rfl) []
def ucall_Parts_146:Tab:=ucall_Parts_175.inline P 146 Tryz.f146 []
theorem ucall_Parts_146_ok:TabOK P ucall_Parts_146:=ucall_Parts_175_ok.inline hm Tryz.func146 (by kernel_rfl) []
def ucall_Parts_147:Tab:=ucall_Parts_146.inline P 147 Tryz.f147 []
theorem ucall_Parts_147_ok:TabOK P ucall_Parts_147:=ucall_Parts_146_ok.inline hm Tryz.func147 (by kernel_rfl) []
def ucall_Parts_148:Tab:=ucall_Parts_147.inline P 148 Tryz.f148 []
theorem ucall_Parts_148_ok:TabOK P ucall_Parts_148:=ucall_Parts_147_ok.inline hm Tryz.func148 (by kernel_rfl) []
def tab_call_Parts:List (ByteArray × List G):=[(⟨#[]⟩,[.l [[.s ⟨#[]⟩,.s ⟨#[]⟩,.s ⟨#[]⟩,.i 0,.s ⟨#[]⟩]],.t false]),(⟨#[107,49]⟩,[.l [[.s ⟨#[]⟩,.s ⟨#[]⟩,.s ⟨#[]⟩,.i 0,.s ⟨#[]⟩]],.t false]),(⟨#[75,49,65,66]⟩,[.l [[.s ⟨#[]⟩,.s ⟨#[]⟩,.s ⟨#[]⟩,.i 0,.s ⟨#[]⟩]],.t false]),(⟨#[107,49,97,98,47]⟩,[.l [[.s ⟨#[]⟩,.s ⟨#[]⟩,.s ⟨#[]⟩,.i 0,.s ⟨#[]⟩]],.t false]),(⟨#[49,97]⟩,[.l [[.s ⟨#[]⟩,.s ⟨#[]⟩,.s ⟨#[]⟩,.i 0,.s ⟨#[]⟩]],.t false]),(⟨#[107,49,97,98,47,109,109,47,112]⟩,[.l [[.s ⟨#[]⟩,.s ⟨#[]⟩,.s ⟨#[]⟩,.i 0,.s ⟨#[]⟩]],.t false]),(⟨#[107,49,97,98]⟩,[.l [[.s ⟨#[107,49,97,98]⟩,.s ⟨#[107,49]⟩,.s ⟨#[97,98]⟩,.i 0,.s ⟨#[]⟩]],.t true]),(⟨#[107,49,97,97]⟩,[.l [[.s ⟨#[107,49,97,97]⟩,.s ⟨#[107,49]⟩,.s ⟨#[97,97]⟩,.i 0,.s ⟨#[]⟩]],.t true]),(⟨#[107,49,97,98,47,52]⟩,[.l [[.s ⟨#[107,49,97,98]⟩,.s ⟨#[107,49]⟩,.s ⟨#[97,98]⟩,.i 2,.s ⟨#[52]⟩]],.t true]),(⟨#[111,104,50,97,98,99]⟩,[.l [[.s ⟨#[111,104,50,97,98,99]⟩,.s ⟨#[111,104,50]⟩,.s ⟨#[97,98,99]⟩,.i 0,.s ⟨#[]⟩]],.t true]),(⟨#[111,104,50,97,98,100]⟩,[.l [[.s ⟨#[111,104,50,97,98,100]⟩,.s ⟨#[111,104,50]⟩,.s ⟨#[97,98,100]⟩,.i 0,.s ⟨#[]⟩]],.t true]),(⟨#[119,49,97,119]⟩,[.l [[.s ⟨#[119,49,97,119]⟩,.s ⟨#[119,49]⟩,.s ⟨#[97,119]⟩,.i 0,.s ⟨#[]⟩]],.t true]),(⟨#[110,49,109,109]⟩,[.l [[.s ⟨#[110,49,109,109]⟩,.s ⟨#[110,49]⟩,.s ⟨#[109,109]⟩,.i 0,.s ⟨#[]⟩]],.t true]),(⟨#[103,51,120,121,122,47,112]⟩,[.l [[.s ⟨#[103,51,120,121,122]⟩,.s ⟨#[103,51]⟩,.s ⟨#[120,121,122]⟩,.i 3,.s ⟨#[]⟩]],.t true]),(⟨#[119,49,97,120]⟩,[.l [[.s ⟨#[119,49,97,120]⟩,.s ⟨#[119,49]⟩,.s ⟨#[97,120]⟩,.i 0,.s ⟨#[]⟩]],.t true])]
def F_call_Parts (d:List G):Option (List G):=lookS tab_call_Parts (gi d 0).str
def s_call_Parts:FSpec:=⟨108,[.s (.str)],[],[],[.s (.row KParts),.s (.bool)],[],[],[],F_call_Parts⟩
theorem q0_call_Parts:PCall P 108 [aS ⟨#[]⟩] (s_call_Parts.out [.l [[.s ⟨#[]⟩,.s ⟨#[]⟩,.s ⟨#[]⟩,.i 0,.s ⟨#[]⟩]],.t false]):=fn_pure (L:=nL0) hm ucall_Parts_148_ok [] (fun _ _=>nLk _ _ _) Tryz.func108 rfl (by kernel_rfl) (by kernel_rfl)
theorem q1_call_Parts:PCall P 108 [aS ⟨#[107,49]⟩] (s_call_Parts.out [.l [[.s ⟨#[]⟩,.s ⟨#[]⟩,.s ⟨#[]⟩,.i 0,.s ⟨#[]⟩]],.t false]):=fn_pure (L:=nL0) hm ucall_Parts_148_ok [] (fun _ _=>nLk _ _ _) Tryz.func108 rfl (by kernel_rfl) (by kernel_rfl)
theorem q2_call_Parts:PCall P 108 [aS ⟨#[75,49,65,66]⟩] (s_call_Parts.out [.l [[.s ⟨#[]⟩,.s ⟨#[]⟩,.s ⟨#[]⟩,.i 0,.s ⟨#[]⟩]],.t false]):=fn_pure (L:=nL0) hm ucall_Parts_148_ok [] (fun _ _=>nLk _ _ _) Tryz.func108 rfl (by kernel_rfl) (by kernel_rfl)
theorem q3_call_Parts:PCall P 108 [aS ⟨#[107,49,97,98,47]⟩] (s_call_Parts.out [.l [[.s ⟨#[]⟩,.s ⟨#[]⟩,.s ⟨#[]⟩,.i 0,.s ⟨#[]⟩]],.t false]):=fn_pure (L:=nL0) hm ucall_Parts_148_ok [] (fun _ _=>nLk _ _ _) Tryz.func108 rfl (by kernel_rfl) (by kernel_rfl)
theorem q4_call_Parts:PCall P 108 [aS ⟨#[49,97]⟩] (s_call_Parts.out [.l [[.s ⟨#[]⟩,.s ⟨#[]⟩,.s ⟨#[]⟩,.i 0,.s ⟨#[]⟩]],.t false]):=fn_pure (L:=nL0) hm ucall_Parts_148_ok [] (fun _ _=>nLk _ _ _) Tryz.func108 rfl (by kernel_rfl) (by kernel_rfl)
theorem q5_call_Parts:PCall P 108 [aS ⟨#[107,49,97,98,47,109,109,47,112]⟩] (s_call_Parts.out [.l [[.s ⟨#[]⟩,.s ⟨#[]⟩,.s ⟨#[]⟩,.i 0,.s ⟨#[]⟩]],.t false]):=fn_pure (L:=nL0) hm ucall_Parts_148_ok [] (fun _ _=>nLk _ _ _) Tryz.func108 rfl (by kernel_rfl) (by kernel_rfl)
theorem q6_call_Parts:PCall P 108 [aS ⟨#[107,49,97,98]⟩] (s_call_Parts.out [.l [[.s ⟨#[107,49,97,98]⟩,.s ⟨#[107,49]⟩,.s ⟨#[97,98]⟩,.i 0,.s ⟨#[]⟩]],.t true]):=fn_pure (L:=nL0) hm ucall_Parts_148_ok [] (fun _ _=>nLk _ _ _) Tryz.func108 rfl (by kernel_rfl) (by kernel_rfl)
theorem q7_call_Parts:PCall P 108 [aS ⟨#[107,49,97,97]⟩] (s_call_Parts.out [.l [[.s ⟨#[107,49,97,97]⟩,.s ⟨#[107,49]⟩,.s ⟨#[97,97]⟩,.i 0,.s ⟨#[]⟩]],.t true]):=fn_pure (L:=nL0) hm ucall_Parts_148_ok [] (fun _ _=>nLk _ _ _) Tryz.func108 rfl (by kernel_rfl) (by kernel_rfl)
theorem q8_call_Parts:PCall P 108 [aS ⟨#[107,49,97,98,47,52]⟩] (s_call_Parts.out [.l [[.s ⟨#[107,49,97,98]⟩,.s ⟨#[107,49]⟩,.s ⟨#[97,98]⟩,.i 2,.s ⟨#[52]⟩]],.t true]):=fn_pure (L:=nL0) hm ucall_Parts_148_ok [] (fun _ _=>nLk _ _ _) Tryz.func108 rfl (by kernel_rfl) (by kernel_rfl)
theorem q9_call_Parts:PCall P 108 [aS ⟨#[111,104,50,97,98,99]⟩] (s_call_Parts.out [.l [[.s ⟨#[111,104,50,97,98,99]⟩,.s ⟨#[111,104,50]⟩,.s ⟨#[97,98,99]⟩,.i 0,.s ⟨#[]⟩]],.t true]):=fn_pure (L:=nL0) hm ucall_Parts_148_ok [] (fun _ _=>nLk _ _ _) Tryz.func108 rfl (by kernel_rfl) (by kernel_rfl)
theorem q10_call_Parts:PCall P 108 [aS ⟨#[111,104,50,97,98,100]⟩] (s_call_Parts.out [.l [[.s ⟨#[111,104,50,97,98,100]⟩,.s ⟨#[111,104,50]⟩,.s ⟨#[97,98,100]⟩,.i 0,.s ⟨#[]⟩]],.t true]):=fn_pure (L:=nL0) hm ucall_Parts_148_ok [] (fun _ _=>nLk _ _ _) Tryz.func108 rfl (by kernel_rfl) (by kernel_rfl)
theorem q11_call_Parts:PCall P 108 [aS ⟨#[119,49,97,119]⟩] (s_call_Parts.out [.l [[.s ⟨#[119,49,97,119]⟩,.s ⟨#[119,49]⟩,.s ⟨#[97,119]⟩,.i 0,.s ⟨#[]⟩]],.t true]):=fn_pure (L:=nL0) hm ucall_Parts_148_ok [] (fun _ _=>nLk _ _ _) Tryz.func108 rfl (by kernel_rfl) (by kernel_rfl)
theorem q12_call_Parts:PCall P 108 [aS ⟨#[110,49,109,109]⟩] (s_call_Parts.out [.l [[.s ⟨#[110,49,109,109]⟩,.s ⟨#[110,49]⟩,.s ⟨#[109,109]⟩,.i 0,.s ⟨#[]⟩]],.t true]):=fn_pure (L:=nL0) hm ucall_Parts_148_ok [] (fun _ _=>nLk _ _ _) Tryz.func108 rfl (by kernel_rfl) (by kernel_rfl)
theorem q13_call_Parts:PCall P 108 [aS ⟨#[103,51,120,121,122,47,112]⟩] (s_call_Parts.out [.l [[.s ⟨#[103,51,120,121,122]⟩,.s ⟨#[103,51]⟩,.s ⟨#[120,121,122]⟩,.i 3,.s ⟨#[]⟩]],.t true]):=fn_pure (L:=nL0) hm ucall_Parts_148_ok [] (fun _ _=>nLk _ _ _) Tryz.func108 rfl (by kernel_rfl) (by kernel_rfl)
theorem q14_call_Parts:PCall P 108 [aS ⟨#[119,49,97,120]⟩] (s_call_Parts.out [.l [[.s ⟨#[119,49,97,120]⟩,.s ⟨#[119,49]⟩,.s ⟨#[97,120]⟩,.i 0,.s ⟨#[]⟩]],.t true]):=fn_pure (L:=nL0) hm ucall_Parts_148_ok [] (fun _ _=>nLk _ _ _) Tryz.func108 rfl (by kernel_rfl) (by kernel_rfl)
theorem c_call_Parts:∀ d r,F_call_Parts d=some r→ACallX P 108 (s_call_Parts.args0 d) (denH (s_call_Parts.H0 d)) (s_call_Parts.out r) (denH (s_call_Parts.H1 r)):=fun d r h=>by
 have h:=lookS_mem h
 have key:PCall P 108 [aS (gi d 0).str] (s_call_Parts.out r):=by
  generalize (gi d 0).str=s at h
  simp only [tab_call_Parts,List.mem_cons,List.not_mem_nil,or_false,Prod.mk.injEq] at h
  rcases h with ⟨rfl,rfl⟩ | ⟨rfl,rfl⟩ | ⟨rfl,rfl⟩ | ⟨rfl,rfl⟩ | ⟨rfl,rfl⟩ | ⟨rfl,rfl⟩ | ⟨rfl,rfl⟩ | ⟨rfl,rfl⟩ | ⟨rfl,rfl⟩ | ⟨rfl,rfl⟩ | ⟨rfl,rfl⟩ | ⟨rfl,rfl⟩ | ⟨rfl,rfl⟩ | ⟨rfl,rfl⟩ | ⟨rfl,rfl⟩
  ·exact q0_call_Parts
  ·exact q1_call_Parts
  ·exact q2_call_Parts
  ·exact q3_call_Parts
  ·exact q4_call_Parts
  ·exact q5_call_Parts
  ·exact q6_call_Parts
  ·exact q7_call_Parts
  ·exact q8_call_Parts
  ·exact q9_call_Parts
  ·exact q10_call_Parts
  ·exact q11_call_Parts
  ·exact q12_call_Parts
  ·exact q13_call_Parts
  ·exact q14_call_Parts
 exact key []
def t5:Tab:=t4.addP s_call_Parts
theorem t5_ok:TabOK P t5:=t4_ok.aP c_call_Parts
def ur1_PartsOf_171:Tab:=t5.inline P 171 Tryz.f171 []
theorem ur1_PartsOf_171_ok:TabOK P ur1_PartsOf_171:=t5_ok.inline hm Tryz.func171 (by kernel_rfl) []
def ur1_PartsOf_193:Tab:=ur1_PartsOf_171.inline P 193 Tryz.f193 []
theorem ur1_PartsOf_193_ok:TabOK P ur1_PartsOf_193:=ur1_PartsOf_171_ok.inline hm Tryz.func193 (by kernel_rfl) []
def ur1_PartsOf_172:Tab:=ur1_PartsOf_193.inline P 172 Tryz.f172 []
theorem ur1_PartsOf_172_ok:TabOK P ur1_PartsOf_172:=ur1_PartsOf_193_ok.inline hm Tryz.func172 (by kernel_rfl) []
def ur1_PartsOf_139:Tab:=ur1_PartsOf_172.inline P 139 Tryz.f139 []
theorem ur1_PartsOf_139_ok:TabOK P ur1_PartsOf_139:=ur1_PartsOf_172_ok.inline hm Tryz.func139 (by kernel_rfl) []
def ur1_PartsOf_98:Tab:=ur1_PartsOf_139.inline P 98 Tryz.f98 []
theorem ur1_PartsOf_98_ok:TabOK P ur1_PartsOf_98:=ur1_PartsOf_139_ok.inline hm Tryz.func98 (by kernel_rfl) []
def ur1_PartsOf_63:Tab:=ur1_PartsOf_98.inline P 63 Tryz.f63 []
theorem ur1_PartsOf_63_ok:TabOK P ur1_PartsOf_63:=ur1_PartsOf_98_ok.inline hm Tryz.func63 (by kernel_rfl) []
def ur1_PartsOf_112:Tab:=ur1_PartsOf_63.inline P 112 Tryz.f112 []
theorem ur1_PartsOf_112_ok:TabOK P ur1_PartsOf_112:=ur1_PartsOf_63_ok.inline hm Tryz.func112 (by kernel_rfl) []
def ur1_PartsOf_173:Tab:=ur1_PartsOf_112.inline P 173 Tryz.f173 []
theorem ur1_PartsOf_173_ok:TabOK P ur1_PartsOf_173:=ur1_PartsOf_112_ok.inline hm Tryz.func173 (by kernel_rfl) []
def ur1_PartsOf_140:Tab:=ur1_PartsOf_173.inline P 140 Tryz.f140 []
theorem ur1_PartsOf_140_ok:TabOK P ur1_PartsOf_140:=ur1_PartsOf_173_ok.inline hm Tryz.func140 (by kernel_rfl) []
def ur1_PartsOf_141:Tab:=ur1_PartsOf_140.inline P 141 Tryz.f141 []
theorem ur1_PartsOf_141_ok:TabOK P ur1_PartsOf_141:=ur1_PartsOf_140_ok.inline hm Tryz.func141 (by kernel_rfl) []
def ur1_PartsOf_142:Tab:=ur1_PartsOf_141.inline P 142 Tryz.f142 []
theorem ur1_PartsOf_142_ok:TabOK P ur1_PartsOf_142:=ur1_PartsOf_141_ok.inline hm Tryz.func142 (by kernel_rfl) []
def ur1_PartsOf_178:Tab:=ur1_PartsOf_142.inline P 178 Tryz.f178 []
theorem ur1_PartsOf_178_ok:TabOK P ur1_PartsOf_178:=ur1_PartsOf_142_ok.inline hm Tryz.func178 (by kernel_rfl) []
def ur1_PartsOf_150:Tab:=ur1_PartsOf_178.inline P 150 Tryz.f150 []
theorem ur1_PartsOf_150_ok:TabOK P ur1_PartsOf_150:=ur1_PartsOf_178_ok.inline hm Tryz.func150 (by kernel_rfl) []
def ur1_PartsOf_174:Tab:=ur1_PartsOf_150.inline P 174 Tryz.f174 []
theorem ur1_PartsOf_174_ok:TabOK P ur1_PartsOf_174:=ur1_PartsOf_150_ok.inline hm Tryz.func174 (by kernel_rfl) []
def ur1_PartsOf_143:Tab:=ur1_PartsOf_174.inline P 143 Tryz.f143 []
theorem ur1_PartsOf_143_ok:TabOK P ur1_PartsOf_143:=ur1_PartsOf_174_ok.inline hm Tryz.func143 (by kernel_rfl) []
def ur1_PartsOf_99:Tab:=ur1_PartsOf_143.inline P 99 Tryz.f99 []
theorem ur1_PartsOf_99_ok:TabOK P ur1_PartsOf_99:=ur1_PartsOf_143_ok.inline hm Tryz.func99 (by kernel_rfl) []
def ur1_PartsOf_101:Tab:=ur1_PartsOf_99.inline P 101 Tryz.f101 []
theorem ur1_PartsOf_101_ok:TabOK P ur1_PartsOf_101:=ur1_PartsOf_99_ok.inline hm Tryz.func101 (by kernel_rfl) []
def ur1_PartsOf_144:Tab:=ur1_PartsOf_101.inline P 144 Tryz.f144 []
theorem ur1_PartsOf_144_ok:TabOK P ur1_PartsOf_144:=ur1_PartsOf_101_ok.inline hm Tryz.func144 (by kernel_rfl) []
def ur1_PartsOf_102:Tab:=ur1_PartsOf_144.inline P 102 Tryz.f102 []
theorem ur1_PartsOf_102_ok:TabOK P ur1_PartsOf_102:=ur1_PartsOf_144_ok.inline hm Tryz.func102 (by kernel_rfl) []
def ur1_PartsOf_100:Tab:=ur1_PartsOf_102.inline P 100 Tryz.f100 []
theorem ur1_PartsOf_100_ok:TabOK P ur1_PartsOf_100:=ur1_PartsOf_102_ok.inline hm Tryz.func100 (by kernel_rfl) []
def ur1_PartsOf_65:Tab:=ur1_PartsOf_100.inline P 65 Tryz.f65 []
theorem ur1_PartsOf_65_ok:TabOK P ur1_PartsOf_65:=ur1_PartsOf_100_ok.inline hm Tryz.func65 (by kernel_rfl) []
def ur1_PartsOf_64:Tab:=ur1_PartsOf_65.inline P 64 Tryz.f64 []
theorem ur1_PartsOf_64_ok:TabOK P ur1_PartsOf_64:=ur1_PartsOf_65_ok.inline hm Tryz.func64 (by kernel_rfl) []
def ur1_PartsOf_66:Tab:=ur1_PartsOf_64.inline P 66 Tryz.f66 []
theorem ur1_PartsOf_66_ok:TabOK P ur1_PartsOf_66:=ur1_PartsOf_64_ok.inline hm Tryz.func66 (by kernel_rfl) []
def ur1_PartsOf_103:Tab:=ur1_PartsOf_66.inline P 103 Tryz.f103 []
theorem ur1_PartsOf_103_ok:TabOK P ur1_PartsOf_103:=ur1_PartsOf_66_ok.inline hm Tryz.func103 (by kernel_rfl) []
def ur1_PartsOf_67:Tab:=ur1_PartsOf_103.inline P 67 Tryz.f67 []
theorem ur1_PartsOf_67_ok:TabOK P ur1_PartsOf_67:=ur1_PartsOf_103_ok.inline hm Tryz.func67 (by kernel_rfl) []
def tab_r1_PartsOf:List (ByteArray × List G):=[(⟨#[]⟩,[.l [[.s ⟨#[]⟩,.s ⟨#[]⟩,.s ⟨#[]⟩,.i 0,.s ⟨#[]⟩]],.t false]),(⟨#[107,49]⟩,[.l [[.s ⟨#[]⟩,.s ⟨#[]⟩,.s ⟨#[]⟩,.i 0,.s ⟨#[]⟩]],.t false]),(⟨#[75,49,65,66]⟩,[.l [[.s ⟨#[]⟩,.s ⟨#[]⟩,.s ⟨#[]⟩,.i 0,.s ⟨#[]⟩]],.t false]),(⟨#[107,49,97,98,47]⟩,[.l [[.s ⟨#[]⟩,.s ⟨#[]⟩,.s ⟨#[]⟩,.i 0,.s ⟨#[]⟩]],.t false]),(⟨#[49,97]⟩,[.l [[.s ⟨#[]⟩,.s ⟨#[]⟩,.s ⟨#[]⟩,.i 0,.s ⟨#[]⟩]],.t false]),(⟨#[107,49,97,98,47,109,109,47,112]⟩,[.l [[.s ⟨#[]⟩,.s ⟨#[]⟩,.s ⟨#[]⟩,.i 0,.s ⟨#[]⟩]],.t false]),(⟨#[107,49,97,98]⟩,[.l [[.s ⟨#[107,49,97,98]⟩,.s ⟨#[107,49]⟩,.s ⟨#[97,98]⟩,.i 0,.s ⟨#[]⟩]],.t true]),(⟨#[107,49,97,97]⟩,[.l [[.s ⟨#[107,49,97,97]⟩,.s ⟨#[107,49]⟩,.s ⟨#[97,97]⟩,.i 0,.s ⟨#[]⟩]],.t true]),(⟨#[107,49,97,98,47,52]⟩,[.l [[.s ⟨#[107,49,97,98]⟩,.s ⟨#[107,49]⟩,.s ⟨#[97,98]⟩,.i 2,.s ⟨#[52]⟩]],.t true]),(⟨#[111,104,50,97,98,99]⟩,[.l [[.s ⟨#[111,104,50,97,98,99]⟩,.s ⟨#[111,104,50]⟩,.s ⟨#[97,98,99]⟩,.i 0,.s ⟨#[]⟩]],.t true]),(⟨#[111,104,50,97,98,100]⟩,[.l [[.s ⟨#[111,104,50,97,98,100]⟩,.s ⟨#[111,104,50]⟩,.s ⟨#[97,98,100]⟩,.i 0,.s ⟨#[]⟩]],.t true]),(⟨#[119,49,97,119]⟩,[.l [[.s ⟨#[119,49,97,119]⟩,.s ⟨#[119,49]⟩,.s ⟨#[97,119]⟩,.i 0,.s ⟨#[]⟩]],.t true]),(⟨#[110,49,109,109]⟩,[.l [[.s ⟨#[110,49,109,109]⟩,.s ⟨#[110,49]⟩,.s ⟨#[109,109]⟩,.i 0,.s ⟨#[]⟩]],.t true]),(⟨#[103,51,120,121,122,47,112]⟩,[.l [[.s ⟨#[103,51,120,121,122]⟩,.s ⟨#[103,51]⟩,.s ⟨#[120,121,122]⟩,.i 3,.s ⟨#[]⟩]],.t true]),(⟨#[119,49,97,120]⟩,[.l [[.s ⟨#[119,49,97,120]⟩,.s ⟨#[119,49]⟩,.s ⟨#[97,120]⟩,.i 0,.s ⟨#[]⟩]],.t true])]
def F_r1_PartsOf (d:List G):Option (List G):=lookS tab_r1_PartsOf (gi d 0).str
def s_r1_PartsOf:FSpec:=⟨35,[.s (.str)],[],[],[.s (.row KParts),.s (.bool)],[],[],[],F_r1_PartsOf⟩
theorem q0_r1_PartsOf:PCall P 35 [aS ⟨#[]⟩] (s_r1_PartsOf.out [.l [[.s ⟨#[]⟩,.s ⟨#[]⟩,.s ⟨#[]⟩,.i 0,.s ⟨#[]⟩]],.t false]):=fn_pure (L:=nL0) hm ur1_PartsOf_67_ok [] (fun _ _=>nLk _ _ _) Tryz.func35 rfl (by kernel_rfl) (by kernel_rfl)
theorem q1_r1_PartsOf:PCall P 35 [aS ⟨#[107,49]⟩] (s_r1_PartsOf.out [.l [[.s ⟨#[]⟩,.s ⟨#[]⟩,.s ⟨#[]⟩,.i 0,.s ⟨#[]⟩]],.t false]):=fn_pure (L:=nL0) hm ur1_PartsOf_67_ok [] (fun _ _=>nLk _ _ _) Tryz.func35 rfl (by kernel_rfl) (by kernel_rfl)
theorem q2_r1_PartsOf:PCall P 35 [aS ⟨#[75,49,65,66]⟩] (s_r1_PartsOf.out [.l [[.s ⟨#[]⟩,.s ⟨#[]⟩,.s ⟨#[]⟩,.i 0,.s ⟨#[]⟩]],.t false]):=fn_pure (L:=nL0) hm ur1_PartsOf_67_ok [] (fun _ _=>nLk _ _ _) Tryz.func35 rfl (by kernel_rfl) (by kernel_rfl)
theorem q3_r1_PartsOf:PCall P 35 [aS ⟨#[107,49,97,98,47]⟩] (s_r1_PartsOf.out [.l [[.s ⟨#[]⟩,.s ⟨#[]⟩,.s ⟨#[]⟩,.i 0,.s ⟨#[]⟩]],.t false]):=fn_pure (L:=nL0) hm ur1_PartsOf_67_ok [] (fun _ _=>nLk _ _ _) Tryz.func35 rfl (by kernel_rfl) (by kernel_rfl)
theorem q4_r1_PartsOf:PCall P 35 [aS ⟨#[49,97]⟩] (s_r1_PartsOf.out [.l [[.s ⟨#[]⟩,.s ⟨#[]⟩,.s ⟨#[]⟩,.i 0,.s ⟨#[]⟩]],.t false]):=fn_pure (L:=nL0) hm ur1_PartsOf_67_ok [] (fun _ _=>nLk _ _ _) Tryz.func35 rfl (by kernel_rfl) (by kernel_rfl)
theorem q5_r1_PartsOf:PCall P 35 [aS ⟨#[107,49,97,98,47,109,109,47,112]⟩] (s_r1_PartsOf.out [.l [[.s ⟨#[]⟩,.s ⟨#[]⟩,.s ⟨#[]⟩,.i 0,.s ⟨#[]⟩]],.t false]):=fn_pure (L:=nL0) hm ur1_PartsOf_67_ok [] (fun _ _=>nLk _ _ _) Tryz.func35 rfl (by kernel_rfl) (by kernel_rfl)
theorem q6_r1_PartsOf:PCall P 35 [aS ⟨#[107,49,97,98]⟩] (s_r1_PartsOf.out [.l [[.s ⟨#[107,49,97,98]⟩,.s ⟨#[107,49]⟩,.s ⟨#[97,98]⟩,.i 0,.s ⟨#[]⟩]],.t true]):=fn_pure (L:=nL0) hm ur1_PartsOf_67_ok [] (fun _ _=>nLk _ _ _) Tryz.func35 rfl (by kernel_rfl) (by kernel_rfl)
theorem q7_r1_PartsOf:PCall P 35 [aS ⟨#[107,49,97,97]⟩] (s_r1_PartsOf.out [.l [[.s ⟨#[107,49,97,97]⟩,.s ⟨#[107,49]⟩,.s ⟨#[97,97]⟩,.i 0,.s ⟨#[]⟩]],.t true]):=fn_pure (L:=nL0) hm ur1_PartsOf_67_ok [] (fun _ _=>nLk _ _ _) Tryz.func35 rfl (by kernel_rfl) (by kernel_rfl)
theorem q8_r1_PartsOf:PCall P 35 [aS ⟨#[107,49,97,98,47,52]⟩] (s_r1_PartsOf.out [.l [[.s ⟨#[107,49,97,98]⟩,.s ⟨#[107,49]⟩,.s ⟨#[97,98]⟩,.i 2,.s ⟨#[52]⟩]],.t true]):=fn_pure (L:=nL0) hm ur1_PartsOf_67_ok [] (fun _ _=>nLk _ _ _) Tryz.func35 rfl (by kernel_rfl) (by kernel_rfl)
theorem q9_r1_PartsOf:PCall P 35 [aS ⟨#[111,104,50,97,98,99]⟩] (s_r1_PartsOf.out [.l [[.s ⟨#[111,104,50,97,98,99]⟩,.s ⟨#[111,104,50]⟩,.s ⟨#[97,98,99]⟩,.i 0,.s ⟨#[]⟩]],.t true]):=fn_pure (L:=nL0) hm ur1_PartsOf_67_ok [] (fun _ _=>nLk _ _ _) Tryz.func35 rfl (by kernel_rfl) (by kernel_rfl)
theorem q10_r1_PartsOf:PCall P 35 [aS ⟨#[111,104,50,97,98,100]⟩] (s_r1_PartsOf.out [.l [[.s ⟨#[111,104,50,97,98,100]⟩,.s ⟨#[111,104,50]⟩,.s ⟨#[97,98,100]⟩,.i 0,.s ⟨#[]⟩]],.t true]):=fn_pure (L:=nL0) hm ur1_PartsOf_67_ok [] (fun _ _=>nLk _ _ _) Tryz.func35 rfl (by kernel_rfl) (by kernel_rfl)
theorem q11_r1_PartsOf:PCall P 35 [aS ⟨#[119,49,97,119]⟩] (s_r1_PartsOf.out [.l [[.s ⟨#[119,49,97,119]⟩,.s ⟨#[119,49]⟩,.s ⟨#[97,119]⟩,.i 0,.s ⟨#[]⟩]],.t true]):=fn_pure (L:=nL0) hm ur1_PartsOf_67_ok [] (fun _ _=>nLk _ _ _) Tryz.func35 rfl (by kernel_rfl) (by kernel_rfl)
theorem q12_r1_PartsOf:PCall P 35 [aS ⟨#[110,49,109,109]⟩] (s_r1_PartsOf.out [.l [[.s ⟨#[110,49,109,109]⟩,.s ⟨#[110,49]⟩,.s ⟨#[109,109]⟩,.i 0,.s ⟨#[]⟩]],.t true]):=fn_pure (L:=nL0) hm ur1_PartsOf_67_ok [] (fun _ _=>nLk _ _ _) Tryz.func35 rfl (by kernel_rfl) (by kernel_rfl)
theorem q13_r1_PartsOf:PCall P 35 [aS ⟨#[103,51,120,121,122,47,112]⟩] (s_r1_PartsOf.out [.l [[.s ⟨#[103,51,120,121,122]⟩,.s ⟨#[103,51]⟩,.s ⟨#[120,121,122]⟩,.i 3,.s ⟨#[]⟩]],.t true]):=fn_pure (L:=nL0) hm ur1_PartsOf_67_ok [] (fun _ _=>nLk _ _ _) Tryz.func35 rfl (by kernel_rfl) (by kernel_rfl)
theorem q14_r1_PartsOf:PCall P 35 [aS ⟨#[119,49,97,120]⟩] (s_r1_PartsOf.out [.l [[.s ⟨#[119,49,97,120]⟩,.s ⟨#[119,49]⟩,.s ⟨#[97,120]⟩,.i 0,.s ⟨#[]⟩]],.t true]):=fn_pure (L:=nL0) hm ur1_PartsOf_67_ok [] (fun _ _=>nLk _ _ _) Tryz.func35 rfl (by kernel_rfl) (by kernel_rfl)
theorem c_r1_PartsOf:∀ d r,F_r1_PartsOf d=some r→ACallX P 35 (s_r1_PartsOf.args0 d) (denH (s_r1_PartsOf.H0 d)) (s_r1_PartsOf.out r) (denH (s_r1_PartsOf.H1 r)):=fun d r h=>by
 have h:=lookS_mem h
 have key:PCall P 35 [aS (gi d 0).str] (s_r1_PartsOf.out r):=by
  generalize (gi d 0).str=s at h
  simp only [tab_r1_PartsOf,List.mem_cons,List.not_mem_nil,or_false,Prod.mk.injEq] at h
  rcases h with ⟨rfl,rfl⟩ | ⟨rfl,rfl⟩ | ⟨rfl,rfl⟩ | ⟨rfl,rfl⟩ | ⟨rfl,rfl⟩ | ⟨rfl,rfl⟩ | ⟨rfl,rfl⟩ | ⟨rfl,rfl⟩ | ⟨rfl,rfl⟩ | ⟨rfl,rfl⟩ | ⟨rfl,rfl⟩ | ⟨rfl,rfl⟩ | ⟨rfl,rfl⟩ | ⟨rfl,rfl⟩ | ⟨rfl,rfl⟩
  ·exact q0_r1_PartsOf
  ·exact q1_r1_PartsOf
  ·exact q2_r1_PartsOf
  ·exact q3_r1_PartsOf
  ·exact q4_r1_PartsOf
  ·exact q5_r1_PartsOf
  ·exact q6_r1_PartsOf
  ·exact q7_r1_PartsOf
  ·exact q8_r1_PartsOf
  ·exact q9_r1_PartsOf
  ·exact q10_r1_PartsOf
  ·exact q11_r1_PartsOf
  ·exact q12_r1_PartsOf
  ·exact q13_r1_PartsOf
  ·exact q14_r1_PartsOf
 exact key []
def t6:Tab:=t5.addP s_r1_PartsOf
theorem t6_ok:TabOK P t6:=t5_ok.aP c_r1_PartsOf
end
end Go.Proofs.SYtioeckojljemcaaGreatDoor
