/-
  What is proved here: functions of the program as functions on data. No condition.
-/
import Derived.Test.YtpbepppkchjccaaGreatDoorML0
set_option linter.unusedSimpArgs false
set_option linter.unusedVariables false
set_option linter.unusedSectionVars false
namespace Go.Proofs.SYtpbepppkchjccaaGreatDoor
open Go Go.AL Go.Proofs
noncomputable section
def ucall_Parts_237 : Tab := t4.inline P 237 Tryz.f237 []
theorem ucall_Parts_237_ok : TabOK P ucall_Parts_237 := t4_ok.inline hm Tryz.func237 (by kernel_rfl) []
def ucall_Parts_247 : Tab := ucall_Parts_237.inline P 247 Tryz.f247 []
theorem ucall_Parts_247_ok : TabOK P ucall_Parts_247 := ucall_Parts_237_ok.inline hm Tryz.func247 (by kernel_rfl) []
def ucall_Parts_240 : Tab := ucall_Parts_247.inline P 240 Tryz.f240 []
theorem ucall_Parts_240_ok : TabOK P ucall_Parts_240 := ucall_Parts_247_ok.inline hm Tryz.func240 (by kernel_rfl) []
def ucall_Parts_215 : Tab := ucall_Parts_240.inline P 215 Tryz.f215 []
theorem ucall_Parts_215_ok : TabOK P ucall_Parts_215 := ucall_Parts_240_ok.inline hm Tryz.func215 (by kernel_rfl) []
def ucall_Parts_175 : Tab := ucall_Parts_215.inline P 175 Tryz.f175 []
theorem ucall_Parts_175_ok : TabOK P ucall_Parts_175 := ucall_Parts_215_ok.inline hm Tryz.func175 (by kernel_rfl) []
def ucall_Parts_141 : Tab := ucall_Parts_175.inline P 141 Tryz.f141 []
theorem ucall_Parts_141_ok : TabOK P ucall_Parts_141 := ucall_Parts_175_ok.inline hm Tryz.func141 (by kernel_rfl) []
def ucall_Parts_131 : Tab := ucall_Parts_141.inline P 131 Tryz.f131 []
theorem ucall_Parts_131_ok : TabOK P ucall_Parts_131 := ucall_Parts_141_ok.inline hm Tryz.func131 (by kernel_rfl) []
def ucall_Parts_160 : Tab := ucall_Parts_131.inline P 160 Tryz.f160 []
theorem ucall_Parts_160_ok : TabOK P ucall_Parts_160 := ucall_Parts_131_ok.inline hm Tryz.func160 (by kernel_rfl) []
def ucall_Parts_207 : Tab := ucall_Parts_160.inline P 207 Tryz.f207 []
theorem ucall_Parts_207_ok : TabOK P ucall_Parts_207 := ucall_Parts_160_ok.inline hm Tryz.func207 (by kernel_rfl) []
def ucall_Parts_161 : Tab := ucall_Parts_207.inline P 161 Tryz.f161 []
theorem ucall_Parts_161_ok : TabOK P ucall_Parts_161 := ucall_Parts_207_ok.inline hm Tryz.func161 (by kernel_rfl) []
def ucall_Parts_209 : Tab := ucall_Parts_161.inline P 209 Tryz.f209 []
theorem ucall_Parts_209_ok : TabOK P ucall_Parts_209 := ucall_Parts_161_ok.inline hm Tryz.func209 (by kernel_rfl) []
def ucall_Parts_163 : Tab := ucall_Parts_209.inline P 163 Tryz.f163 []
theorem ucall_Parts_163_ok : TabOK P ucall_Parts_163 := ucall_Parts_209_ok.inline hm Tryz.func163 (by kernel_rfl) []
def ucall_Parts_236 : Tab := ucall_Parts_163.inline P 236 Tryz.f236 []
theorem ucall_Parts_236_ok : TabOK P ucall_Parts_236 := ucall_Parts_163_ok.inline hm Tryz.func236 (by kernel_rfl) []
def ucall_Parts_208 : Tab := ucall_Parts_236.inline P 208 Tryz.f208 []
theorem ucall_Parts_208_ok : TabOK P ucall_Parts_208 := ucall_Parts_236_ok.inline hm Tryz.func208 (by kernel_rfl) []
def ucall_Parts_216 : Tab := ucall_Parts_208.inline P 216 Tryz.f216 []
theorem ucall_Parts_216_ok : TabOK P ucall_Parts_216 := ucall_Parts_208_ok.inline hm Tryz.func216 (by kernel_rfl) []
def ucall_Parts_176 : Tab := ucall_Parts_216.inline P 176 Tryz.f176 []
theorem ucall_Parts_176_ok : TabOK P ucall_Parts_176 := ucall_Parts_216_ok.inline hm Tryz.func176 (by kernel_rfl) []
def ucall_Parts_183 : Tab := ucall_Parts_176.inline P 183 Tryz.f183 []
theorem ucall_Parts_183_ok : TabOK P ucall_Parts_183 := ucall_Parts_176_ok.inline hm Tryz.func183 (by kernel_rfl) []
def ucall_Parts_218 : Tab := ucall_Parts_183.inline P 218 Tryz.f218 []
theorem ucall_Parts_218_ok : TabOK P ucall_Parts_218 := ucall_Parts_183_ok.inline hm Tryz.func218 (by kernel_rfl) []
def ucall_Parts_182 : Tab := ucall_Parts_218.inline P 182 Tryz.f182 []
theorem ucall_Parts_182_ok : TabOK P ucall_Parts_182 := ucall_Parts_218_ok.inline hm Tryz.func182 (by kernel_rfl) []
def ucall_Parts_181 : Tab := ucall_Parts_182.inline P 181 Tryz.f181 []
theorem ucall_Parts_181_ok : TabOK P ucall_Parts_181 := ucall_Parts_182_ok.inline hm Tryz.func181 (by kernel_rfl) []
def ucall_Parts_146 : Tab := ucall_Parts_181.inline P 146 Tryz.f146 []
theorem ucall_Parts_146_ok : TabOK P ucall_Parts_146 := ucall_Parts_181_ok.inline hm Tryz.func146 (by kernel_rfl) []
def ucall_Parts_147 : Tab := ucall_Parts_146.inline P 147 Tryz.f147 []
theorem ucall_Parts_147_ok : TabOK P ucall_Parts_147 := ucall_Parts_146_ok.inline hm Tryz.func147 (by kernel_rfl) []
def ucall_Parts_148 : Tab := ucall_Parts_147.inline P 148 Tryz.f148 []
theorem ucall_Parts_148_ok : TabOK P ucall_Parts_148 := ucall_Parts_147_ok.inline hm Tryz.func148 (by kernel_rfl) []
def tab_call_Parts : List (ByteArray × List G) := [(⟨#[]⟩, [.l [[.s ⟨#[]⟩, .s ⟨#[]⟩, .s ⟨#[]⟩, .i 0, .s ⟨#[]⟩]], .t false]), (⟨#[107, 49]⟩, [.l [[.s ⟨#[]⟩, .s ⟨#[]⟩, .s ⟨#[]⟩, .i 0, .s ⟨#[]⟩]], .t false]), (⟨#[75, 49, 65, 66]⟩, [.l [[.s ⟨#[]⟩, .s ⟨#[]⟩, .s ⟨#[]⟩, .i 0, .s ⟨#[]⟩]], .t false]), (⟨#[107, 49, 97, 98, 47]⟩, [.l [[.s ⟨#[]⟩, .s ⟨#[]⟩, .s ⟨#[]⟩, .i 0, .s ⟨#[]⟩]], .t false]), (⟨#[49, 97]⟩, [.l [[.s ⟨#[]⟩, .s ⟨#[]⟩, .s ⟨#[]⟩, .i 0, .s ⟨#[]⟩]], .t false]), (⟨#[107, 49, 97, 98, 47, 109, 109, 47, 112]⟩, [.l [[.s ⟨#[]⟩, .s ⟨#[]⟩, .s ⟨#[]⟩, .i 0, .s ⟨#[]⟩]], .t false]), (⟨#[107, 49, 97, 98]⟩, [.l [[.s ⟨#[107, 49, 97, 98]⟩, .s ⟨#[107, 49]⟩, .s ⟨#[97, 98]⟩, .i 0, .s ⟨#[]⟩]], .t true]), (⟨#[107, 49, 97, 97]⟩, [.l [[.s ⟨#[107, 49, 97, 97]⟩, .s ⟨#[107, 49]⟩, .s ⟨#[97, 97]⟩, .i 0, .s ⟨#[]⟩]], .t true]), (⟨#[107, 49, 97, 98, 47, 52]⟩, [.l [[.s ⟨#[107, 49, 97, 98]⟩, .s ⟨#[107, 49]⟩, .s ⟨#[97, 98]⟩, .i 2, .s ⟨#[52]⟩]], .t true]), (⟨#[111, 104, 50, 97, 98, 99]⟩, [.l [[.s ⟨#[111, 104, 50, 97, 98, 99]⟩, .s ⟨#[111, 104, 50]⟩, .s ⟨#[97, 98, 99]⟩, .i 0, .s ⟨#[]⟩]], .t true]), (⟨#[111, 104, 50, 97, 98, 100]⟩, [.l [[.s ⟨#[111, 104, 50, 97, 98, 100]⟩, .s ⟨#[111, 104, 50]⟩, .s ⟨#[97, 98, 100]⟩, .i 0, .s ⟨#[]⟩]], .t true]), (⟨#[119, 49, 97, 119]⟩, [.l [[.s ⟨#[119, 49, 97, 119]⟩, .s ⟨#[119, 49]⟩, .s ⟨#[97, 119]⟩, .i 0, .s ⟨#[]⟩]], .t true]), (⟨#[110, 49, 109, 109]⟩, [.l [[.s ⟨#[110, 49, 109, 109]⟩, .s ⟨#[110, 49]⟩, .s ⟨#[109, 109]⟩, .i 0, .s ⟨#[]⟩]], .t true]), (⟨#[103, 51, 120, 121, 122, 47, 112]⟩, [.l [[.s ⟨#[103, 51, 120, 121, 122]⟩, .s ⟨#[103, 51]⟩, .s ⟨#[120, 121, 122]⟩, .i 3, .s ⟨#[]⟩]], .t true])]
def F_call_Parts (d : List G) : Option (List G) := lookS tab_call_Parts (gi d 0).str
def s_call_Parts : FSpec := ⟨110, [.s (.str)], [], [], [.s (.row KParts), .s (.bool)], [], [], [], F_call_Parts⟩
theorem q0_call_Parts : PCall P 110 [aS ⟨#[]⟩] (s_call_Parts.out [.l [[.s ⟨#[]⟩, .s ⟨#[]⟩, .s ⟨#[]⟩, .i 0, .s ⟨#[]⟩]], .t false]) := fn_pure (L := noLoops) hm ucall_Parts_148_ok [] (fun _ _ => noLoops_ok _ _ _) Tryz.func110 rfl (by kernel_rfl) (by kernel_rfl)
theorem q1_call_Parts : PCall P 110 [aS ⟨#[107, 49]⟩] (s_call_Parts.out [.l [[.s ⟨#[]⟩, .s ⟨#[]⟩, .s ⟨#[]⟩, .i 0, .s ⟨#[]⟩]], .t false]) := fn_pure (L := noLoops) hm ucall_Parts_148_ok [] (fun _ _ => noLoops_ok _ _ _) Tryz.func110 rfl (by kernel_rfl) (by kernel_rfl)
theorem q2_call_Parts : PCall P 110 [aS ⟨#[75, 49, 65, 66]⟩] (s_call_Parts.out [.l [[.s ⟨#[]⟩, .s ⟨#[]⟩, .s ⟨#[]⟩, .i 0, .s ⟨#[]⟩]], .t false]) := fn_pure (L := noLoops) hm ucall_Parts_148_ok [] (fun _ _ => noLoops_ok _ _ _) Tryz.func110 rfl (by kernel_rfl) (by kernel_rfl)
theorem q3_call_Parts : PCall P 110 [aS ⟨#[107, 49, 97, 98, 47]⟩] (s_call_Parts.out [.l [[.s ⟨#[]⟩, .s ⟨#[]⟩, .s ⟨#[]⟩, .i 0, .s ⟨#[]⟩]], .t false]) := fn_pure (L := noLoops) hm ucall_Parts_148_ok [] (fun _ _ => noLoops_ok _ _ _) Tryz.func110 rfl (by kernel_rfl) (by kernel_rfl)
theorem q4_call_Parts : PCall P 110 [aS ⟨#[49, 97]⟩] (s_call_Parts.out [.l [[.s ⟨#[]⟩, .s ⟨#[]⟩, .s ⟨#[]⟩, .i 0, .s ⟨#[]⟩]], .t false]) := fn_pure (L := noLoops) hm ucall_Parts_148_ok [] (fun _ _ => noLoops_ok _ _ _) Tryz.func110 rfl (by kernel_rfl) (by kernel_rfl)
theorem q5_call_Parts : PCall P 110 [aS ⟨#[107, 49, 97, 98, 47, 109, 109, 47, 112]⟩] (s_call_Parts.out [.l [[.s ⟨#[]⟩, .s ⟨#[]⟩, .s ⟨#[]⟩, .i 0, .s ⟨#[]⟩]], .t false]) := fn_pure (L := noLoops) hm ucall_Parts_148_ok [] (fun _ _ => noLoops_ok _ _ _) Tryz.func110 rfl (by kernel_rfl) (by kernel_rfl)
theorem q6_call_Parts : PCall P 110 [aS ⟨#[107, 49, 97, 98]⟩] (s_call_Parts.out [.l [[.s ⟨#[107, 49, 97, 98]⟩, .s ⟨#[107, 49]⟩, .s ⟨#[97, 98]⟩, .i 0, .s ⟨#[]⟩]], .t true]) := fn_pure (L := noLoops) hm ucall_Parts_148_ok [] (fun _ _ => noLoops_ok _ _ _) Tryz.func110 rfl (by kernel_rfl) (by kernel_rfl)
theorem q7_call_Parts : PCall P 110 [aS ⟨#[107, 49, 97, 97]⟩] (s_call_Parts.out [.l [[.s ⟨#[107, 49, 97, 97]⟩, .s ⟨#[107, 49]⟩, .s ⟨#[97, 97]⟩, .i 0, .s ⟨#[]⟩]], .t true]) := fn_pure (L := noLoops) hm ucall_Parts_148_ok [] (fun _ _ => noLoops_ok _ _ _) Tryz.func110 rfl (by kernel_rfl) (by kernel_rfl)
theorem q8_call_Parts : PCall P 110 [aS ⟨#[107, 49, 97, 98, 47, 52]⟩] (s_call_Parts.out [.l [[.s ⟨#[107, 49, 97, 98]⟩, .s ⟨#[107, 49]⟩, .s ⟨#[97, 98]⟩, .i 2, .s ⟨#[52]⟩]], .t true]) := fn_pure (L := noLoops) hm ucall_Parts_148_ok [] (fun _ _ => noLoops_ok _ _ _) Tryz.func110 rfl (by kernel_rfl) (by kernel_rfl)
theorem q9_call_Parts : PCall P 110 [aS ⟨#[111, 104, 50, 97, 98, 99]⟩] (s_call_Parts.out [.l [[.s ⟨#[111, 104, 50, 97, 98, 99]⟩, .s ⟨#[111, 104, 50]⟩, .s ⟨#[97, 98, 99]⟩, .i 0, .s ⟨#[]⟩]], .t true]) := fn_pure (L := noLoops) hm ucall_Parts_148_ok [] (fun _ _ => noLoops_ok _ _ _) Tryz.func110 rfl (by kernel_rfl) (by kernel_rfl)
theorem q10_call_Parts : PCall P 110 [aS ⟨#[111, 104, 50, 97, 98, 100]⟩] (s_call_Parts.out [.l [[.s ⟨#[111, 104, 50, 97, 98, 100]⟩, .s ⟨#[111, 104, 50]⟩, .s ⟨#[97, 98, 100]⟩, .i 0, .s ⟨#[]⟩]], .t true]) := fn_pure (L := noLoops) hm ucall_Parts_148_ok [] (fun _ _ => noLoops_ok _ _ _) Tryz.func110 rfl (by kernel_rfl) (by kernel_rfl)
theorem q11_call_Parts : PCall P 110 [aS ⟨#[119, 49, 97, 119]⟩] (s_call_Parts.out [.l [[.s ⟨#[119, 49, 97, 119]⟩, .s ⟨#[119, 49]⟩, .s ⟨#[97, 119]⟩, .i 0, .s ⟨#[]⟩]], .t true]) := fn_pure (L := noLoops) hm ucall_Parts_148_ok [] (fun _ _ => noLoops_ok _ _ _) Tryz.func110 rfl (by kernel_rfl) (by kernel_rfl)
theorem q12_call_Parts : PCall P 110 [aS ⟨#[110, 49, 109, 109]⟩] (s_call_Parts.out [.l [[.s ⟨#[110, 49, 109, 109]⟩, .s ⟨#[110, 49]⟩, .s ⟨#[109, 109]⟩, .i 0, .s ⟨#[]⟩]], .t true]) := fn_pure (L := noLoops) hm ucall_Parts_148_ok [] (fun _ _ => noLoops_ok _ _ _) Tryz.func110 rfl (by kernel_rfl) (by kernel_rfl)
theorem q13_call_Parts : PCall P 110 [aS ⟨#[103, 51, 120, 121, 122, 47, 112]⟩] (s_call_Parts.out [.l [[.s ⟨#[103, 51, 120, 121, 122]⟩, .s ⟨#[103, 51]⟩, .s ⟨#[120, 121, 122]⟩, .i 3, .s ⟨#[]⟩]], .t true]) := fn_pure (L := noLoops) hm ucall_Parts_148_ok [] (fun _ _ => noLoops_ok _ _ _) Tryz.func110 rfl (by kernel_rfl) (by kernel_rfl)
theorem c_call_Parts : ∀ d r, F_call_Parts d = some r → ACallX P 110 (s_call_Parts.args0 d) (denH (s_call_Parts.H0 d)) (s_call_Parts.out r) (denH (s_call_Parts.H1 r)) := fun d r h => by
  have h := lookS_mem h
  have key : PCall P 110 [aS (gi d 0).str] (s_call_Parts.out r) := by
    generalize (gi d 0).str = s at h
    simp only [tab_call_Parts, List.mem_cons, List.not_mem_nil, or_false, Prod.mk.injEq] at h
    rcases h with ⟨rfl, rfl⟩ | ⟨rfl, rfl⟩ | ⟨rfl, rfl⟩ | ⟨rfl, rfl⟩ | ⟨rfl, rfl⟩ | ⟨rfl, rfl⟩ | ⟨rfl, rfl⟩ | ⟨rfl, rfl⟩ | ⟨rfl, rfl⟩ | ⟨rfl, rfl⟩ | ⟨rfl, rfl⟩ | ⟨rfl, rfl⟩ | ⟨rfl, rfl⟩ | ⟨rfl, rfl⟩
    · exact q0_call_Parts
    · exact q1_call_Parts
    · exact q2_call_Parts
    · exact q3_call_Parts
    · exact q4_call_Parts
    · exact q5_call_Parts
    · exact q6_call_Parts
    · exact q7_call_Parts
    · exact q8_call_Parts
    · exact q9_call_Parts
    · exact q10_call_Parts
    · exact q11_call_Parts
    · exact q12_call_Parts
    · exact q13_call_Parts
  exact key []
def t5 : Tab := t4.addP s_call_Parts
theorem t5_ok : TabOK P t5 := t4_ok.addP (by kernel_rfl) (by kernel_rfl) c_call_Parts
def upileref1_PartsOf_237 : Tab := t5.inline P 237 Tryz.f237 []
theorem upileref1_PartsOf_237_ok : TabOK P upileref1_PartsOf_237 := t5_ok.inline hm Tryz.func237 (by kernel_rfl) []
def upileref1_PartsOf_247 : Tab := upileref1_PartsOf_237.inline P 247 Tryz.f247 []
theorem upileref1_PartsOf_247_ok : TabOK P upileref1_PartsOf_247 := upileref1_PartsOf_237_ok.inline hm Tryz.func247 (by kernel_rfl) []
def upileref1_PartsOf_240 : Tab := upileref1_PartsOf_247.inline P 240 Tryz.f240 []
theorem upileref1_PartsOf_240_ok : TabOK P upileref1_PartsOf_240 := upileref1_PartsOf_247_ok.inline hm Tryz.func240 (by kernel_rfl) []
def upileref1_PartsOf_215 : Tab := upileref1_PartsOf_240.inline P 215 Tryz.f215 []
theorem upileref1_PartsOf_215_ok : TabOK P upileref1_PartsOf_215 := upileref1_PartsOf_240_ok.inline hm Tryz.func215 (by kernel_rfl) []
def upileref1_PartsOf_175 : Tab := upileref1_PartsOf_215.inline P 175 Tryz.f175 []
theorem upileref1_PartsOf_175_ok : TabOK P upileref1_PartsOf_175 := upileref1_PartsOf_215_ok.inline hm Tryz.func175 (by kernel_rfl) []
def upileref1_PartsOf_141 : Tab := upileref1_PartsOf_175.inline P 141 Tryz.f141 []
theorem upileref1_PartsOf_141_ok : TabOK P upileref1_PartsOf_141 := upileref1_PartsOf_175_ok.inline hm Tryz.func141 (by kernel_rfl) []
def upileref1_PartsOf_131 : Tab := upileref1_PartsOf_141.inline P 131 Tryz.f131 []
theorem upileref1_PartsOf_131_ok : TabOK P upileref1_PartsOf_131 := upileref1_PartsOf_141_ok.inline hm Tryz.func131 (by kernel_rfl) []
def upileref1_PartsOf_160 : Tab := upileref1_PartsOf_131.inline P 160 Tryz.f160 []
theorem upileref1_PartsOf_160_ok : TabOK P upileref1_PartsOf_160 := upileref1_PartsOf_131_ok.inline hm Tryz.func160 (by kernel_rfl) []
def upileref1_PartsOf_207 : Tab := upileref1_PartsOf_160.inline P 207 Tryz.f207 []
theorem upileref1_PartsOf_207_ok : TabOK P upileref1_PartsOf_207 := upileref1_PartsOf_160_ok.inline hm Tryz.func207 (by kernel_rfl) []
def upileref1_PartsOf_161 : Tab := upileref1_PartsOf_207.inline P 161 Tryz.f161 []
theorem upileref1_PartsOf_161_ok : TabOK P upileref1_PartsOf_161 := upileref1_PartsOf_207_ok.inline hm Tryz.func161 (by kernel_rfl) []
def upileref1_PartsOf_209 : Tab := upileref1_PartsOf_161.inline P 209 Tryz.f209 []
theorem upileref1_PartsOf_209_ok : TabOK P upileref1_PartsOf_209 := upileref1_PartsOf_161_ok.inline hm Tryz.func209 (by kernel_rfl) []
def upileref1_PartsOf_163 : Tab := upileref1_PartsOf_209.inline P 163 Tryz.f163 []
theorem upileref1_PartsOf_163_ok : TabOK P upileref1_PartsOf_163 := upileref1_PartsOf_209_ok.inline hm Tryz.func163 (by kernel_rfl) []
def upileref1_PartsOf_236 : Tab := upileref1_PartsOf_163.inline P 236 Tryz.f236 []
theorem upileref1_PartsOf_236_ok : TabOK P upileref1_PartsOf_236 := upileref1_PartsOf_163_ok.inline hm Tryz.func236 (by kernel_rfl) []
def upileref1_PartsOf_208 : Tab := upileref1_PartsOf_236.inline P 208 Tryz.f208 []
theorem upileref1_PartsOf_208_ok : TabOK P upileref1_PartsOf_208 := upileref1_PartsOf_236_ok.inline hm Tryz.func208 (by kernel_rfl) []
def upileref1_PartsOf_216 : Tab := upileref1_PartsOf_208.inline P 216 Tryz.f216 []
theorem upileref1_PartsOf_216_ok : TabOK P upileref1_PartsOf_216 := upileref1_PartsOf_208_ok.inline hm Tryz.func216 (by kernel_rfl) []
def upileref1_PartsOf_176 : Tab := upileref1_PartsOf_216.inline P 176 Tryz.f176 []
theorem upileref1_PartsOf_176_ok : TabOK P upileref1_PartsOf_176 := upileref1_PartsOf_216_ok.inline hm Tryz.func176 (by kernel_rfl) []
def upileref1_PartsOf_178 : Tab := upileref1_PartsOf_176.inline P 178 Tryz.f178 []
theorem upileref1_PartsOf_178_ok : TabOK P upileref1_PartsOf_178 := upileref1_PartsOf_176_ok.inline hm Tryz.func178 (by kernel_rfl) []
def upileref1_PartsOf_217 : Tab := upileref1_PartsOf_178.inline P 217 Tryz.f217 []
theorem upileref1_PartsOf_217_ok : TabOK P upileref1_PartsOf_217 := upileref1_PartsOf_178_ok.inline hm Tryz.func217 (by kernel_rfl) []
def upileref1_PartsOf_179 : Tab := upileref1_PartsOf_217.inline P 179 Tryz.f179 []
theorem upileref1_PartsOf_179_ok : TabOK P upileref1_PartsOf_179 := upileref1_PartsOf_217_ok.inline hm Tryz.func179 (by kernel_rfl) []
def upileref1_PartsOf_177 : Tab := upileref1_PartsOf_179.inline P 177 Tryz.f177 []
theorem upileref1_PartsOf_177_ok : TabOK P upileref1_PartsOf_177 := upileref1_PartsOf_179_ok.inline hm Tryz.func177 (by kernel_rfl) []
def upileref1_PartsOf_143 : Tab := upileref1_PartsOf_177.inline P 143 Tryz.f143 []
theorem upileref1_PartsOf_143_ok : TabOK P upileref1_PartsOf_143 := upileref1_PartsOf_177_ok.inline hm Tryz.func143 (by kernel_rfl) []
def upileref1_PartsOf_142 : Tab := upileref1_PartsOf_143.inline P 142 Tryz.f142 []
theorem upileref1_PartsOf_142_ok : TabOK P upileref1_PartsOf_142 := upileref1_PartsOf_143_ok.inline hm Tryz.func142 (by kernel_rfl) []
def upileref1_PartsOf_144 : Tab := upileref1_PartsOf_142.inline P 144 Tryz.f144 []
theorem upileref1_PartsOf_144_ok : TabOK P upileref1_PartsOf_144 := upileref1_PartsOf_142_ok.inline hm Tryz.func144 (by kernel_rfl) []
def upileref1_PartsOf_180 : Tab := upileref1_PartsOf_144.inline P 180 Tryz.f180 []
theorem upileref1_PartsOf_180_ok : TabOK P upileref1_PartsOf_180 := upileref1_PartsOf_144_ok.inline hm Tryz.func180 (by kernel_rfl) []
def upileref1_PartsOf_145 : Tab := upileref1_PartsOf_180.inline P 145 Tryz.f145 []
theorem upileref1_PartsOf_145_ok : TabOK P upileref1_PartsOf_145 := upileref1_PartsOf_180_ok.inline hm Tryz.func145 (by kernel_rfl) []
def tab_pileref1_PartsOf : List (ByteArray × List G) := [(⟨#[]⟩, [.l [[.s ⟨#[]⟩, .s ⟨#[]⟩, .s ⟨#[]⟩, .i 0, .s ⟨#[]⟩]], .t false]), (⟨#[107, 49]⟩, [.l [[.s ⟨#[]⟩, .s ⟨#[]⟩, .s ⟨#[]⟩, .i 0, .s ⟨#[]⟩]], .t false]), (⟨#[75, 49, 65, 66]⟩, [.l [[.s ⟨#[]⟩, .s ⟨#[]⟩, .s ⟨#[]⟩, .i 0, .s ⟨#[]⟩]], .t false]), (⟨#[107, 49, 97, 98, 47]⟩, [.l [[.s ⟨#[]⟩, .s ⟨#[]⟩, .s ⟨#[]⟩, .i 0, .s ⟨#[]⟩]], .t false]), (⟨#[49, 97]⟩, [.l [[.s ⟨#[]⟩, .s ⟨#[]⟩, .s ⟨#[]⟩, .i 0, .s ⟨#[]⟩]], .t false]), (⟨#[107, 49, 97, 98, 47, 109, 109, 47, 112]⟩, [.l [[.s ⟨#[]⟩, .s ⟨#[]⟩, .s ⟨#[]⟩, .i 0, .s ⟨#[]⟩]], .t false]), (⟨#[107, 49, 97, 98]⟩, [.l [[.s ⟨#[107, 49, 97, 98]⟩, .s ⟨#[107, 49]⟩, .s ⟨#[97, 98]⟩, .i 0, .s ⟨#[]⟩]], .t true]), (⟨#[107, 49, 97, 97]⟩, [.l [[.s ⟨#[107, 49, 97, 97]⟩, .s ⟨#[107, 49]⟩, .s ⟨#[97, 97]⟩, .i 0, .s ⟨#[]⟩]], .t true]), (⟨#[107, 49, 97, 98, 47, 52]⟩, [.l [[.s ⟨#[107, 49, 97, 98]⟩, .s ⟨#[107, 49]⟩, .s ⟨#[97, 98]⟩, .i 2, .s ⟨#[52]⟩]], .t true]), (⟨#[111, 104, 50, 97, 98, 99]⟩, [.l [[.s ⟨#[111, 104, 50, 97, 98, 99]⟩, .s ⟨#[111, 104, 50]⟩, .s ⟨#[97, 98, 99]⟩, .i 0, .s ⟨#[]⟩]], .t true]), (⟨#[111, 104, 50, 97, 98, 100]⟩, [.l [[.s ⟨#[111, 104, 50, 97, 98, 100]⟩, .s ⟨#[111, 104, 50]⟩, .s ⟨#[97, 98, 100]⟩, .i 0, .s ⟨#[]⟩]], .t true]), (⟨#[119, 49, 97, 119]⟩, [.l [[.s ⟨#[119, 49, 97, 119]⟩, .s ⟨#[119, 49]⟩, .s ⟨#[97, 119]⟩, .i 0, .s ⟨#[]⟩]], .t true]), (⟨#[110, 49, 109, 109]⟩, [.l [[.s ⟨#[110, 49, 109, 109]⟩, .s ⟨#[110, 49]⟩, .s ⟨#[109, 109]⟩, .i 0, .s ⟨#[]⟩]], .t true]), (⟨#[103, 51, 120, 121, 122, 47, 112]⟩, [.l [[.s ⟨#[103, 51, 120, 121, 122]⟩, .s ⟨#[103, 51]⟩, .s ⟨#[120, 121, 122]⟩, .i 3, .s ⟨#[]⟩]], .t true])]
def F_pileref1_PartsOf (d : List G) : Option (List G) := lookS tab_pileref1_PartsOf (gi d 0).str
def s_pileref1_PartsOf : FSpec := ⟨109, [.s (.str)], [], [], [.s (.row KParts), .s (.bool)], [], [], [], F_pileref1_PartsOf⟩
theorem q0_pileref1_PartsOf : PCall P 109 [aS ⟨#[]⟩] (s_pileref1_PartsOf.out [.l [[.s ⟨#[]⟩, .s ⟨#[]⟩, .s ⟨#[]⟩, .i 0, .s ⟨#[]⟩]], .t false]) := fn_pure (L := noLoops) hm upileref1_PartsOf_145_ok [] (fun _ _ => noLoops_ok _ _ _) Tryz.func109 rfl (by kernel_rfl) (by kernel_rfl)
theorem q1_pileref1_PartsOf : PCall P 109 [aS ⟨#[107, 49]⟩] (s_pileref1_PartsOf.out [.l [[.s ⟨#[]⟩, .s ⟨#[]⟩, .s ⟨#[]⟩, .i 0, .s ⟨#[]⟩]], .t false]) := fn_pure (L := noLoops) hm upileref1_PartsOf_145_ok [] (fun _ _ => noLoops_ok _ _ _) Tryz.func109 rfl (by kernel_rfl) (by kernel_rfl)
theorem q2_pileref1_PartsOf : PCall P 109 [aS ⟨#[75, 49, 65, 66]⟩] (s_pileref1_PartsOf.out [.l [[.s ⟨#[]⟩, .s ⟨#[]⟩, .s ⟨#[]⟩, .i 0, .s ⟨#[]⟩]], .t false]) := fn_pure (L := noLoops) hm upileref1_PartsOf_145_ok [] (fun _ _ => noLoops_ok _ _ _) Tryz.func109 rfl (by kernel_rfl) (by kernel_rfl)
theorem q3_pileref1_PartsOf : PCall P 109 [aS ⟨#[107, 49, 97, 98, 47]⟩] (s_pileref1_PartsOf.out [.l [[.s ⟨#[]⟩, .s ⟨#[]⟩, .s ⟨#[]⟩, .i 0, .s ⟨#[]⟩]], .t false]) := fn_pure (L := noLoops) hm upileref1_PartsOf_145_ok [] (fun _ _ => noLoops_ok _ _ _) Tryz.func109 rfl (by kernel_rfl) (by kernel_rfl)
theorem q4_pileref1_PartsOf : PCall P 109 [aS ⟨#[49, 97]⟩] (s_pileref1_PartsOf.out [.l [[.s ⟨#[]⟩, .s ⟨#[]⟩, .s ⟨#[]⟩, .i 0, .s ⟨#[]⟩]], .t false]) := fn_pure (L := noLoops) hm upileref1_PartsOf_145_ok [] (fun _ _ => noLoops_ok _ _ _) Tryz.func109 rfl (by kernel_rfl) (by kernel_rfl)
theorem q5_pileref1_PartsOf : PCall P 109 [aS ⟨#[107, 49, 97, 98, 47, 109, 109, 47, 112]⟩] (s_pileref1_PartsOf.out [.l [[.s ⟨#[]⟩, .s ⟨#[]⟩, .s ⟨#[]⟩, .i 0, .s ⟨#[]⟩]], .t false]) := fn_pure (L := noLoops) hm upileref1_PartsOf_145_ok [] (fun _ _ => noLoops_ok _ _ _) Tryz.func109 rfl (by kernel_rfl) (by kernel_rfl)
theorem q6_pileref1_PartsOf : PCall P 109 [aS ⟨#[107, 49, 97, 98]⟩] (s_pileref1_PartsOf.out [.l [[.s ⟨#[107, 49, 97, 98]⟩, .s ⟨#[107, 49]⟩, .s ⟨#[97, 98]⟩, .i 0, .s ⟨#[]⟩]], .t true]) := fn_pure (L := noLoops) hm upileref1_PartsOf_145_ok [] (fun _ _ => noLoops_ok _ _ _) Tryz.func109 rfl (by kernel_rfl) (by kernel_rfl)
theorem q7_pileref1_PartsOf : PCall P 109 [aS ⟨#[107, 49, 97, 97]⟩] (s_pileref1_PartsOf.out [.l [[.s ⟨#[107, 49, 97, 97]⟩, .s ⟨#[107, 49]⟩, .s ⟨#[97, 97]⟩, .i 0, .s ⟨#[]⟩]], .t true]) := fn_pure (L := noLoops) hm upileref1_PartsOf_145_ok [] (fun _ _ => noLoops_ok _ _ _) Tryz.func109 rfl (by kernel_rfl) (by kernel_rfl)
theorem q8_pileref1_PartsOf : PCall P 109 [aS ⟨#[107, 49, 97, 98, 47, 52]⟩] (s_pileref1_PartsOf.out [.l [[.s ⟨#[107, 49, 97, 98]⟩, .s ⟨#[107, 49]⟩, .s ⟨#[97, 98]⟩, .i 2, .s ⟨#[52]⟩]], .t true]) := fn_pure (L := noLoops) hm upileref1_PartsOf_145_ok [] (fun _ _ => noLoops_ok _ _ _) Tryz.func109 rfl (by kernel_rfl) (by kernel_rfl)
theorem q9_pileref1_PartsOf : PCall P 109 [aS ⟨#[111, 104, 50, 97, 98, 99]⟩] (s_pileref1_PartsOf.out [.l [[.s ⟨#[111, 104, 50, 97, 98, 99]⟩, .s ⟨#[111, 104, 50]⟩, .s ⟨#[97, 98, 99]⟩, .i 0, .s ⟨#[]⟩]], .t true]) := fn_pure (L := noLoops) hm upileref1_PartsOf_145_ok [] (fun _ _ => noLoops_ok _ _ _) Tryz.func109 rfl (by kernel_rfl) (by kernel_rfl)
theorem q10_pileref1_PartsOf : PCall P 109 [aS ⟨#[111, 104, 50, 97, 98, 100]⟩] (s_pileref1_PartsOf.out [.l [[.s ⟨#[111, 104, 50, 97, 98, 100]⟩, .s ⟨#[111, 104, 50]⟩, .s ⟨#[97, 98, 100]⟩, .i 0, .s ⟨#[]⟩]], .t true]) := fn_pure (L := noLoops) hm upileref1_PartsOf_145_ok [] (fun _ _ => noLoops_ok _ _ _) Tryz.func109 rfl (by kernel_rfl) (by kernel_rfl)
theorem q11_pileref1_PartsOf : PCall P 109 [aS ⟨#[119, 49, 97, 119]⟩] (s_pileref1_PartsOf.out [.l [[.s ⟨#[119, 49, 97, 119]⟩, .s ⟨#[119, 49]⟩, .s ⟨#[97, 119]⟩, .i 0, .s ⟨#[]⟩]], .t true]) := fn_pure (L := noLoops) hm upileref1_PartsOf_145_ok [] (fun _ _ => noLoops_ok _ _ _) Tryz.func109 rfl (by kernel_rfl) (by kernel_rfl)
theorem q12_pileref1_PartsOf : PCall P 109 [aS ⟨#[110, 49, 109, 109]⟩] (s_pileref1_PartsOf.out [.l [[.s ⟨#[110, 49, 109, 109]⟩, .s ⟨#[110, 49]⟩, .s ⟨#[109, 109]⟩, .i 0, .s ⟨#[]⟩]], .t true]) := fn_pure (L := noLoops) hm upileref1_PartsOf_145_ok [] (fun _ _ => noLoops_ok _ _ _) Tryz.func109 rfl (by kernel_rfl) (by kernel_rfl)
theorem q13_pileref1_PartsOf : PCall P 109 [aS ⟨#[103, 51, 120, 121, 122, 47, 112]⟩] (s_pileref1_PartsOf.out [.l [[.s ⟨#[103, 51, 120, 121, 122]⟩, .s ⟨#[103, 51]⟩, .s ⟨#[120, 121, 122]⟩, .i 3, .s ⟨#[]⟩]], .t true]) := fn_pure (L := noLoops) hm upileref1_PartsOf_145_ok [] (fun _ _ => noLoops_ok _ _ _) Tryz.func109 rfl (by kernel_rfl) (by kernel_rfl)
theorem c_pileref1_PartsOf : ∀ d r, F_pileref1_PartsOf d = some r → ACallX P 109 (s_pileref1_PartsOf.args0 d) (denH (s_pileref1_PartsOf.H0 d)) (s_pileref1_PartsOf.out r) (denH (s_pileref1_PartsOf.H1 r)) := fun d r h => by
  have h := lookS_mem h
  have key : PCall P 109 [aS (gi d 0).str] (s_pileref1_PartsOf.out r) := by
    generalize (gi d 0).str = s at h
    simp only [tab_pileref1_PartsOf, List.mem_cons, List.not_mem_nil, or_false, Prod.mk.injEq] at h
    rcases h with ⟨rfl, rfl⟩ | ⟨rfl, rfl⟩ | ⟨rfl, rfl⟩ | ⟨rfl, rfl⟩ | ⟨rfl, rfl⟩ | ⟨rfl, rfl⟩ | ⟨rfl, rfl⟩ | ⟨rfl, rfl⟩ | ⟨rfl, rfl⟩ | ⟨rfl, rfl⟩ | ⟨rfl, rfl⟩ | ⟨rfl, rfl⟩ | ⟨rfl, rfl⟩ | ⟨rfl, rfl⟩
    · exact q0_pileref1_PartsOf
    · exact q1_pileref1_PartsOf
    · exact q2_pileref1_PartsOf
    · exact q3_pileref1_PartsOf
    · exact q4_pileref1_PartsOf
    · exact q5_pileref1_PartsOf
    · exact q6_pileref1_PartsOf
    · exact q7_pileref1_PartsOf
    · exact q8_pileref1_PartsOf
    · exact q9_pileref1_PartsOf
    · exact q10_pileref1_PartsOf
    · exact q11_pileref1_PartsOf
    · exact q12_pileref1_PartsOf
    · exact q13_pileref1_PartsOf
  exact key []
def t6 : Tab := t5.addP s_pileref1_PartsOf
theorem t6_ok : TabOK P t6 := t5_ok.addP (by kernel_rfl) (by kernel_rfl) c_pileref1_PartsOf
end
end Go.Proofs.SYtpbepppkchjccaaGreatDoor
