/-
  What is proved here: functions of the program as functions on data. No condition.
-/
import Derived.Test.YtmgdncpkhfgooaaGreatDoorML0
set_option linter.unusedSimpArgs false
set_option linter.unusedVariables false
set_option linter.unusedSectionVars false
namespace Go.Proofs.SYtmgdncpkhfgooaaGreatDoor
open Go Go.AL Go.Proofs
noncomputable section
def ucall_Parts_267 : Tab := t4.inline P 267 Tryz.f267 []
theorem ucall_Parts_267_ok : TabOK P ucall_Parts_267 := t4_ok.inline hm Tryz.func267 (by kernel_rfl) []
def ucall_Parts_279 : Tab := ucall_Parts_267.inline P 279 Tryz.f279 []
theorem ucall_Parts_279_ok : TabOK P ucall_Parts_279 := ucall_Parts_267_ok.inline hm Tryz.func279 (by kernel_rfl) []
def ucall_Parts_268 : Tab := ucall_Parts_279.inline P 268 Tryz.f268 []
theorem ucall_Parts_268_ok : TabOK P ucall_Parts_268 := ucall_Parts_279_ok.inline hm Tryz.func268 (by kernel_rfl) []
def ucall_Parts_235 : Tab := ucall_Parts_268.inline P 235 Tryz.f235 []
theorem ucall_Parts_235_ok : TabOK P ucall_Parts_235 := ucall_Parts_268_ok.inline hm Tryz.func235 (by kernel_rfl) []
def ucall_Parts_192 : Tab := ucall_Parts_235.inline P 192 Tryz.f192 []
theorem ucall_Parts_192_ok : TabOK P ucall_Parts_192 := ucall_Parts_235_ok.inline hm Tryz.func192 (by kernel_rfl) []
def ucall_Parts_145 : Tab := ucall_Parts_192.inline P 145 Tryz.f145 []
theorem ucall_Parts_145_ok : TabOK P ucall_Parts_145 := ucall_Parts_192_ok.inline hm Tryz.func145 (by kernel_rfl) []
def ucall_Parts_161 : Tab := ucall_Parts_145.inline P 161 Tryz.f161 []
theorem ucall_Parts_161_ok : TabOK P ucall_Parts_161 := ucall_Parts_145_ok.inline hm Tryz.func161 (by kernel_rfl) []
def ucall_Parts_205 : Tab := ucall_Parts_161.inline P 205 Tryz.f205 []
theorem ucall_Parts_205_ok : TabOK P ucall_Parts_205 := ucall_Parts_161_ok.inline hm Tryz.func205 (by kernel_rfl) []
def ucall_Parts_246 : Tab := ucall_Parts_205.inline P 246 Tryz.f246 []
theorem ucall_Parts_246_ok : TabOK P ucall_Parts_246 := ucall_Parts_205_ok.inline hm Tryz.func246 (by kernel_rfl) []
def ucall_Parts_206 : Tab := ucall_Parts_246.inline P 206 Tryz.f206 []
theorem ucall_Parts_206_ok : TabOK P ucall_Parts_206 := ucall_Parts_246_ok.inline hm Tryz.func206 (by kernel_rfl) []
def ucall_Parts_247 : Tab := ucall_Parts_206.inline P 247 Tryz.f247 []
theorem ucall_Parts_247_ok : TabOK P ucall_Parts_247 := ucall_Parts_206_ok.inline hm Tryz.func247 (by kernel_rfl) []
def ucall_Parts_208 : Tab := ucall_Parts_247.inline P 208 Tryz.f208 []
theorem ucall_Parts_208_ok : TabOK P ucall_Parts_208 := ucall_Parts_247_ok.inline hm Tryz.func208 (by kernel_rfl) []
def ucall_Parts_269 : Tab := ucall_Parts_208.inline P 269 Tryz.f269 []
theorem ucall_Parts_269_ok : TabOK P ucall_Parts_269 := ucall_Parts_208_ok.inline hm Tryz.func269 (by kernel_rfl) []
def ucall_Parts_236 : Tab := ucall_Parts_269.inline P 236 Tryz.f236 []
theorem ucall_Parts_236_ok : TabOK P ucall_Parts_236 := ucall_Parts_269_ok.inline hm Tryz.func236 (by kernel_rfl) []
def ucall_Parts_237 : Tab := ucall_Parts_236.inline P 237 Tryz.f237 []
theorem ucall_Parts_237_ok : TabOK P ucall_Parts_237 := ucall_Parts_236_ok.inline hm Tryz.func237 (by kernel_rfl) []
def ucall_Parts_193 : Tab := ucall_Parts_237.inline P 193 Tryz.f193 []
theorem ucall_Parts_193_ok : TabOK P ucall_Parts_193 := ucall_Parts_237_ok.inline hm Tryz.func193 (by kernel_rfl) []
def ucall_Parts_245 : Tab := ucall_Parts_193.inline P 245 Tryz.f245 []
theorem ucall_Parts_245_ok : TabOK P ucall_Parts_245 := ucall_Parts_193_ok.inline hm Tryz.func245 (by kernel_rfl) []
def ucall_Parts_273 : Tab := ucall_Parts_245.inline P 273 Tryz.f273 []
theorem ucall_Parts_273_ok : TabOK P ucall_Parts_273 := ucall_Parts_245_ok.inline hm Tryz.func273 (by kernel_rfl) []
def ucall_Parts_244 : Tab := ucall_Parts_273.inline P 244 Tryz.f244 []
theorem ucall_Parts_244_ok : TabOK P ucall_Parts_244 := ucall_Parts_273_ok.inline hm Tryz.func244 (by kernel_rfl) []
def ucall_Parts_243 : Tab := ucall_Parts_244.inline P 243 Tryz.f243 []
theorem ucall_Parts_243_ok : TabOK P ucall_Parts_243 := ucall_Parts_244_ok.inline hm Tryz.func243 (by kernel_rfl) []
def ucall_Parts_201 : Tab := ucall_Parts_243.inline P 201 Tryz.f201 []
theorem ucall_Parts_201_ok : TabOK P ucall_Parts_201 := ucall_Parts_243_ok.inline hm Tryz.func201 (by kernel_rfl) []
def ucall_Parts_202 : Tab := ucall_Parts_201.inline P 202 Tryz.f202 []
theorem ucall_Parts_202_ok : TabOK P ucall_Parts_202 := ucall_Parts_201_ok.inline hm Tryz.func202 (by kernel_rfl) []
def ucall_Parts_203 : Tab := ucall_Parts_202.inline P 203 Tryz.f203 []
theorem ucall_Parts_203_ok : TabOK P ucall_Parts_203 := ucall_Parts_202_ok.inline hm Tryz.func203 (by kernel_rfl) []
def tab_call_Parts : List (ByteArray × List G) := [(⟨#[]⟩, [.l [[.s ⟨#[]⟩, .s ⟨#[]⟩, .s ⟨#[]⟩, .i 0, .s ⟨#[]⟩]], .t false]), (⟨#[107, 49]⟩, [.l [[.s ⟨#[]⟩, .s ⟨#[]⟩, .s ⟨#[]⟩, .i 0, .s ⟨#[]⟩]], .t false]), (⟨#[75, 49, 65, 66]⟩, [.l [[.s ⟨#[]⟩, .s ⟨#[]⟩, .s ⟨#[]⟩, .i 0, .s ⟨#[]⟩]], .t false]), (⟨#[107, 49, 97, 98, 47]⟩, [.l [[.s ⟨#[]⟩, .s ⟨#[]⟩, .s ⟨#[]⟩, .i 0, .s ⟨#[]⟩]], .t false]), (⟨#[49, 97]⟩, [.l [[.s ⟨#[]⟩, .s ⟨#[]⟩, .s ⟨#[]⟩, .i 0, .s ⟨#[]⟩]], .t false]), (⟨#[107, 49, 97, 98, 47, 109, 109, 47, 112]⟩, [.l [[.s ⟨#[]⟩, .s ⟨#[]⟩, .s ⟨#[]⟩, .i 0, .s ⟨#[]⟩]], .t false]), (⟨#[107, 49, 97, 98]⟩, [.l [[.s ⟨#[107, 49, 97, 98]⟩, .s ⟨#[107, 49]⟩, .s ⟨#[97, 98]⟩, .i 0, .s ⟨#[]⟩]], .t true]), (⟨#[107, 49, 97, 97]⟩, [.l [[.s ⟨#[107, 49, 97, 97]⟩, .s ⟨#[107, 49]⟩, .s ⟨#[97, 97]⟩, .i 0, .s ⟨#[]⟩]], .t true]), (⟨#[107, 49, 97, 98, 47, 52]⟩, [.l [[.s ⟨#[107, 49, 97, 98]⟩, .s ⟨#[107, 49]⟩, .s ⟨#[97, 98]⟩, .i 2, .s ⟨#[52]⟩]], .t true]), (⟨#[111, 104, 50, 97, 98, 99]⟩, [.l [[.s ⟨#[111, 104, 50, 97, 98, 99]⟩, .s ⟨#[111, 104, 50]⟩, .s ⟨#[97, 98, 99]⟩, .i 0, .s ⟨#[]⟩]], .t true]), (⟨#[111, 104, 50, 97, 98, 100]⟩, [.l [[.s ⟨#[111, 104, 50, 97, 98, 100]⟩, .s ⟨#[111, 104, 50]⟩, .s ⟨#[97, 98, 100]⟩, .i 0, .s ⟨#[]⟩]], .t true]), (⟨#[119, 49, 97, 119]⟩, [.l [[.s ⟨#[119, 49, 97, 119]⟩, .s ⟨#[119, 49]⟩, .s ⟨#[97, 119]⟩, .i 0, .s ⟨#[]⟩]], .t true]), (⟨#[110, 49, 109, 109]⟩, [.l [[.s ⟨#[110, 49, 109, 109]⟩, .s ⟨#[110, 49]⟩, .s ⟨#[109, 109]⟩, .i 0, .s ⟨#[]⟩]], .t true]), (⟨#[103, 51, 120, 121, 122, 47, 112]⟩, [.l [[.s ⟨#[103, 51, 120, 121, 122]⟩, .s ⟨#[103, 51]⟩, .s ⟨#[120, 121, 122]⟩, .i 3, .s ⟨#[]⟩]], .t true])]
def F_call_Parts (d : List G) : Option (List G) := lookS tab_call_Parts (gi d 0).str
def s_call_Parts : FSpec := ⟨156, [.s (.str)], [], [], [.s (.row KParts), .s (.bool)], [], [], [], F_call_Parts⟩
theorem q0_call_Parts : PCall P 156 [aS ⟨#[]⟩] (s_call_Parts.out [.l [[.s ⟨#[]⟩, .s ⟨#[]⟩, .s ⟨#[]⟩, .i 0, .s ⟨#[]⟩]], .t false]) := fn_pure (L := noLoops) hm ucall_Parts_203_ok [] (fun _ _ => noLoops_ok _ _ _) Tryz.func156 rfl (by kernel_rfl) (by kernel_rfl)
theorem q1_call_Parts : PCall P 156 [aS ⟨#[107, 49]⟩] (s_call_Parts.out [.l [[.s ⟨#[]⟩, .s ⟨#[]⟩, .s ⟨#[]⟩, .i 0, .s ⟨#[]⟩]], .t false]) := fn_pure (L := noLoops) hm ucall_Parts_203_ok [] (fun _ _ => noLoops_ok _ _ _) Tryz.func156 rfl (by kernel_rfl) (by kernel_rfl)
theorem q2_call_Parts : PCall P 156 [aS ⟨#[75, 49, 65, 66]⟩] (s_call_Parts.out [.l [[.s ⟨#[]⟩, .s ⟨#[]⟩, .s ⟨#[]⟩, .i 0, .s ⟨#[]⟩]], .t false]) := fn_pure (L := noLoops) hm ucall_Parts_203_ok [] (fun _ _ => noLoops_ok _ _ _) Tryz.func156 rfl (by kernel_rfl) (by kernel_rfl)
theorem q3_call_Parts : PCall P 156 [aS ⟨#[107, 49, 97, 98, 47]⟩] (s_call_Parts.out [.l [[.s ⟨#[]⟩, .s ⟨#[]⟩, .s ⟨#[]⟩, .i 0, .s ⟨#[]⟩]], .t false]) := fn_pure (L := noLoops) hm ucall_Parts_203_ok [] (fun _ _ => noLoops_ok _ _ _) Tryz.func156 rfl (by kernel_rfl) (by kernel_rfl)
theorem q4_call_Parts : PCall P 156 [aS ⟨#[49, 97]⟩] (s_call_Parts.out [.l [[.s ⟨#[]⟩, .s ⟨#[]⟩, .s ⟨#[]⟩, .i 0, .s ⟨#[]⟩]], .t false]) := fn_pure (L := noLoops) hm ucall_Parts_203_ok [] (fun _ _ => noLoops_ok _ _ _) Tryz.func156 rfl (by kernel_rfl) (by kernel_rfl)
theorem q5_call_Parts : PCall P 156 [aS ⟨#[107, 49, 97, 98, 47, 109, 109, 47, 112]⟩] (s_call_Parts.out [.l [[.s ⟨#[]⟩, .s ⟨#[]⟩, .s ⟨#[]⟩, .i 0, .s ⟨#[]⟩]], .t false]) := fn_pure (L := noLoops) hm ucall_Parts_203_ok [] (fun _ _ => noLoops_ok _ _ _) Tryz.func156 rfl (by kernel_rfl) (by kernel_rfl)
theorem q6_call_Parts : PCall P 156 [aS ⟨#[107, 49, 97, 98]⟩] (s_call_Parts.out [.l [[.s ⟨#[107, 49, 97, 98]⟩, .s ⟨#[107, 49]⟩, .s ⟨#[97, 98]⟩, .i 0, .s ⟨#[]⟩]], .t true]) := fn_pure (L := noLoops) hm ucall_Parts_203_ok [] (fun _ _ => noLoops_ok _ _ _) Tryz.func156 rfl (by kernel_rfl) (by kernel_rfl)
theorem q7_call_Parts : PCall P 156 [aS ⟨#[107, 49, 97, 97]⟩] (s_call_Parts.out [.l [[.s ⟨#[107, 49, 97, 97]⟩, .s ⟨#[107, 49]⟩, .s ⟨#[97, 97]⟩, .i 0, .s ⟨#[]⟩]], .t true]) := fn_pure (L := noLoops) hm ucall_Parts_203_ok [] (fun _ _ => noLoops_ok _ _ _) Tryz.func156 rfl (by kernel_rfl) (by kernel_rfl)
theorem q8_call_Parts : PCall P 156 [aS ⟨#[107, 49, 97, 98, 47, 52]⟩] (s_call_Parts.out [.l [[.s ⟨#[107, 49, 97, 98]⟩, .s ⟨#[107, 49]⟩, .s ⟨#[97, 98]⟩, .i 2, .s ⟨#[52]⟩]], .t true]) := fn_pure (L := noLoops) hm ucall_Parts_203_ok [] (fun _ _ => noLoops_ok _ _ _) Tryz.func156 rfl (by kernel_rfl) (by kernel_rfl)
theorem q9_call_Parts : PCall P 156 [aS ⟨#[111, 104, 50, 97, 98, 99]⟩] (s_call_Parts.out [.l [[.s ⟨#[111, 104, 50, 97, 98, 99]⟩, .s ⟨#[111, 104, 50]⟩, .s ⟨#[97, 98, 99]⟩, .i 0, .s ⟨#[]⟩]], .t true]) := fn_pure (L := noLoops) hm ucall_Parts_203_ok [] (fun _ _ => noLoops_ok _ _ _) Tryz.func156 rfl (by kernel_rfl) (by kernel_rfl)
theorem q10_call_Parts : PCall P 156 [aS ⟨#[111, 104, 50, 97, 98, 100]⟩] (s_call_Parts.out [.l [[.s ⟨#[111, 104, 50, 97, 98, 100]⟩, .s ⟨#[111, 104, 50]⟩, .s ⟨#[97, 98, 100]⟩, .i 0, .s ⟨#[]⟩]], .t true]) := fn_pure (L := noLoops) hm ucall_Parts_203_ok [] (fun _ _ => noLoops_ok _ _ _) Tryz.func156 rfl (by kernel_rfl) (by kernel_rfl)
theorem q11_call_Parts : PCall P 156 [aS ⟨#[119, 49, 97, 119]⟩] (s_call_Parts.out [.l [[.s ⟨#[119, 49, 97, 119]⟩, .s ⟨#[119, 49]⟩, .s ⟨#[97, 119]⟩, .i 0, .s ⟨#[]⟩]], .t true]) := fn_pure (L := noLoops) hm ucall_Parts_203_ok [] (fun _ _ => noLoops_ok _ _ _) Tryz.func156 rfl (by kernel_rfl) (by kernel_rfl)
theorem q12_call_Parts : PCall P 156 [aS ⟨#[110, 49, 109, 109]⟩] (s_call_Parts.out [.l [[.s ⟨#[110, 49, 109, 109]⟩, .s ⟨#[110, 49]⟩, .s ⟨#[109, 109]⟩, .i 0, .s ⟨#[]⟩]], .t true]) := fn_pure (L := noLoops) hm ucall_Parts_203_ok [] (fun _ _ => noLoops_ok _ _ _) Tryz.func156 rfl (by kernel_rfl) (by kernel_rfl)
theorem q13_call_Parts : PCall P 156 [aS ⟨#[103, 51, 120, 121, 122, 47, 112]⟩] (s_call_Parts.out [.l [[.s ⟨#[103, 51, 120, 121, 122]⟩, .s ⟨#[103, 51]⟩, .s ⟨#[120, 121, 122]⟩, .i 3, .s ⟨#[]⟩]], .t true]) := fn_pure (L := noLoops) hm ucall_Parts_203_ok [] (fun _ _ => noLoops_ok _ _ _) Tryz.func156 rfl (by kernel_rfl) (by kernel_rfl)
theorem c_call_Parts : ∀ d r, F_call_Parts d = some r → ACallX P 156 (s_call_Parts.args0 d) (denH (s_call_Parts.H0 d)) (s_call_Parts.out r) (denH (s_call_Parts.H1 r)) := fun d r h => by
  have h := lookS_mem h
  have key : PCall P 156 [aS (gi d 0).str] (s_call_Parts.out r) := by
    generalize (gi d 0).str = s at h
    simp only [tab_call_Parts, List.mem_cons, List.not_mem_nil, or_false, Prod.mk.injEq] at h
    rcases h with ⟨rfl, rfl⟩ | ⟨rfl, rfl⟩ | ⟨rfl, rfl⟩ | ⟨rfl, rfl⟩ | ⟨rfl, rfl⟩ | ⟨rfl, rfl⟩ | ⟨rfl, rfl⟩ | ⟨rfl, rfl⟩ | ⟨rfl, rfl⟩ | ⟨rfl, rfl⟩ | ⟨rfl, rfl⟩ | ⟨rfl, rfl⟩ | ⟨rfl, rfl⟩ | ⟨rfl, rfl⟩
    · exact q0_call_Parts
    · exact q1_call_Parts
    · exact q2_call_Parts
    · exact q3_call_Parts
    · exact q4_call_Parts
    · exact q5_call_Parts
    · exact q6_call_Parts
    · exact q7_call_Parts
    · exact q8_call_Parts
    · exact q9_call_Parts
    · exact q10_call_Parts
    · exact q11_call_Parts
    · exact q12_call_Parts
    · exact q13_call_Parts
  exact key []
def t5 : Tab := t4.addP s_call_Parts
theorem t5_ok : TabOK P t5 := t4_ok.addP (by kernel_rfl) (by kernel_rfl) c_call_Parts
def upileref1_PartsOf_267 : Tab := t5.inline P 267 Tryz.f267 []
theorem upileref1_PartsOf_267_ok : TabOK P upileref1_PartsOf_267 := t5_ok.inline hm Tryz.func267 (by kernel_rfl) []
def upileref1_PartsOf_279 : Tab := upileref1_PartsOf_267.inline P 279 Tryz.f279 []
theorem upileref1_PartsOf_279_ok : TabOK P upileref1_PartsOf_279 := upileref1_PartsOf_267_ok.inline hm Tryz.func279 (by kernel_rfl) []
def upileref1_PartsOf_268 : Tab := upileref1_PartsOf_279.inline P 268 Tryz.f268 []
theorem upileref1_PartsOf_268_ok : TabOK P upileref1_PartsOf_268 := upileref1_PartsOf_279_ok.inline hm Tryz.func268 (by kernel_rfl) []
def upileref1_PartsOf_235 : Tab := upileref1_PartsOf_268.inline P 235 Tryz.f235 []
theorem upileref1_PartsOf_235_ok : TabOK P upileref1_PartsOf_235 := upileref1_PartsOf_268_ok.inline hm Tryz.func235 (by kernel_rfl) []
def upileref1_PartsOf_192 : Tab := upileref1_PartsOf_235.inline P 192 Tryz.f192 []
theorem upileref1_PartsOf_192_ok : TabOK P upileref1_PartsOf_192 := upileref1_PartsOf_235_ok.inline hm Tryz.func192 (by kernel_rfl) []
def upileref1_PartsOf_145 : Tab := upileref1_PartsOf_192.inline P 145 Tryz.f145 []
theorem upileref1_PartsOf_145_ok : TabOK P upileref1_PartsOf_145 := upileref1_PartsOf_192_ok.inline hm Tryz.func145 (by kernel_rfl) []
def upileref1_PartsOf_161 : Tab := upileref1_PartsOf_145.inline P 161 Tryz.f161 []
theorem upileref1_PartsOf_161_ok : TabOK P upileref1_PartsOf_161 := upileref1_PartsOf_145_ok.inline hm Tryz.func161 (by kernel_rfl) []
def upileref1_PartsOf_205 : Tab := upileref1_PartsOf_161.inline P 205 Tryz.f205 []
theorem upileref1_PartsOf_205_ok : TabOK P upileref1_PartsOf_205 := upileref1_PartsOf_161_ok.inline hm Tryz.func205 (by kernel_rfl) []
def upileref1_PartsOf_246 : Tab := upileref1_PartsOf_205.inline P 246 Tryz.f246 []
theorem upileref1_PartsOf_246_ok : TabOK P upileref1_PartsOf_246 := upileref1_PartsOf_205_ok.inline hm Tryz.func246 (by kernel_rfl) []
def upileref1_PartsOf_206 : Tab := upileref1_PartsOf_246.inline P 206 Tryz.f206 []
theorem upileref1_PartsOf_206_ok : TabOK P upileref1_PartsOf_206 := upileref1_PartsOf_246_ok.inline hm Tryz.func206 (by kernel_rfl) []
def upileref1_PartsOf_247 : Tab := upileref1_PartsOf_206.inline P 247 Tryz.f247 []
theorem upileref1_PartsOf_247_ok : TabOK P upileref1_PartsOf_247 := upileref1_PartsOf_206_ok.inline hm Tryz.func247 (by kernel_rfl) []
def upileref1_PartsOf_208 : Tab := upileref1_PartsOf_247.inline P 208 Tryz.f208 []
theorem upileref1_PartsOf_208_ok : TabOK P upileref1_PartsOf_208 := upileref1_PartsOf_247_ok.inline hm Tryz.func208 (by kernel_rfl) []
def upileref1_PartsOf_269 : Tab := upileref1_PartsOf_208.inline P 269 Tryz.f269 []
theorem upileref1_PartsOf_269_ok : TabOK P upileref1_PartsOf_269 := upileref1_PartsOf_208_ok.inline hm Tryz.func269 (by kernel_rfl) []
def upileref1_PartsOf_236 : Tab := upileref1_PartsOf_269.inline P 236 Tryz.f236 []
theorem upileref1_PartsOf_236_ok : TabOK P upileref1_PartsOf_236 := upileref1_PartsOf_269_ok.inline hm Tryz.func236 (by kernel_rfl) []
def upileref1_PartsOf_237 : Tab := upileref1_PartsOf_236.inline P 237 Tryz.f237 []
theorem upileref1_PartsOf_237_ok : TabOK P upileref1_PartsOf_237 := upileref1_PartsOf_236_ok.inline hm Tryz.func237 (by kernel_rfl) []
def upileref1_PartsOf_193 : Tab := upileref1_PartsOf_237.inline P 193 Tryz.f193 []
theorem upileref1_PartsOf_193_ok : TabOK P upileref1_PartsOf_193 := upileref1_PartsOf_237_ok.inline hm Tryz.func193 (by kernel_rfl) []
def upileref1_PartsOf_195 : Tab := upileref1_PartsOf_193.inline P 195 Tryz.f195 []
theorem upileref1_PartsOf_195_ok : TabOK P upileref1_PartsOf_195 := upileref1_PartsOf_193_ok.inline hm Tryz.func195 (by kernel_rfl) []
def upileref1_PartsOf_238 : Tab := upileref1_PartsOf_195.inline P 238 Tryz.f238 []
theorem upileref1_PartsOf_238_ok : TabOK P upileref1_PartsOf_238 := upileref1_PartsOf_195_ok.inline hm Tryz.func238 (by kernel_rfl) []
def upileref1_PartsOf_196 : Tab := upileref1_PartsOf_238.inline P 196 Tryz.f196 []
theorem upileref1_PartsOf_196_ok : TabOK P upileref1_PartsOf_196 := upileref1_PartsOf_238_ok.inline hm Tryz.func196 (by kernel_rfl) []
def upileref1_PartsOf_194 : Tab := upileref1_PartsOf_196.inline P 194 Tryz.f194 []
theorem upileref1_PartsOf_194_ok : TabOK P upileref1_PartsOf_194 := upileref1_PartsOf_196_ok.inline hm Tryz.func194 (by kernel_rfl) []
def upileref1_PartsOf_147 : Tab := upileref1_PartsOf_194.inline P 147 Tryz.f147 []
theorem upileref1_PartsOf_147_ok : TabOK P upileref1_PartsOf_147 := upileref1_PartsOf_194_ok.inline hm Tryz.func147 (by kernel_rfl) []
def upileref1_PartsOf_146 : Tab := upileref1_PartsOf_147.inline P 146 Tryz.f146 []
theorem upileref1_PartsOf_146_ok : TabOK P upileref1_PartsOf_146 := upileref1_PartsOf_147_ok.inline hm Tryz.func146 (by kernel_rfl) []
def upileref1_PartsOf_148 : Tab := upileref1_PartsOf_146.inline P 148 Tryz.f148 []
theorem upileref1_PartsOf_148_ok : TabOK P upileref1_PartsOf_148 := upileref1_PartsOf_146_ok.inline hm Tryz.func148 (by kernel_rfl) []
def upileref1_PartsOf_197 : Tab := upileref1_PartsOf_148.inline P 197 Tryz.f197 []
theorem upileref1_PartsOf_197_ok : TabOK P upileref1_PartsOf_197 := upileref1_PartsOf_148_ok.inline hm Tryz.func197 (by kernel_rfl) []
def upileref1_PartsOf_149 : Tab := upileref1_PartsOf_197.inline P 149 Tryz.f149 []
theorem upileref1_PartsOf_149_ok : TabOK P upileref1_PartsOf_149 := upileref1_PartsOf_197_ok.inline hm Tryz.func149 (by kernel_rfl) []
def tab_pileref1_PartsOf : List (ByteArray × List G) := [(⟨#[]⟩, [.l [[.s ⟨#[]⟩, .s ⟨#[]⟩, .s ⟨#[]⟩, .i 0, .s ⟨#[]⟩]], .t false]), (⟨#[107, 49]⟩, [.l [[.s ⟨#[]⟩, .s ⟨#[]⟩, .s ⟨#[]⟩, .i 0, .s ⟨#[]⟩]], .t false]), (⟨#[75, 49, 65, 66]⟩, [.l [[.s ⟨#[]⟩, .s ⟨#[]⟩, .s ⟨#[]⟩, .i 0, .s ⟨#[]⟩]], .t false]), (⟨#[107, 49, 97, 98, 47]⟩, [.l [[.s ⟨#[]⟩, .s ⟨#[]⟩, .s ⟨#[]⟩, .i 0, .s ⟨#[]⟩]], .t false]), (⟨#[49, 97]⟩, [.l [[.s ⟨#[]⟩, .s ⟨#[]⟩, .s ⟨#[]⟩, .i 0, .s ⟨#[]⟩]], .t false]), (⟨#[107, 49, 97, 98, 47, 109, 109, 47, 112]⟩, [.l [[.s ⟨#[]⟩, .s ⟨#[]⟩, .s ⟨#[]⟩, .i 0, .s ⟨#[]⟩]], .t false]), (⟨#[107, 49, 97, 98]⟩, [.l [[.s ⟨#[107, 49, 97, 98]⟩, .s ⟨#[107, 49]⟩, .s ⟨#[97, 98]⟩, .i 0, .s ⟨#[]⟩]], .t true]), (⟨#[107, 49, 97, 97]⟩, [.l [[.s ⟨#[107, 49, 97, 97]⟩, .s ⟨#[107, 49]⟩, .s ⟨#[97, 97]⟩, .i 0, .s ⟨#[]⟩]], .t true]), (⟨#[107, 49, 97, 98, 47, 52]⟩, [.l [[.s ⟨#[107, 49, 97, 98]⟩, .s ⟨#[107, 49]⟩, .s ⟨#[97, 98]⟩, .i 2, .s ⟨#[52]⟩]], .t true]), (⟨#[111, 104, 50, 97, 98, 99]⟩, [.l [[.s ⟨#[111, 104, 50, 97, 98, 99]⟩, .s ⟨#[111, 104, 50]⟩, .s ⟨#[97, 98, 99]⟩, .i 0, .s ⟨#[]⟩]], .t true]), (⟨#[111, 104, 50, 97, 98, 100]⟩, [.l [[.s ⟨#[111, 104, 50, 97, 98, 100]⟩, .s ⟨#[111, 104, 50]⟩, .s ⟨#[97, 98, 100]⟩, .i 0, .s ⟨#[]⟩]], .t true]), (⟨#[119, 49, 97, 119]⟩, [.l [[.s ⟨#[119, 49, 97, 119]⟩, .s ⟨#[119, 49]⟩, .s ⟨#[97, 119]⟩, .i 0, .s ⟨#[]⟩]], .t true]), (⟨#[110, 49, 109, 109]⟩, [.l [[.s ⟨#[110, 49, 109, 109]⟩, .s ⟨#[110, 49]⟩, .s ⟨#[109, 109]⟩, .i 0, .s ⟨#[]⟩]], .t true]), (⟨#[103, 51, 120, 121, 122, 47, 112]⟩, [.l [[.s ⟨#[103, 51, 120, 121, 122]⟩, .s ⟨#[103, 51]⟩, .s ⟨#[120, 121, 122]⟩, .i 3, .s ⟨#[]⟩]], .t true])]
def F_pileref1_PartsOf (d : List G) : Option (List G) := lookS tab_pileref1_PartsOf (gi d 0).str
def s_pileref1_PartsOf : FSpec := ⟨106, [.s (.str)], [], [], [.s (.row KParts), .s (.bool)], [], [], [], F_pileref1_PartsOf⟩
theorem q0_pileref1_PartsOf : PCall P 106 [aS ⟨#[]⟩] (s_pileref1_PartsOf.out [.l [[.s ⟨#[]⟩, .s ⟨#[]⟩, .s ⟨#[]⟩, .i 0, .s ⟨#[]⟩]], .t false]) := fn_pure (L := noLoops) hm upileref1_PartsOf_149_ok [] (fun _ _ => noLoops_ok _ _ _) Tryz.func106 rfl (by kernel_rfl) (by kernel_rfl)
theorem q1_pileref1_PartsOf : PCall P 106 [aS ⟨#[107, 49]⟩] (s_pileref1_PartsOf.out [.l [[.s ⟨#[]⟩, .s ⟨#[]⟩, .s ⟨#[]⟩, .i 0, .s ⟨#[]⟩]], .t false]) := fn_pure (L := noLoops) hm upileref1_PartsOf_149_ok [] (fun _ _ => noLoops_ok _ _ _) Tryz.func106 rfl (by kernel_rfl) (by kernel_rfl)
theorem q2_pileref1_PartsOf : PCall P 106 [aS ⟨#[75, 49, 65, 66]⟩] (s_pileref1_PartsOf.out [.l [[.s ⟨#[]⟩, .s ⟨#[]⟩, .s ⟨#[]⟩, .i 0, .s ⟨#[]⟩]], .t false]) := fn_pure (L := noLoops) hm upileref1_PartsOf_149_ok [] (fun _ _ => noLoops_ok _ _ _) Tryz.func106 rfl (by kernel_rfl) (by kernel_rfl)
theorem q3_pileref1_PartsOf : PCall P 106 [aS ⟨#[107, 49, 97, 98, 47]⟩] (s_pileref1_PartsOf.out [.l [[.s ⟨#[]⟩, .s ⟨#[]⟩, .s ⟨#[]⟩, .i 0, .s ⟨#[]⟩]], .t false]) := fn_pure (L := noLoops) hm upileref1_PartsOf_149_ok [] (fun _ _ => noLoops_ok _ _ _) Tryz.func106 rfl (by kernel_rfl) (by kernel_rfl)
theorem q4_pileref1_PartsOf : PCall P 106 [aS ⟨#[49, 97]⟩] (s_pileref1_PartsOf.out [.l [[.s ⟨#[]⟩, .s ⟨#[]⟩, .s ⟨#[]⟩, .i 0, .s ⟨#[]⟩]], .t false]) := fn_pure (L := noLoops) hm upileref1_PartsOf_149_ok [] (fun _ _ => noLoops_ok _ _ _) Tryz.func106 rfl (by kernel_rfl) (by kernel_rfl)
theorem q5_pileref1_PartsOf : PCall P 106 [aS ⟨#[107, 49, 97, 98, 47, 109, 109, 47, 112]⟩] (s_pileref1_PartsOf.out [.l [[.s ⟨#[]⟩, .s ⟨#[]⟩, .s ⟨#[]⟩, .i 0, .s ⟨#[]⟩]], .t false]) := fn_pure (L := noLoops) hm upileref1_PartsOf_149_ok [] (fun _ _ => noLoops_ok _ _ _) Tryz.func106 rfl (by kernel_rfl) (by kernel_rfl)
theorem q6_pileref1_PartsOf : PCall P 106 [aS ⟨#[107, 49, 97, 98]⟩] (s_pileref1_PartsOf.out [.l [[.s ⟨#[107, 49, 97, 98]⟩, .s ⟨#[107, 49]⟩, .s ⟨#[97, 98]⟩, .i 0, .s ⟨#[]⟩]], .t true]) := fn_pure (L := noLoops) hm upileref1_PartsOf_149_ok [] (fun _ _ => noLoops_ok _ _ _) Tryz.func106 rfl (by kernel_rfl) (by kernel_rfl)
theorem q7_pileref1_PartsOf : PCall P 106 [aS ⟨#[107, 49, 97, 97]⟩] (s_pileref1_PartsOf.out [.l [[.s ⟨#[107, 49, 97, 97]⟩, .s ⟨#[107, 49]⟩, .s ⟨#[97, 97]⟩, .i 0, .s ⟨#[]⟩]], .t true]) := fn_pure (L := noLoops) hm upileref1_PartsOf_149_ok [] (fun _ _ => noLoops_ok _ _ _) Tryz.func106 rfl (by kernel_rfl) (by kernel_rfl)
theorem q8_pileref1_PartsOf : PCall P 106 [aS ⟨#[107, 49, 97, 98, 47, 52]⟩] (s_pileref1_PartsOf.out [.l [[.s ⟨#[107, 49, 97, 98]⟩, .s ⟨#[107, 49]⟩, .s ⟨#[97, 98]⟩, .i 2, .s ⟨#[52]⟩]], .t true]) := fn_pure (L := noLoops) hm upileref1_PartsOf_149_ok [] (fun _ _ => noLoops_ok _ _ _) Tryz.func106 rfl (by kernel_rfl) (by kernel_rfl)
theorem q9_pileref1_PartsOf : PCall P 106 [aS ⟨#[111, 104, 50, 97, 98, 99]⟩] (s_pileref1_PartsOf.out [.l [[.s ⟨#[111, 104, 50, 97, 98, 99]⟩, .s ⟨#[111, 104, 50]⟩, .s ⟨#[97, 98, 99]⟩, .i 0, .s ⟨#[]⟩]], .t true]) := fn_pure (L := noLoops) hm upileref1_PartsOf_149_ok [] (fun _ _ => noLoops_ok _ _ _) Tryz.func106 rfl (by kernel_rfl) (by kernel_rfl)
theorem q10_pileref1_PartsOf : PCall P 106 [aS ⟨#[111, 104, 50, 97, 98, 100]⟩] (s_pileref1_PartsOf.out [.l [[.s ⟨#[111, 104, 50, 97, 98, 100]⟩, .s ⟨#[111, 104, 50]⟩, .s ⟨#[97, 98, 100]⟩, .i 0, .s ⟨#[]⟩]], .t true]) := fn_pure (L := noLoops) hm upileref1_PartsOf_149_ok [] (fun _ _ => noLoops_ok _ _ _) Tryz.func106 rfl (by kernel_rfl) (by kernel_rfl)
theorem q11_pileref1_PartsOf : PCall P 106 [aS ⟨#[119, 49, 97, 119]⟩] (s_pileref1_PartsOf.out [.l [[.s ⟨#[119, 49, 97, 119]⟩, .s ⟨#[119, 49]⟩, .s ⟨#[97, 119]⟩, .i 0, .s ⟨#[]⟩]], .t true]) := fn_pure (L := noLoops) hm upileref1_PartsOf_149_ok [] (fun _ _ => noLoops_ok _ _ _) Tryz.func106 rfl (by kernel_rfl) (by kernel_rfl)
theorem q12_pileref1_PartsOf : PCall P 106 [aS ⟨#[110, 49, 109, 109]⟩] (s_pileref1_PartsOf.out [.l [[.s ⟨#[110, 49, 109, 109]⟩, .s ⟨#[110, 49]⟩, .s ⟨#[109, 109]⟩, .i 0, .s ⟨#[]⟩]], .t true]) := fn_pure (L := noLoops) hm upileref1_PartsOf_149_ok [] (fun _ _ => noLoops_ok _ _ _) Tryz.func106 rfl (by kernel_rfl) (by kernel_rfl)
theorem q13_pileref1_PartsOf : PCall P 106 [aS ⟨#[103, 51, 120, 121, 122, 47, 112]⟩] (s_pileref1_PartsOf.out [.l [[.s ⟨#[103, 51, 120, 121, 122]⟩, .s ⟨#[103, 51]⟩, .s ⟨#[120, 121, 122]⟩, .i 3, .s ⟨#[]⟩]], .t true]) := fn_pure (L := noLoops) hm upileref1_PartsOf_149_ok [] (fun _ _ => noLoops_ok _ _ _) Tryz.func106 rfl (by kernel_rfl) (by kernel_rfl)
theorem c_pileref1_PartsOf : ∀ d r, F_pileref1_PartsOf d = some r → ACallX P 106 (s_pileref1_PartsOf.args0 d) (denH (s_pileref1_PartsOf.H0 d)) (s_pileref1_PartsOf.out r) (denH (s_pileref1_PartsOf.H1 r)) := fun d r h => by
  have h := lookS_mem h
  have key : PCall P 106 [aS (gi d 0).str] (s_pileref1_PartsOf.out r) := by
    generalize (gi d 0).str = s at h
    simp only [tab_pileref1_PartsOf, List.mem_cons, List.not_mem_nil, or_false, Prod.mk.injEq] at h
    rcases h with ⟨rfl, rfl⟩ | ⟨rfl, rfl⟩ | ⟨rfl, rfl⟩ | ⟨rfl, rfl⟩ | ⟨rfl, rfl⟩ | ⟨rfl, rfl⟩ | ⟨rfl, rfl⟩ | ⟨rfl, rfl⟩ | ⟨rfl, rfl⟩ | ⟨rfl, rfl⟩ | ⟨rfl, rfl⟩ | ⟨rfl, rfl⟩ | ⟨rfl, rfl⟩ | ⟨rfl, rfl⟩
    · exact q0_pileref1_PartsOf
    · exact q1_pileref1_PartsOf
    · exact q2_pileref1_PartsOf
    · exact q3_pileref1_PartsOf
    · exact q4_pileref1_PartsOf
    · exact q5_pileref1_PartsOf
    · exact q6_pileref1_PartsOf
    · exact q7_pileref1_PartsOf
    · exact q8_pileref1_PartsOf
    · exact q9_pileref1_PartsOf
    · exact q10_pileref1_PartsOf
    · exact q11_pileref1_PartsOf
    · exact q12_pileref1_PartsOf
    · exact q13_pileref1_PartsOf
  exact key []
def t6 : Tab := t5.addP s_pileref1_PartsOf
theorem t6_ok : TabOK P t6 := t5_ok.addP (by kernel_rfl) (by kernel_rfl) c_pileref1_PartsOf
end
end Go.Proofs.SYtmgdncpkhfgooaaGreatDoor
