/-
  What is proved here: functions of the program as functions on data. No condition.
-/
import Derived.Test.YthnhleemkjpigaaGreatDoorML0
set_option linter.unusedSimpArgs false
set_option linter.unusedVariables false
set_option linter.unusedSectionVars false
namespace Go.Proofs.SYthnhleemkjpigaaGreatDoor
open Go Go.AL Go.Proofs
noncomputable section
def ucall_Parts_274 : Tab := t5.inline P 274 Tryz.f274 []
theorem ucall_Parts_274_ok : TabOK P ucall_Parts_274 := t5_ok.inline hm Tryz.func274 (by kernel_rfl) []
def ucall_Parts_295 : Tab := ucall_Parts_274.inline P 295 Tryz.f295 []
theorem ucall_Parts_295_ok : TabOK P ucall_Parts_295 := ucall_Parts_274_ok.inline hm Tryz.func295 (by kernel_rfl) []
def ucall_Parts_275 : Tab := ucall_Parts_295.inline P 275 Tryz.f275 []
theorem ucall_Parts_275_ok : TabOK P ucall_Parts_275 := ucall_Parts_295_ok.inline hm Tryz.func275 (by kernel_rfl) []
def ucall_Parts_244 : Tab := ucall_Parts_275.inline P 244 Tryz.f244 []
theorem ucall_Parts_244_ok : TabOK P ucall_Parts_244 := ucall_Parts_275_ok.inline hm Tryz.func244 (by kernel_rfl) []
def ucall_Parts_208 : Tab := ucall_Parts_244.inline P 208 Tryz.f208 []
theorem ucall_Parts_208_ok : TabOK P ucall_Parts_208 := ucall_Parts_244_ok.inline hm Tryz.func208 (by kernel_rfl) []
def ucall_Parts_144 : Tab := ucall_Parts_208.inline P 144 Tryz.f144 []
theorem ucall_Parts_144_ok : TabOK P ucall_Parts_144 := ucall_Parts_208_ok.inline hm Tryz.func144 (by kernel_rfl) []
def ucall_Parts_203 : Tab := ucall_Parts_144.inline P 203 Tryz.f203 []
theorem ucall_Parts_203_ok : TabOK P ucall_Parts_203 := ucall_Parts_144_ok.inline hm Tryz.func203 (by kernel_rfl) []
def ucall_Parts_240 : Tab := ucall_Parts_203.inline P 240 Tryz.f240 []
theorem ucall_Parts_240_ok : TabOK P ucall_Parts_240 := ucall_Parts_203_ok.inline hm Tryz.func240 (by kernel_rfl) []
def ucall_Parts_271 : Tab := ucall_Parts_240.inline P 271 Tryz.f271 []
theorem ucall_Parts_271_ok : TabOK P ucall_Parts_271 := ucall_Parts_240_ok.inline hm Tryz.func271 (by kernel_rfl) []
def ucall_Parts_241 : Tab := ucall_Parts_271.inline P 241 Tryz.f241 []
theorem ucall_Parts_241_ok : TabOK P ucall_Parts_241 := ucall_Parts_271_ok.inline hm Tryz.func241 (by kernel_rfl) []
def ucall_Parts_272 : Tab := ucall_Parts_241.inline P 272 Tryz.f272 []
theorem ucall_Parts_272_ok : TabOK P ucall_Parts_272 := ucall_Parts_241_ok.inline hm Tryz.func272 (by kernel_rfl) []
def ucall_Parts_243 : Tab := ucall_Parts_272.inline P 243 Tryz.f243 []
theorem ucall_Parts_243_ok : TabOK P ucall_Parts_243 := ucall_Parts_272_ok.inline hm Tryz.func243 (by kernel_rfl) []
def ucall_Parts_276 : Tab := ucall_Parts_243.inline P 276 Tryz.f276 []
theorem ucall_Parts_276_ok : TabOK P ucall_Parts_276 := ucall_Parts_243_ok.inline hm Tryz.func276 (by kernel_rfl) []
def ucall_Parts_245 : Tab := ucall_Parts_276.inline P 245 Tryz.f245 []
theorem ucall_Parts_245_ok : TabOK P ucall_Parts_245 := ucall_Parts_276_ok.inline hm Tryz.func245 (by kernel_rfl) []
def ucall_Parts_246 : Tab := ucall_Parts_245.inline P 246 Tryz.f246 []
theorem ucall_Parts_246_ok : TabOK P ucall_Parts_246 := ucall_Parts_245_ok.inline hm Tryz.func246 (by kernel_rfl) []
def ucall_Parts_209 : Tab := ucall_Parts_246.inline P 209 Tryz.f209 []
theorem ucall_Parts_209_ok : TabOK P ucall_Parts_209 := ucall_Parts_246_ok.inline hm Tryz.func209 (by kernel_rfl) []
def ucall_Parts_238 : Tab := ucall_Parts_209.inline P 238 Tryz.f238 []
theorem ucall_Parts_238_ok : TabOK P ucall_Parts_238 := ucall_Parts_209_ok.inline hm Tryz.func238 (by kernel_rfl) []
def ucall_Parts_270 : Tab := ucall_Parts_238.inline P 270 Tryz.f270 []
theorem ucall_Parts_270_ok : TabOK P ucall_Parts_270 := ucall_Parts_238_ok.inline hm Tryz.func270 (by kernel_rfl) []
def ucall_Parts_237 : Tab := ucall_Parts_270.inline P 237 Tryz.f237 []
theorem ucall_Parts_237_ok : TabOK P ucall_Parts_237 := ucall_Parts_270_ok.inline hm Tryz.func237 (by kernel_rfl) []
def ucall_Parts_236 : Tab := ucall_Parts_237.inline P 236 Tryz.f236 []
theorem ucall_Parts_236_ok : TabOK P ucall_Parts_236 := ucall_Parts_237_ok.inline hm Tryz.func236 (by kernel_rfl) []
def ucall_Parts_197 : Tab := ucall_Parts_236.inline P 197 Tryz.f197 []
theorem ucall_Parts_197_ok : TabOK P ucall_Parts_197 := ucall_Parts_236_ok.inline hm Tryz.func197 (by kernel_rfl) []
def ucall_Parts_198 : Tab := ucall_Parts_197.inline P 198 Tryz.f198 []
theorem ucall_Parts_198_ok : TabOK P ucall_Parts_198 := ucall_Parts_197_ok.inline hm Tryz.func198 (by kernel_rfl) []
def ucall_Parts_199 : Tab := ucall_Parts_198.inline P 199 Tryz.f199 []
theorem ucall_Parts_199_ok : TabOK P ucall_Parts_199 := ucall_Parts_198_ok.inline hm Tryz.func199 (by kernel_rfl) []
def tab_call_Parts : List (ByteArray × List G) := [(⟨#[]⟩, [.l [[.s ⟨#[]⟩, .s ⟨#[]⟩, .s ⟨#[]⟩, .i 0, .s ⟨#[]⟩]], .t false]), (⟨#[107, 49]⟩, [.l [[.s ⟨#[]⟩, .s ⟨#[]⟩, .s ⟨#[]⟩, .i 0, .s ⟨#[]⟩]], .t false]), (⟨#[75, 49, 65, 66]⟩, [.l [[.s ⟨#[]⟩, .s ⟨#[]⟩, .s ⟨#[]⟩, .i 0, .s ⟨#[]⟩]], .t false]), (⟨#[107, 49, 97, 98, 47]⟩, [.l [[.s ⟨#[]⟩, .s ⟨#[]⟩, .s ⟨#[]⟩, .i 0, .s ⟨#[]⟩]], .t false]), (⟨#[49, 97]⟩, [.l [[.s ⟨#[]⟩, .s ⟨#[]⟩, .s ⟨#[]⟩, .i 0, .s ⟨#[]⟩]], .t false]), (⟨#[107, 49, 97, 98, 47, 109, 109, 47, 112]⟩, [.l [[.s ⟨#[]⟩, .s ⟨#[]⟩, .s ⟨#[]⟩, .i 0, .s ⟨#[]⟩]], .t false]), (⟨#[107, 49, 97, 98]⟩, [.l [[.s ⟨#[107, 49, 97, 98]⟩, .s ⟨#[107, 49]⟩, .s ⟨#[97, 98]⟩, .i 0, .s ⟨#[]⟩]], .t true]), (⟨#[107, 49, 97, 97]⟩, [.l [[.s ⟨#[107, 49, 97, 97]⟩, .s ⟨#[107, 49]⟩, .s ⟨#[97, 97]⟩, .i 0, .s ⟨#[]⟩]], .t true]), (⟨#[107, 49, 97, 98, 47, 52]⟩, [.l [[.s ⟨#[107, 49, 97, 98]⟩, .s ⟨#[107, 49]⟩, .s ⟨#[97, 98]⟩, .i 2, .s ⟨#[52]⟩]], .t true]), (⟨#[111, 104, 50, 97, 98, 99]⟩, [.l [[.s ⟨#[111, 104, 50, 97, 98, 99]⟩, .s ⟨#[111, 104, 50]⟩, .s ⟨#[97, 98, 99]⟩, .i 0, .s ⟨#[]⟩]], .t true]), (⟨#[111, 104, 50, 97, 98, 100]⟩, [.l [[.s ⟨#[111, 104, 50, 97, 98, 100]⟩, .s ⟨#[111, 104, 50]⟩, .s ⟨#[97, 98, 100]⟩, .i 0, .s ⟨#[]⟩]], .t true]), (⟨#[119, 49, 97, 119]⟩, [.l [[.s ⟨#[119, 49, 97, 119]⟩, .s ⟨#[119, 49]⟩, .s ⟨#[97, 119]⟩, .i 0, .s ⟨#[]⟩]], .t true]), (⟨#[110, 49, 109, 109]⟩, [.l [[.s ⟨#[110, 49, 109, 109]⟩, .s ⟨#[110, 49]⟩, .s ⟨#[109, 109]⟩, .i 0, .s ⟨#[]⟩]], .t true]), (⟨#[103, 51, 120, 121, 122, 47, 112]⟩, [.l [[.s ⟨#[103, 51, 120, 121, 122]⟩, .s ⟨#[103, 51]⟩, .s ⟨#[120, 121, 122]⟩, .i 3, .s ⟨#[]⟩]], .t true])]
def F_call_Parts (d : List G) : Option (List G) := lookS tab_call_Parts (gi d 0).str
def s_call_Parts : FSpec := ⟨141, [.s (.str)], [], [], [.s (.row KParts), .s (.bool)], [], [], [], F_call_Parts⟩
theorem q0_call_Parts : PCall P 141 [aS ⟨#[]⟩] (s_call_Parts.out [.l [[.s ⟨#[]⟩, .s ⟨#[]⟩, .s ⟨#[]⟩, .i 0, .s ⟨#[]⟩]], .t false]) := fn_pure (L := noLoops) hm ucall_Parts_199_ok [] (fun _ _ => noLoops_ok _ _ _) Tryz.func141 rfl (by kernel_rfl) (by kernel_rfl)
theorem q1_call_Parts : PCall P 141 [aS ⟨#[107, 49]⟩] (s_call_Parts.out [.l [[.s ⟨#[]⟩, .s ⟨#[]⟩, .s ⟨#[]⟩, .i 0, .s ⟨#[]⟩]], .t false]) := fn_pure (L := noLoops) hm ucall_Parts_199_ok [] (fun _ _ => noLoops_ok _ _ _) Tryz.func141 rfl (by kernel_rfl) (by kernel_rfl)
theorem q2_call_Parts : PCall P 141 [aS ⟨#[75, 49, 65, 66]⟩] (s_call_Parts.out [.l [[.s ⟨#[]⟩, .s ⟨#[]⟩, .s ⟨#[]⟩, .i 0, .s ⟨#[]⟩]], .t false]) := fn_pure (L := noLoops) hm ucall_Parts_199_ok [] (fun _ _ => noLoops_ok _ _ _) Tryz.func141 rfl (by kernel_rfl) (by kernel_rfl)
theorem q3_call_Parts : PCall P 141 [aS ⟨#[107, 49, 97, 98, 47]⟩] (s_call_Parts.out [.l [[.s ⟨#[]⟩, .s ⟨#[]⟩, .s ⟨#[]⟩, .i 0, .s ⟨#[]⟩]], .t false]) := fn_pure (L := noLoops) hm ucall_Parts_199_ok [] (fun _ _ => noLoops_ok _ _ _) Tryz.func141 rfl (by kernel_rfl) (by kernel_rfl)
theorem q4_call_Parts : PCall P 141 [aS ⟨#[49, 97]⟩] (s_call_Parts.out [.l [[.s ⟨#[]⟩, .s ⟨#[]⟩, .s ⟨#[]⟩, .i 0, .s ⟨#[]⟩]], .t false]) := fn_pure (L := noLoops) hm ucall_Parts_199_ok [] (fun _ _ => noLoops_ok _ _ _) Tryz.func141 rfl (by kernel_rfl) (by kernel_rfl)
theorem q5_call_Parts : PCall P 141 [aS ⟨#[107, 49, 97, 98, 47, 109, 109, 47, 112]⟩] (s_call_Parts.out [.l [[.s ⟨#[]⟩, .s ⟨#[]⟩, .s ⟨#[]⟩, .i 0, .s ⟨#[]⟩]], .t false]) := fn_pure (L := noLoops) hm ucall_Parts_199_ok [] (fun _ _ => noLoops_ok _ _ _) Tryz.func141 rfl (by kernel_rfl) (by kernel_rfl)
theorem q6_call_Parts : PCall P 141 [aS ⟨#[107, 49, 97, 98]⟩] (s_call_Parts.out [.l [[.s ⟨#[107, 49, 97, 98]⟩, .s ⟨#[107, 49]⟩, .s ⟨#[97, 98]⟩, .i 0, .s ⟨#[]⟩]], .t true]) := fn_pure (L := noLoops) hm ucall_Parts_199_ok [] (fun _ _ => noLoops_ok _ _ _) Tryz.func141 rfl (by kernel_rfl) (by kernel_rfl)
theorem q7_call_Parts : PCall P 141 [aS ⟨#[107, 49, 97, 97]⟩] (s_call_Parts.out [.l [[.s ⟨#[107, 49, 97, 97]⟩, .s ⟨#[107, 49]⟩, .s ⟨#[97, 97]⟩, .i 0, .s ⟨#[]⟩]], .t true]) := fn_pure (L := noLoops) hm ucall_Parts_199_ok [] (fun _ _ => noLoops_ok _ _ _) Tryz.func141 rfl (by kernel_rfl) (by kernel_rfl)
theorem q8_call_Parts : PCall P 141 [aS ⟨#[107, 49, 97, 98, 47, 52]⟩] (s_call_Parts.out [.l [[.s ⟨#[107, 49, 97, 98]⟩, .s ⟨#[107, 49]⟩, .s ⟨#[97, 98]⟩, .i 2, .s ⟨#[52]⟩]], .t true]) := fn_pure (L := noLoops) hm ucall_Parts_199_ok [] (fun _ _ => noLoops_ok _ _ _) Tryz.func141 rfl (by kernel_rfl) (by kernel_rfl)
theorem q9_call_Parts : PCall P 141 [aS ⟨#[111, 104, 50, 97, 98, 99]⟩] (s_call_Parts.out [.l [[.s ⟨#[111, 104, 50, 97, 98, 99]⟩, .s ⟨#[111, 104, 50]⟩, .s ⟨#[97, 98, 99]⟩, .i 0, .s ⟨#[]⟩]], .t true]) := fn_pure (L := noLoops) hm ucall_Parts_199_ok [] (fun _ _ => noLoops_ok _ _ _) Tryz.func141 rfl (by kernel_rfl) (by kernel_rfl)
theorem q10_call_Parts : PCall P 141 [aS ⟨#[111, 104, 50, 97, 98, 100]⟩] (s_call_Parts.out [.l [[.s ⟨#[111, 104, 50, 97, 98, 100]⟩, .s ⟨#[111, 104, 50]⟩, .s ⟨#[97, 98, 100]⟩, .i 0, .s ⟨#[]⟩]], .t true]) := fn_pure (L := noLoops) hm ucall_Parts_199_ok [] (fun _ _ => noLoops_ok _ _ _) Tryz.func141 rfl (by kernel_rfl) (by kernel_rfl)
theorem q11_call_Parts : PCall P 141 [aS ⟨#[119, 49, 97, 119]⟩] (s_call_Parts.out [.l [[.s ⟨#[119, 49, 97, 119]⟩, .s ⟨#[119, 49]⟩, .s ⟨#[97, 119]⟩, .i 0, .s ⟨#[]⟩]], .t true]) := fn_pure (L := noLoops) hm ucall_Parts_199_ok [] (fun _ _ => noLoops_ok _ _ _) Tryz.func141 rfl (by kernel_rfl) (by kernel_rfl)
theorem q12_call_Parts : PCall P 141 [aS ⟨#[110, 49, 109, 109]⟩] (s_call_Parts.out [.l [[.s ⟨#[110, 49, 109, 109]⟩, .s ⟨#[110, 49]⟩, .s ⟨#[109, 109]⟩, .i 0, .s ⟨#[]⟩]], .t true]) := fn_pure (L := noLoops) hm ucall_Parts_199_ok [] (fun _ _ => noLoops_ok _ _ _) Tryz.func141 rfl (by kernel_rfl) (by kernel_rfl)
theorem q13_call_Parts : PCall P 141 [aS ⟨#[103, 51, 120, 121, 122, 47, 112]⟩] (s_call_Parts.out [.l [[.s ⟨#[103, 51, 120, 121, 122]⟩, .s ⟨#[103, 51]⟩, .s ⟨#[120, 121, 122]⟩, .i 3, .s ⟨#[]⟩]], .t true]) := fn_pure (L := noLoops) hm ucall_Parts_199_ok [] (fun _ _ => noLoops_ok _ _ _) Tryz.func141 rfl (by kernel_rfl) (by kernel_rfl)
theorem c_call_Parts : ∀ d r, F_call_Parts d = some r → ACallX P 141 (s_call_Parts.args0 d) (denH (s_call_Parts.H0 d)) (s_call_Parts.out r) (denH (s_call_Parts.H1 r)) := fun d r h => by
  have h := lookS_mem h
  have key : PCall P 141 [aS (gi d 0).str] (s_call_Parts.out r) := by
    generalize (gi d 0).str = s at h
    simp only [tab_call_Parts, List.mem_cons, List.not_mem_nil, or_false, Prod.mk.injEq] at h
    rcases h with ⟨rfl, rfl⟩ | ⟨rfl, rfl⟩ | ⟨rfl, rfl⟩ | ⟨rfl, rfl⟩ | ⟨rfl, rfl⟩ | ⟨rfl, rfl⟩ | ⟨rfl, rfl⟩ | ⟨rfl, rfl⟩ | ⟨rfl, rfl⟩ | ⟨rfl, rfl⟩ | ⟨rfl, rfl⟩ | ⟨rfl, rfl⟩ | ⟨rfl, rfl⟩ | ⟨rfl, rfl⟩
    · exact q0_call_Parts
    · exact q1_call_Parts
    · exact q2_call_Parts
    · exact q3_call_Parts
    · exact q4_call_Parts
    · exact q5_call_Parts
    · exact q6_call_Parts
    · exact q7_call_Parts
    · exact q8_call_Parts
    · exact q9_call_Parts
    · exact q10_call_Parts
    · exact q11_call_Parts
    · exact q12_call_Parts
    · exact q13_call_Parts
  exact key []
def t6 : Tab := t5.addP s_call_Parts
theorem t6_ok : TabOK P t6 := t5_ok.addP (by kernel_rfl) (by kernel_rfl) c_call_Parts
def upileref1_PartsOf_274 : Tab := t6.inline P 274 Tryz.f274 []
theorem upileref1_PartsOf_274_ok : TabOK P upileref1_PartsOf_274 := t6_ok.inline hm Tryz.func274 (by kernel_rfl) []
def upileref1_PartsOf_295 : Tab := upileref1_PartsOf_274.inline P 295 Tryz.f295 []
theorem upileref1_PartsOf_295_ok : TabOK P upileref1_PartsOf_295 := upileref1_PartsOf_274_ok.inline hm Tryz.func295 (by kernel_rfl) []
def upileref1_PartsOf_275 : Tab := upileref1_PartsOf_295.inline P 275 Tryz.f275 []
theorem upileref1_PartsOf_275_ok : TabOK P upileref1_PartsOf_275 := upileref1_PartsOf_295_ok.inline hm Tryz.func275 (by kernel_rfl) []
def upileref1_PartsOf_244 : Tab := upileref1_PartsOf_275.inline P 244 Tryz.f244 []
theorem upileref1_PartsOf_244_ok : TabOK P upileref1_PartsOf_244 := upileref1_PartsOf_275_ok.inline hm Tryz.func244 (by kernel_rfl) []
def upileref1_PartsOf_208 : Tab := upileref1_PartsOf_244.inline P 208 Tryz.f208 []
theorem upileref1_PartsOf_208_ok : TabOK P upileref1_PartsOf_208 := upileref1_PartsOf_244_ok.inline hm Tryz.func208 (by kernel_rfl) []
def upileref1_PartsOf_144 : Tab := upileref1_PartsOf_208.inline P 144 Tryz.f144 []
theorem upileref1_PartsOf_144_ok : TabOK P upileref1_PartsOf_144 := upileref1_PartsOf_208_ok.inline hm Tryz.func144 (by kernel_rfl) []
def upileref1_PartsOf_203 : Tab := upileref1_PartsOf_144.inline P 203 Tryz.f203 []
theorem upileref1_PartsOf_203_ok : TabOK P upileref1_PartsOf_203 := upileref1_PartsOf_144_ok.inline hm Tryz.func203 (by kernel_rfl) []
def upileref1_PartsOf_240 : Tab := upileref1_PartsOf_203.inline P 240 Tryz.f240 []
theorem upileref1_PartsOf_240_ok : TabOK P upileref1_PartsOf_240 := upileref1_PartsOf_203_ok.inline hm Tryz.func240 (by kernel_rfl) []
def upileref1_PartsOf_271 : Tab := upileref1_PartsOf_240.inline P 271 Tryz.f271 []
theorem upileref1_PartsOf_271_ok : TabOK P upileref1_PartsOf_271 := upileref1_PartsOf_240_ok.inline hm Tryz.func271 (by kernel_rfl) []
def upileref1_PartsOf_241 : Tab := upileref1_PartsOf_271.inline P 241 Tryz.f241 []
theorem upileref1_PartsOf_241_ok : TabOK P upileref1_PartsOf_241 := upileref1_PartsOf_271_ok.inline hm Tryz.func241 (by kernel_rfl) []
def upileref1_PartsOf_272 : Tab := upileref1_PartsOf_241.inline P 272 Tryz.f272 []
theorem upileref1_PartsOf_272_ok : TabOK P upileref1_PartsOf_272 := upileref1_PartsOf_241_ok.inline hm Tryz.func272 (by kernel_rfl) []
def upileref1_PartsOf_243 : Tab := upileref1_PartsOf_272.inline P 243 Tryz.f243 []
theorem upileref1_PartsOf_243_ok : TabOK P upileref1_PartsOf_243 := upileref1_PartsOf_272_ok.inline hm Tryz.func243 (by kernel_rfl) []
def upileref1_PartsOf_276 : Tab := upileref1_PartsOf_243.inline P 276 Tryz.f276 []
theorem upileref1_PartsOf_276_ok : TabOK P upileref1_PartsOf_276 := upileref1_PartsOf_243_ok.inline hm Tryz.func276 (by kernel_rfl) []
def upileref1_PartsOf_245 : Tab := upileref1_PartsOf_276.inline P 245 Tryz.f245 []
theorem upileref1_PartsOf_245_ok : TabOK P upileref1_PartsOf_245 := upileref1_PartsOf_276_ok.inline hm Tryz.func245 (by kernel_rfl) []
def upileref1_PartsOf_246 : Tab := upileref1_PartsOf_245.inline P 246 Tryz.f246 []
theorem upileref1_PartsOf_246_ok : TabOK P upileref1_PartsOf_246 := upileref1_PartsOf_245_ok.inline hm Tryz.func246 (by kernel_rfl) []
def upileref1_PartsOf_209 : Tab := upileref1_PartsOf_246.inline P 209 Tryz.f209 []
theorem upileref1_PartsOf_209_ok : TabOK P upileref1_PartsOf_209 := upileref1_PartsOf_246_ok.inline hm Tryz.func209 (by kernel_rfl) []
def upileref1_PartsOf_211 : Tab := upileref1_PartsOf_209.inline P 211 Tryz.f211 []
theorem upileref1_PartsOf_211_ok : TabOK P upileref1_PartsOf_211 := upileref1_PartsOf_209_ok.inline hm Tryz.func211 (by kernel_rfl) []
def upileref1_PartsOf_247 : Tab := upileref1_PartsOf_211.inline P 247 Tryz.f247 []
theorem upileref1_PartsOf_247_ok : TabOK P upileref1_PartsOf_247 := upileref1_PartsOf_211_ok.inline hm Tryz.func247 (by kernel_rfl) []
def upileref1_PartsOf_212 : Tab := upileref1_PartsOf_247.inline P 212 Tryz.f212 []
theorem upileref1_PartsOf_212_ok : TabOK P upileref1_PartsOf_212 := upileref1_PartsOf_247_ok.inline hm Tryz.func212 (by kernel_rfl) []
def upileref1_PartsOf_210 : Tab := upileref1_PartsOf_212.inline P 210 Tryz.f210 []
theorem upileref1_PartsOf_210_ok : TabOK P upileref1_PartsOf_210 := upileref1_PartsOf_212_ok.inline hm Tryz.func210 (by kernel_rfl) []
def upileref1_PartsOf_146 : Tab := upileref1_PartsOf_210.inline P 146 Tryz.f146 []
theorem upileref1_PartsOf_146_ok : TabOK P upileref1_PartsOf_146 := upileref1_PartsOf_210_ok.inline hm Tryz.func146 (by kernel_rfl) []
def upileref1_PartsOf_145 : Tab := upileref1_PartsOf_146.inline P 145 Tryz.f145 []
theorem upileref1_PartsOf_145_ok : TabOK P upileref1_PartsOf_145 := upileref1_PartsOf_146_ok.inline hm Tryz.func145 (by kernel_rfl) []
def upileref1_PartsOf_147 : Tab := upileref1_PartsOf_145.inline P 147 Tryz.f147 []
theorem upileref1_PartsOf_147_ok : TabOK P upileref1_PartsOf_147 := upileref1_PartsOf_145_ok.inline hm Tryz.func147 (by kernel_rfl) []
def upileref1_PartsOf_213 : Tab := upileref1_PartsOf_147.inline P 213 Tryz.f213 []
theorem upileref1_PartsOf_213_ok : TabOK P upileref1_PartsOf_213 := upileref1_PartsOf_147_ok.inline hm Tryz.func213 (by kernel_rfl) []
def upileref1_PartsOf_148 : Tab := upileref1_PartsOf_213.inline P 148 Tryz.f148 []
theorem upileref1_PartsOf_148_ok : TabOK P upileref1_PartsOf_148 := upileref1_PartsOf_213_ok.inline hm Tryz.func148 (by kernel_rfl) []
def tab_pileref1_PartsOf : List (ByteArray × List G) := [(⟨#[]⟩, [.l [[.s ⟨#[]⟩, .s ⟨#[]⟩, .s ⟨#[]⟩, .i 0, .s ⟨#[]⟩]], .t false]), (⟨#[107, 49]⟩, [.l [[.s ⟨#[]⟩, .s ⟨#[]⟩, .s ⟨#[]⟩, .i 0, .s ⟨#[]⟩]], .t false]), (⟨#[75, 49, 65, 66]⟩, [.l [[.s ⟨#[]⟩, .s ⟨#[]⟩, .s ⟨#[]⟩, .i 0, .s ⟨#[]⟩]], .t false]), (⟨#[107, 49, 97, 98, 47]⟩, [.l [[.s ⟨#[]⟩, .s ⟨#[]⟩, .s ⟨#[]⟩, .i 0, .s ⟨#[]⟩]], .t false]), (⟨#[49, 97]⟩, [.l [[.s ⟨#[]⟩, .s ⟨#[]⟩, .s ⟨#[]⟩, .i 0, .s ⟨#[]⟩]], .t false]), (⟨#[107, 49, 97, 98, 47, 109, 109, 47, 112]⟩, [.l [[.s ⟨#[]⟩, .s ⟨#[]⟩, .s ⟨#[]⟩, .i 0, .s ⟨#[]⟩]], .t false]), (⟨#[107, 49, 97, 98]⟩, [.l [[.s ⟨#[107, 49, 97, 98]⟩, .s ⟨#[107, 49]⟩, .s ⟨#[97, 98]⟩, .i 0, .s ⟨#[]⟩]], .t true]), (⟨#[107, 49, 97, 97]⟩, [.l [[.s ⟨#[107, 49, 97, 97]⟩, .s ⟨#[107, 49]⟩, .s ⟨#[97, 97]⟩, .i 0, .s ⟨#[]⟩]], .t true]), (⟨#[107, 49, 97, 98, 47, 52]⟩, [.l [[.s ⟨#[107, 49, 97, 98]⟩, .s ⟨#[107, 49]⟩, .s ⟨#[97, 98]⟩, .i 2, .s ⟨#[52]⟩]], .t true]), (⟨#[111, 104, 50, 97, 98, 99]⟩, [.l [[.s ⟨#[111, 104, 50, 97, 98, 99]⟩, .s ⟨#[111, 104, 50]⟩, .s ⟨#[97, 98, 99]⟩, .i 0, .s ⟨#[]⟩]], .t true]), (⟨#[111, 104, 50, 97, 98, 100]⟩, [.l [[.s ⟨#[111, 104, 50, 97, 98, 100]⟩, .s ⟨#[111, 104, 50]⟩, .s ⟨#[97, 98, 100]⟩, .i 0, .s ⟨#[]⟩]], .t true]), (⟨#[119, 49, 97, 119]⟩, [.l [[.s ⟨#[119, 49, 97, 119]⟩, .s ⟨#[119, 49]⟩, .s ⟨#[97, 119]⟩, .i 0, .s ⟨#[]⟩]], .t true]), (⟨#[110, 49, 109, 109]⟩, [.l [[.s ⟨#[110, 49, 109, 109]⟩, .s ⟨#[110, 49]⟩, .s ⟨#[109, 109]⟩, .i 0, .s ⟨#[]⟩]], .t true]), (⟨#[103, 51, 120, 121, 122, 47, 112]⟩, [.l [[.s ⟨#[103, 51, 120, 121, 122]⟩, .s ⟨#[103, 51]⟩, .s ⟨#[120, 121, 122]⟩, .i 3, .s ⟨#[]⟩]], .t true])]
def F_pileref1_PartsOf (d : List G) : Option (List G) := lookS tab_pileref1_PartsOf (gi d 0).str
def s_pileref1_PartsOf : FSpec := ⟨103, [.s (.str)], [], [], [.s (.row KParts), .s (.bool)], [], [], [], F_pileref1_PartsOf⟩
theorem q0_pileref1_PartsOf : PCall P 103 [aS ⟨#[]⟩] (s_pileref1_PartsOf.out [.l [[.s ⟨#[]⟩, .s ⟨#[]⟩, .s ⟨#[]⟩, .i 0, .s ⟨#[]⟩]], .t false]) := fn_pure (L := noLoops) hm upileref1_PartsOf_148_ok [] (fun _ _ => noLoops_ok _ _ _) Tryz.func103 rfl (by kernel_rfl) (by kernel_rfl)
theorem q1_pileref1_PartsOf : PCall P 103 [aS ⟨#[107, 49]⟩] (s_pileref1_PartsOf.out [.l [[.s ⟨#[]⟩, .s ⟨#[]⟩, .s ⟨#[]⟩, .i 0, .s ⟨#[]⟩]], .t false]) := fn_pure (L := noLoops) hm upileref1_PartsOf_148_ok [] (fun _ _ => noLoops_ok _ _ _) Tryz.func103 rfl (by kernel_rfl) (by kernel_rfl)
theorem q2_pileref1_PartsOf : PCall P 103 [aS ⟨#[75, 49, 65, 66]⟩] (s_pileref1_PartsOf.out [.l [[.s ⟨#[]⟩, .s ⟨#[]⟩, .s ⟨#[]⟩, .i 0, .s ⟨#[]⟩]], .t false]) := fn_pure (L := noLoops) hm upileref1_PartsOf_148_ok [] (fun _ _ => noLoops_ok _ _ _) Tryz.func103 rfl (by kernel_rfl) (by kernel_rfl)
theorem q3_pileref1_PartsOf : PCall P 103 [aS ⟨#[107, 49, 97, 98, 47]⟩] (s_pileref1_PartsOf.out [.l [[.s ⟨#[]⟩, .s ⟨#[]⟩, .s ⟨#[]⟩, .i 0, .s ⟨#[]⟩]], .t false]) := fn_pure (L := noLoops) hm upileref1_PartsOf_148_ok [] (fun _ _ => noLoops_ok _ _ _) Tryz.func103 rfl (by kernel_rfl) (by kernel_rfl)
theorem q4_pileref1_PartsOf : PCall P 103 [aS ⟨#[49, 97]⟩] (s_pileref1_PartsOf.out [.l [[.s ⟨#[]⟩, .s ⟨#[]⟩, .s ⟨#[]⟩, .i 0, .s ⟨#[]⟩]], .t false]) := fn_pure (L := noLoops) hm upileref1_PartsOf_148_ok [] (fun _ _ => noLoops_ok _ _ _) Tryz.func103 rfl (by kernel_rfl) (by kernel_rfl)
theorem q5_pileref1_PartsOf : PCall P 103 [aS ⟨#[107, 49, 97, 98, 47, 109, 109, 47, 112]⟩] (s_pileref1_PartsOf.out [.l [[.s ⟨#[]⟩, .s ⟨#[]⟩, .s ⟨#[]⟩, .i 0, .s ⟨#[]⟩]], .t false]) := fn_pure (L := noLoops) hm upileref1_PartsOf_148_ok [] (fun _ _ => noLoops_ok _ _ _) Tryz.func103 rfl (by kernel_rfl) (by kernel_rfl)
theorem q6_pileref1_PartsOf : PCall P 103 [aS ⟨#[107, 49, 97, 98]⟩] (s_pileref1_PartsOf.out [.l [[.s ⟨#[107, 49, 97, 98]⟩, .s ⟨#[107, 49]⟩, .s ⟨#[97, 98]⟩, .i 0, .s ⟨#[]⟩]], .t true]) := fn_pure (L := noLoops) hm upileref1_PartsOf_148_ok [] (fun _ _ => noLoops_ok _ _ _) Tryz.func103 rfl (by kernel_rfl) (by kernel_rfl)
theorem q7_pileref1_PartsOf : PCall P 103 [aS ⟨#[107, 49, 97, 97]⟩] (s_pileref1_PartsOf.out [.l [[.s ⟨#[107, 49, 97, 97]⟩, .s ⟨#[107, 49]⟩, .s ⟨#[97, 97]⟩, .i 0, .s ⟨#[]⟩]], .t true]) := fn_pure (L := noLoops) hm upileref1_PartsOf_148_ok [] (fun _ _ => noLoops_ok _ _ _) Tryz.func103 rfl (by kernel_rfl) (by kernel_rfl)
theorem q8_pileref1_PartsOf : PCall P 103 [aS ⟨#[107, 49, 97, 98, 47, 52]⟩] (s_pileref1_PartsOf.out [.l [[.s ⟨#[107, 49, 97, 98]⟩, .s ⟨#[107, 49]⟩, .s ⟨#[97, 98]⟩, .i 2, .s ⟨#[52]⟩]], .t true]) := fn_pure (L := noLoops) hm upileref1_PartsOf_148_ok [] (fun _ _ => noLoops_ok _ _ _) Tryz.func103 rfl (by kernel_rfl) (by kernel_rfl)
theorem q9_pileref1_PartsOf : PCall P 103 [aS ⟨#[111, 104, 50, 97, 98, 99]⟩] (s_pileref1_PartsOf.out [.l [[.s ⟨#[111, 104, 50, 97, 98, 99]⟩, .s ⟨#[111, 104, 50]⟩, .s ⟨#[97, 98, 99]⟩, .i 0, .s ⟨#[]⟩]], .t true]) := fn_pure (L := noLoops) hm upileref1_PartsOf_148_ok [] (fun _ _ => noLoops_ok _ _ _) Tryz.func103 rfl (by kernel_rfl) (by kernel_rfl)
theorem q10_pileref1_PartsOf : PCall P 103 [aS ⟨#[111, 104, 50, 97, 98, 100]⟩] (s_pileref1_PartsOf.out [.l [[.s ⟨#[111, 104, 50, 97, 98, 100]⟩, .s ⟨#[111, 104, 50]⟩, .s ⟨#[97, 98, 100]⟩, .i 0, .s ⟨#[]⟩]], .t true]) := fn_pure (L := noLoops) hm upileref1_PartsOf_148_ok [] (fun _ _ => noLoops_ok _ _ _) Tryz.func103 rfl (by kernel_rfl) (by kernel_rfl)
theorem q11_pileref1_PartsOf : PCall P 103 [aS ⟨#[119, 49, 97, 119]⟩] (s_pileref1_PartsOf.out [.l [[.s ⟨#[119, 49, 97, 119]⟩, .s ⟨#[119, 49]⟩, .s ⟨#[97, 119]⟩, .i 0, .s ⟨#[]⟩]], .t true]) := fn_pure (L := noLoops) hm upileref1_PartsOf_148_ok [] (fun _ _ => noLoops_ok _ _ _) Tryz.func103 rfl (by kernel_rfl) (by kernel_rfl)
theorem q12_pileref1_PartsOf : PCall P 103 [aS ⟨#[110, 49, 109, 109]⟩] (s_pileref1_PartsOf.out [.l [[.s ⟨#[110, 49, 109, 109]⟩, .s ⟨#[110, 49]⟩, .s ⟨#[109, 109]⟩, .i 0, .s ⟨#[]⟩]], .t true]) := fn_pure (L := noLoops) hm upileref1_PartsOf_148_ok [] (fun _ _ => noLoops_ok _ _ _) Tryz.func103 rfl (by kernel_rfl) (by kernel_rfl)
theorem q13_pileref1_PartsOf : PCall P 103 [aS ⟨#[103, 51, 120, 121, 122, 47, 112]⟩] (s_pileref1_PartsOf.out [.l [[.s ⟨#[103, 51, 120, 121, 122]⟩, .s ⟨#[103, 51]⟩, .s ⟨#[120, 121, 122]⟩, .i 3, .s ⟨#[]⟩]], .t true]) := fn_pure (L := noLoops) hm upileref1_PartsOf_148_ok [] (fun _ _ => noLoops_ok _ _ _) Tryz.func103 rfl (by kernel_rfl) (by kernel_rfl)
theorem c_pileref1_PartsOf : ∀ d r, F_pileref1_PartsOf d = some r → ACallX P 103 (s_pileref1_PartsOf.args0 d) (denH (s_pileref1_PartsOf.H0 d)) (s_pileref1_PartsOf.out r) (denH (s_pileref1_PartsOf.H1 r)) := fun d r h => by
  have h := lookS_mem h
  have key : PCall P 103 [aS (gi d 0).str] (s_pileref1_PartsOf.out r) := by
    generalize (gi d 0).str = s at h
    simp only [tab_pileref1_PartsOf, List.mem_cons, List.not_mem_nil, or_false, Prod.mk.injEq] at h
    rcases h with ⟨rfl, rfl⟩ | ⟨rfl, rfl⟩ | ⟨rfl, rfl⟩ | ⟨rfl, rfl⟩ | ⟨rfl, rfl⟩ | ⟨rfl, rfl⟩ | ⟨rfl, rfl⟩ | ⟨rfl, rfl⟩ | ⟨rfl, rfl⟩ | ⟨rfl, rfl⟩ | ⟨rfl, rfl⟩ | ⟨rfl, rfl⟩ | ⟨rfl, rfl⟩ | ⟨rfl, rfl⟩
    · exact q0_pileref1_PartsOf
    · exact q1_pileref1_PartsOf
    · exact q2_pileref1_PartsOf
    · exact q3_pileref1_PartsOf
    · exact q4_pileref1_PartsOf
    · exact q5_pileref1_PartsOf
    · exact q6_pileref1_PartsOf
    · exact q7_pileref1_PartsOf
    · exact q8_pileref1_PartsOf
    · exact q9_pileref1_PartsOf
    · exact q10_pileref1_PartsOf
    · exact q11_pileref1_PartsOf
    · exact q12_pileref1_PartsOf
    · exact q13_pileref1_PartsOf
  exact key []
def t7 : Tab := t6.addP s_pileref1_PartsOf
theorem t7_ok : TabOK P t7 := t6_ok.addP (by kernel_rfl) (by kernel_rfl) c_pileref1_PartsOf
end
end Go.Proofs.SYthnhleemkjpigaaGreatDoor
