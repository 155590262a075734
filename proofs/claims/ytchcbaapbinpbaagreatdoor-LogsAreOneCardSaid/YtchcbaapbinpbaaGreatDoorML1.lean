/-
 What is proved here: functions of the program as functions on data. No condition.
-/
import Derived.Test.YtchcbaapbinpbaaGreatDoorML0
set_option linter.all false
namespace Go.Proofs.SYtchcbaapbinpbaaGreatDoor
open Go Go.AL Go.Proofs
noncomputable section
def ucall_Parts_292 : Tab := t5.inline P 292 Tryz.f292 []
theorem ucall_Parts_292_ok : TabOK P ucall_Parts_292 := t5_ok.inline hm Tryz.func292 (by kernel_rfl) []
def ucall_Parts_318 : Tab := ucall_Parts_292.inline P 318 Tryz.f318 []
theorem ucall_Parts_318_ok : TabOK P ucall_Parts_318 := ucall_Parts_292_ok.inline hm Tryz.func318 (by kernel_rfl) []
def ucall_Parts_293 : Tab := ucall_Parts_318.inline P 293 Tryz.f293 []
theorem ucall_Parts_293_ok : TabOK P ucall_Parts_293 := ucall_Parts_318_ok.inline hm Tryz.func293 (by kernel_rfl) []
def ucall_Parts_259 : Tab := ucall_Parts_293.inline P 259 Tryz.f259 []
theorem ucall_Parts_259_ok : TabOK P ucall_Parts_259 := ucall_Parts_293_ok.inline hm Tryz.func259 (by kernel_rfl) []
def ucall_Parts_242 : Tab := ucall_Parts_259.inline P 242 Tryz.f242 []
theorem ucall_Parts_242_ok : TabOK P ucall_Parts_242 := ucall_Parts_259_ok.inline hm Tryz.func242 (by kernel_rfl) []
def ucall_Parts_192 : Tab := ucall_Parts_242.inline P 192 Tryz.f192 []
theorem ucall_Parts_192_ok : TabOK P ucall_Parts_192 := ucall_Parts_242_ok.inline hm Tryz.func192 (by kernel_rfl) []
def ucall_Parts_218 : Tab := ucall_Parts_192.inline P 218 Tryz.f218 []
theorem ucall_Parts_218_ok : TabOK P ucall_Parts_218 := ucall_Parts_192_ok.inline hm Tryz.func218 (by kernel_rfl) []
def ucall_Parts_261 : Tab := ucall_Parts_218.inline P 261 Tryz.f261 []
theorem ucall_Parts_261_ok : TabOK P ucall_Parts_261 := ucall_Parts_218_ok.inline hm Tryz.func261 (by kernel_rfl) []
def ucall_Parts_290 : Tab := ucall_Parts_261.inline P 290 Tryz.f290 []
theorem ucall_Parts_290_ok : TabOK P ucall_Parts_290 := ucall_Parts_261_ok.inline hm Tryz.func290 (by kernel_rfl) []
def ucall_Parts_257 : Tab := ucall_Parts_290.inline P 257 Tryz.f257 []
theorem ucall_Parts_257_ok : TabOK P ucall_Parts_257 := ucall_Parts_290_ok.inline hm Tryz.func257 (by kernel_rfl) []
def ucall_Parts_294 : Tab := ucall_Parts_257.inline P 294 Tryz.f294 []
theorem ucall_Parts_294_ok : TabOK P ucall_Parts_294 := ucall_Parts_257_ok.inline hm Tryz.func294 (by kernel_rfl) []
def ucall_Parts_263 : Tab := ucall_Parts_294.inline P 263 Tryz.f263 []
theorem ucall_Parts_263_ok : TabOK P ucall_Parts_263 := ucall_Parts_294_ok.inline hm Tryz.func263 (by kernel_rfl) []
def ucall_Parts_317 : Tab := ucall_Parts_263.inline P 317 Tryz.f317 []
theorem ucall_Parts_317_ok : TabOK P ucall_Parts_317 := ucall_Parts_263_ok.inline hm Tryz.func317 (by kernel_rfl) []
def ucall_Parts_284 : Tab := ucall_Parts_317.inline P 284 Tryz.f284 []
theorem ucall_Parts_284_ok : TabOK P ucall_Parts_284 := ucall_Parts_317_ok.inline hm Tryz.func284 (by kernel_rfl) []
def ucall_Parts_285 : Tab := ucall_Parts_284.inline P 285 Tryz.f285 []
theorem ucall_Parts_285_ok : TabOK P ucall_Parts_285 := ucall_Parts_284_ok.inline hm Tryz.func285 (by kernel_rfl) []
def ucall_Parts_243 : Tab := ucall_Parts_285.inline P 243 Tryz.f243 []
theorem ucall_Parts_243_ok : TabOK P ucall_Parts_243 := ucall_Parts_285_ok.inline hm Tryz.func243 (by kernel_rfl) []
def ucall_Parts_249 : Tab := ucall_Parts_243.inline P 249 Tryz.f249 []
theorem ucall_Parts_249_ok : TabOK P ucall_Parts_249 := ucall_Parts_243_ok.inline hm Tryz.func249 (by kernel_rfl) []
def ucall_Parts_287 : Tab := ucall_Parts_249.inline P 287 Tryz.f287 []
theorem ucall_Parts_287_ok : TabOK P ucall_Parts_287 := ucall_Parts_249_ok.inline hm Tryz.func287 (by kernel_rfl) []
def ucall_Parts_248 : Tab := ucall_Parts_287.inline P 248 Tryz.f248 []
theorem ucall_Parts_248_ok : TabOK P ucall_Parts_248 := ucall_Parts_287_ok.inline hm Tryz.func248 (by kernel_rfl) []
def ucall_Parts_247 : Tab := ucall_Parts_248.inline P 247 Tryz.f247 []
theorem ucall_Parts_247_ok : TabOK P ucall_Parts_247 := ucall_Parts_248_ok.inline hm Tryz.func247 (by kernel_rfl) []
def ucall_Parts_197 : Tab := ucall_Parts_247.inline P 197 Tryz.f197 []
theorem ucall_Parts_197_ok : TabOK P ucall_Parts_197 := ucall_Parts_247_ok.inline hm Tryz.func197 (by kernel_rfl) []
def ucall_Parts_198 : Tab := ucall_Parts_197.inline P 198 Tryz.f198 []
theorem ucall_Parts_198_ok : TabOK P ucall_Parts_198 := ucall_Parts_197_ok.inline hm Tryz.func198 (by kernel_rfl) []
def ucall_Parts_199 : Tab := ucall_Parts_198.inline P 199 Tryz.f199 []
theorem ucall_Parts_199_ok : TabOK P ucall_Parts_199 := ucall_Parts_198_ok.inline hm Tryz.func199 (by kernel_rfl) []
def tab_call_Parts : List (ByteArray × List G) := [(⟨#[]⟩, [.l [[.s ⟨#[]⟩, .s ⟨#[]⟩, .s ⟨#[]⟩, .i 0, .s ⟨#[]⟩]], .t false]), (⟨#[107, 49]⟩, [.l [[.s ⟨#[]⟩, .s ⟨#[]⟩, .s ⟨#[]⟩, .i 0, .s ⟨#[]⟩]], .t false]), (⟨#[75, 49, 65, 66]⟩, [.l [[.s ⟨#[]⟩, .s ⟨#[]⟩, .s ⟨#[]⟩, .i 0, .s ⟨#[]⟩]], .t false]), (⟨#[107, 49, 97, 98, 47]⟩, [.l [[.s ⟨#[]⟩, .s ⟨#[]⟩, .s ⟨#[]⟩, .i 0, .s ⟨#[]⟩]], .t false]), (⟨#[49, 97]⟩, [.l [[.s ⟨#[]⟩, .s ⟨#[]⟩, .s ⟨#[]⟩, .i 0, .s ⟨#[]⟩]], .t false]), (⟨#[107, 49, 97, 98, 47, 109, 109, 47, 112]⟩, [.l [[.s ⟨#[]⟩, .s ⟨#[]⟩, .s ⟨#[]⟩, .i 0, .s ⟨#[]⟩]], .t false]), (⟨#[107, 49, 97, 98]⟩, [.l [[.s ⟨#[107, 49, 97, 98]⟩, .s ⟨#[107, 49]⟩, .s ⟨#[97, 98]⟩, .i 0, .s ⟨#[]⟩]], .t true]), (⟨#[107, 49, 97, 97]⟩, [.l [[.s ⟨#[107, 49, 97, 97]⟩, .s ⟨#[107, 49]⟩, .s ⟨#[97, 97]⟩, .i 0, .s ⟨#[]⟩]], .t true]), (⟨#[107, 49, 97, 98, 47, 52]⟩, [.l [[.s ⟨#[107, 49, 97, 98]⟩, .s ⟨#[107, 49]⟩, .s ⟨#[97, 98]⟩, .i 2, .s ⟨#[52]⟩]], .t true]), (⟨#[111, 104, 50, 97, 98, 99]⟩, [.l [[.s ⟨#[111, 104, 50, 97, 98, 99]⟩, .s ⟨#[111, 104, 50]⟩, .s ⟨#[97, 98, 99]⟩, .i 0, .s ⟨#[]⟩]], .t true]), (⟨#[111, 104, 50, 97, 98, 100]⟩, [.l [[.s ⟨#[111, 104, 50, 97, 98, 100]⟩, .s ⟨#[111, 104, 50]⟩, .s ⟨#[97, 98, 100]⟩, .i 0, .s ⟨#[]⟩]], .t true]), (⟨#[119, 49, 97, 119]⟩, [.l [[.s ⟨#[119, 49, 97, 119]⟩, .s ⟨#[119, 49]⟩, .s ⟨#[97, 119]⟩, .i 0, .s ⟨#[]⟩]], .t true]), (⟨#[110, 49, 109, 109]⟩, [.l [[.s ⟨#[110, 49, 109, 109]⟩, .s ⟨#[110, 49]⟩, .s ⟨#[109, 109]⟩, .i 0, .s ⟨#[]⟩]], .t true]), (⟨#[103, 51, 120, 121, 122, 47, 112]⟩, [.l [[.s ⟨#[103, 51, 120, 121, 122]⟩, .s ⟨#[103, 51]⟩, .s ⟨#[120, 121, 122]⟩, .i 3, .s ⟨#[]⟩]], .t true])]
def F_call_Parts (d : List G) : Option (List G) := lookS tab_call_Parts (gi d 0).str
def s_call_Parts : FSpec := ⟨136, [.s (.str)], [], [], [.s (.row KParts), .s (.bool)], [], [], [], F_call_Parts⟩
theorem q0_call_Parts : PCall P 136 [aS ⟨#[]⟩] (s_call_Parts.out [.l [[.s ⟨#[]⟩, .s ⟨#[]⟩, .s ⟨#[]⟩, .i 0, .s ⟨#[]⟩]], .t false]) := fn_pure (L := nL0) hm ucall_Parts_199_ok [] (fun _ _ => nLk _ _ _) Tryz.func136 rfl (by kernel_rfl) (by kernel_rfl)
theorem q1_call_Parts : PCall P 136 [aS ⟨#[107, 49]⟩] (s_call_Parts.out [.l [[.s ⟨#[]⟩, .s ⟨#[]⟩, .s ⟨#[]⟩, .i 0, .s ⟨#[]⟩]], .t false]) := fn_pure (L := nL0) hm ucall_Parts_199_ok [] (fun _ _ => nLk _ _ _) Tryz.func136 rfl (by kernel_rfl) (by kernel_rfl)
theorem q2_call_Parts : PCall P 136 [aS ⟨#[75, 49, 65, 66]⟩] (s_call_Parts.out [.l [[.s ⟨#[]⟩, .s ⟨#[]⟩, .s ⟨#[]⟩, .i 0, .s ⟨#[]⟩]], .t false]) := fn_pure (L := nL0) hm ucall_Parts_199_ok [] (fun _ _ => nLk _ _ _) Tryz.func136 rfl (by kernel_rfl) (by kernel_rfl)
theorem q3_call_Parts : PCall P 136 [aS ⟨#[107, 49, 97, 98, 47]⟩] (s_call_Parts.out [.l [[.s ⟨#[]⟩, .s ⟨#[]⟩, .s ⟨#[]⟩, .i 0, .s ⟨#[]⟩]], .t false]) := fn_pure (L := nL0) hm ucall_Parts_199_ok [] (fun _ _ => nLk _ _ _) Tryz.func136 rfl (by kernel_rfl) (by kernel_rfl)
theorem q4_call_Parts : PCall P 136 [aS ⟨#[49, 97]⟩] (s_call_Parts.out [.l [[.s ⟨#[]⟩, .s ⟨#[]⟩, .s ⟨#[]⟩, .i 0, .s ⟨#[]⟩]], .t false]) := fn_pure (L := nL0) hm ucall_Parts_199_ok [] (fun _ _ => nLk _ _ _) Tryz.func136 rfl (by kernel_rfl) (by kernel_rfl)
theorem q5_call_Parts : PCall P 136 [aS ⟨#[107, 49, 97, 98, 47, 109, 109, 47, 112]⟩] (s_call_Parts.out [.l [[.s ⟨#[]⟩, .s ⟨#[]⟩, .s ⟨#[]⟩, .i 0, .s ⟨#[]⟩]], .t false]) := fn_pure (L := nL0) hm ucall_Parts_199_ok [] (fun _ _ => nLk _ _ _) Tryz.func136 rfl (by kernel_rfl) (by kernel_rfl)
theorem q6_call_Parts : PCall P 136 [aS ⟨#[107, 49, 97, 98]⟩] (s_call_Parts.out [.l [[.s ⟨#[107, 49, 97, 98]⟩, .s ⟨#[107, 49]⟩, .s ⟨#[97, 98]⟩, .i 0, .s ⟨#[]⟩]], .t true]) := fn_pure (L := nL0) hm ucall_Parts_199_ok [] (fun _ _ => nLk _ _ _) Tryz.func136 rfl (by kernel_rfl) (by kernel_rfl)
theorem q7_call_Parts : PCall P 136 [aS ⟨#[107, 49, 97, 97]⟩] (s_call_Parts.out [.l [[.s ⟨#[107, 49, 97, 97]⟩, .s ⟨#[107, 49]⟩, .s ⟨#[97, 97]⟩, .i 0, .s ⟨#[]⟩]], .t true]) := fn_pure (L := nL0) hm ucall_Parts_199_ok [] (fun _ _ => nLk _ _ _) Tryz.func136 rfl (by kernel_rfl) (by kernel_rfl)
theorem q8_call_Parts : PCall P 136 [aS ⟨#[107, 49, 97, 98, 47, 52]⟩] (s_call_Parts.out [.l [[.s ⟨#[107, 49, 97, 98]⟩, .s ⟨#[107, 49]⟩, .s ⟨#[97, 98]⟩, .i 2, .s ⟨#[52]⟩]], .t true]) := fn_pure (L := nL0) hm ucall_Parts_199_ok [] (fun _ _ => nLk _ _ _) Tryz.func136 rfl (by kernel_rfl) (by kernel_rfl)
theorem q9_call_Parts : PCall P 136 [aS ⟨#[111, 104, 50, 97, 98, 99]⟩] (s_call_Parts.out [.l [[.s ⟨#[111, 104, 50, 97, 98, 99]⟩, .s ⟨#[111, 104, 50]⟩, .s ⟨#[97, 98, 99]⟩, .i 0, .s ⟨#[]⟩]], .t true]) := fn_pure (L := nL0) hm ucall_Parts_199_ok [] (fun _ _ => nLk _ _ _) Tryz.func136 rfl (by kernel_rfl) (by kernel_rfl)
theorem q10_call_Parts : PCall P 136 [aS ⟨#[111, 104, 50, 97, 98, 100]⟩] (s_call_Parts.out [.l [[.s ⟨#[111, 104, 50, 97, 98, 100]⟩, .s ⟨#[111, 104, 50]⟩, .s ⟨#[97, 98, 100]⟩, .i 0, .s ⟨#[]⟩]], .t true]) := fn_pure (L := nL0) hm ucall_Parts_199_ok [] (fun _ _ => nLk _ _ _) Tryz.func136 rfl (by kernel_rfl) (by kernel_rfl)
theorem q11_call_Parts : PCall P 136 [aS ⟨#[119, 49, 97, 119]⟩] (s_call_Parts.out [.l [[.s ⟨#[119, 49, 97, 119]⟩, .s ⟨#[119, 49]⟩, .s ⟨#[97, 119]⟩, .i 0, .s ⟨#[]⟩]], .t true]) := fn_pure (L := nL0) hm ucall_Parts_199_ok [] (fun _ _ => nLk _ _ _) Tryz.func136 rfl (by kernel_rfl) (by kernel_rfl)
theorem q12_call_Parts : PCall P 136 [aS ⟨#[110, 49, 109, 109]⟩] (s_call_Parts.out [.l [[.s ⟨#[110, 49, 109, 109]⟩, .s ⟨#[110, 49]⟩, .s ⟨#[109, 109]⟩, .i 0, .s ⟨#[]⟩]], .t true]) := fn_pure (L := nL0) hm ucall_Parts_199_ok [] (fun _ _ => nLk _ _ _) Tryz.func136 rfl (by kernel_rfl) (by kernel_rfl)
theorem q13_call_Parts : PCall P 136 [aS ⟨#[103, 51, 120, 121, 122, 47, 112]⟩] (s_call_Parts.out [.l [[.s ⟨#[103, 51, 120, 121, 122]⟩, .s ⟨#[103, 51]⟩, .s ⟨#[120, 121, 122]⟩, .i 3, .s ⟨#[]⟩]], .t true]) := fn_pure (L := nL0) hm ucall_Parts_199_ok [] (fun _ _ => nLk _ _ _) Tryz.func136 rfl (by kernel_rfl) (by kernel_rfl)
theorem c_call_Parts : ∀ d r, F_call_Parts d = some r → ACallX P 136 (s_call_Parts.args0 d) (denH (s_call_Parts.H0 d)) (s_call_Parts.out r) (denH (s_call_Parts.H1 r)) := fun d r h => by
 have h := lookS_mem h
 have key : PCall P 136 [aS (gi d 0).str] (s_call_Parts.out r) := by
  generalize (gi d 0).str = s at h
  simp only [tab_call_Parts, List.mem_cons, List.not_mem_nil, or_false, Prod.mk.injEq] at h
  rcases h with ⟨rfl, rfl⟩ | ⟨rfl, rfl⟩ | ⟨rfl, rfl⟩ | ⟨rfl, rfl⟩ | ⟨rfl, rfl⟩ | ⟨rfl, rfl⟩ | ⟨rfl, rfl⟩ | ⟨rfl, rfl⟩ | ⟨rfl, rfl⟩ | ⟨rfl, rfl⟩ | ⟨rfl, rfl⟩ | ⟨rfl, rfl⟩ | ⟨rfl, rfl⟩ | ⟨rfl, rfl⟩
  ·exact q0_call_Parts
  ·exact q1_call_Parts
  ·exact q2_call_Parts
  ·exact q3_call_Parts
  ·exact q4_call_Parts
  ·exact q5_call_Parts
  ·exact q6_call_Parts
  ·exact q7_call_Parts
  ·exact q8_call_Parts
  ·exact q9_call_Parts
  ·exact q10_call_Parts
  ·exact q11_call_Parts
  ·exact q12_call_Parts
  ·exact q13_call_Parts
 exact key []
def t6 : Tab := t5.addP s_call_Parts
theorem t6_ok : TabOK P t6 := t5_ok.aP c_call_Parts
def ur1_PartsOf_292 : Tab := t6.inline P 292 Tryz.f292 []
theorem ur1_PartsOf_292_ok : TabOK P ur1_PartsOf_292 := t6_ok.inline hm Tryz.func292 (by kernel_rfl) []
def ur1_PartsOf_318 : Tab := ur1_PartsOf_292.inline P 318 Tryz.f318 []
theorem ur1_PartsOf_318_ok : TabOK P ur1_PartsOf_318 := ur1_PartsOf_292_ok.inline hm Tryz.func318 (by kernel_rfl) []
def ur1_PartsOf_293 : Tab := ur1_PartsOf_318.inline P 293 Tryz.f293 []
theorem ur1_PartsOf_293_ok : TabOK P ur1_PartsOf_293 := ur1_PartsOf_318_ok.inline hm Tryz.func293 (by kernel_rfl) []
def ur1_PartsOf_259 : Tab := ur1_PartsOf_293.inline P 259 Tryz.f259 []
theorem ur1_PartsOf_259_ok : TabOK P ur1_PartsOf_259 := ur1_PartsOf_293_ok.inline hm Tryz.func259 (by kernel_rfl) []
def ur1_PartsOf_242 : Tab := ur1_PartsOf_259.inline P 242 Tryz.f242 []
theorem ur1_PartsOf_242_ok : TabOK P ur1_PartsOf_242 := ur1_PartsOf_259_ok.inline hm Tryz.func242 (by kernel_rfl) []
def ur1_PartsOf_192 : Tab := ur1_PartsOf_242.inline P 192 Tryz.f192 []
theorem ur1_PartsOf_192_ok : TabOK P ur1_PartsOf_192 := ur1_PartsOf_242_ok.inline hm Tryz.func192 (by kernel_rfl) []
def ur1_PartsOf_218 : Tab := ur1_PartsOf_192.inline P 218 Tryz.f218 []
theorem ur1_PartsOf_218_ok : TabOK P ur1_PartsOf_218 := ur1_PartsOf_192_ok.inline hm Tryz.func218 (by kernel_rfl) []
def ur1_PartsOf_261 : Tab := ur1_PartsOf_218.inline P 261 Tryz.f261 []
theorem ur1_PartsOf_261_ok : TabOK P ur1_PartsOf_261 := ur1_PartsOf_218_ok.inline hm Tryz.func261 (by kernel_rfl) []
def ur1_PartsOf_290 : Tab := ur1_PartsOf_261.inline P 290 Tryz.f290 []
theorem ur1_PartsOf_290_ok : TabOK P ur1_PartsOf_290 := ur1_PartsOf_261_ok.inline hm Tryz.func290 (by kernel_rfl) []
def ur1_PartsOf_257 : Tab := ur1_PartsOf_290.inline P 257 Tryz.f257 []
theorem ur1_PartsOf_257_ok : TabOK P ur1_PartsOf_257 := ur1_PartsOf_290_ok.inline hm Tryz.func257 (by kernel_rfl) []
def ur1_PartsOf_294 : Tab := ur1_PartsOf_257.inline P 294 Tryz.f294 []
theorem ur1_PartsOf_294_ok : TabOK P ur1_PartsOf_294 := ur1_PartsOf_257_ok.inline hm Tryz.func294 (by kernel_rfl) []
def ur1_PartsOf_263 : Tab := ur1_PartsOf_294.inline P 263 Tryz.f263 []
theorem ur1_PartsOf_263_ok : TabOK P ur1_PartsOf_263 := ur1_PartsOf_294_ok.inline hm Tryz.func263 (by kernel_rfl) []
def ur1_PartsOf_317 : Tab := ur1_PartsOf_263.inline P 317 Tryz.f317 []
theorem ur1_PartsOf_317_ok : TabOK P ur1_PartsOf_317 := ur1_PartsOf_263_ok.inline hm Tryz.func317 (by kernel_rfl) []
def ur1_PartsOf_284 : Tab := ur1_PartsOf_317.inline P 284 Tryz.f284 []
theorem ur1_PartsOf_284_ok : TabOK P ur1_PartsOf_284 := ur1_PartsOf_317_ok.inline hm Tryz.func284 (by kernel_rfl) []
def ur1_PartsOf_285 : Tab := ur1_PartsOf_284.inline P 285 Tryz.f285 []
theorem ur1_PartsOf_285_ok : TabOK P ur1_PartsOf_285 := ur1_PartsOf_284_ok.inline hm Tryz.func285 (by kernel_rfl) []
def ur1_PartsOf_243 : Tab := ur1_PartsOf_285.inline P 243 Tryz.f243 []
theorem ur1_PartsOf_243_ok : TabOK P ur1_PartsOf_243 := ur1_PartsOf_285_ok.inline hm Tryz.func243 (by kernel_rfl) []
def ur1_PartsOf_245 : Tab := ur1_PartsOf_243.inline P 245 Tryz.f245 []
theorem ur1_PartsOf_245_ok : TabOK P ur1_PartsOf_245 := ur1_PartsOf_243_ok.inline hm Tryz.func245 (by kernel_rfl) []
def ur1_PartsOf_286 : Tab := ur1_PartsOf_245.inline P 286 Tryz.f286 []
theorem ur1_PartsOf_286_ok : TabOK P ur1_PartsOf_286 := ur1_PartsOf_245_ok.inline hm Tryz.func286 (by kernel_rfl) []
def ur1_PartsOf_246 : Tab := ur1_PartsOf_286.inline P 246 Tryz.f246 []
theorem ur1_PartsOf_246_ok : TabOK P ur1_PartsOf_246 := ur1_PartsOf_286_ok.inline hm Tryz.func246 (by kernel_rfl) []
def ur1_PartsOf_244 : Tab := ur1_PartsOf_246.inline P 244 Tryz.f244 []
theorem ur1_PartsOf_244_ok : TabOK P ur1_PartsOf_244 := ur1_PartsOf_246_ok.inline hm Tryz.func244 (by kernel_rfl) []
def ur1_PartsOf_194 : Tab := ur1_PartsOf_244.inline P 194 Tryz.f194 []
theorem ur1_PartsOf_194_ok : TabOK P ur1_PartsOf_194 := ur1_PartsOf_244_ok.inline hm Tryz.func194 (by kernel_rfl) []
def ur1_PartsOf_193 : Tab := ur1_PartsOf_194.inline P 193 Tryz.f193 []
theorem ur1_PartsOf_193_ok : TabOK P ur1_PartsOf_193 := ur1_PartsOf_194_ok.inline hm Tryz.func193 (by kernel_rfl) []
def ur1_PartsOf_195 : Tab := ur1_PartsOf_193.inline P 195 Tryz.f195 []
theorem ur1_PartsOf_195_ok : TabOK P ur1_PartsOf_195 := ur1_PartsOf_193_ok.inline hm Tryz.func195 (by kernel_rfl) []
def ur1_PartsOf_214 : Tab := ur1_PartsOf_195.inline P 214 Tryz.f214 []
theorem ur1_PartsOf_214_ok : TabOK P ur1_PartsOf_214 := ur1_PartsOf_195_ok.inline hm Tryz.func214 (by kernel_rfl) []
def ur1_PartsOf_196 : Tab := ur1_PartsOf_214.inline P 196 Tryz.f196 []
theorem ur1_PartsOf_196_ok : TabOK P ur1_PartsOf_196 := ur1_PartsOf_214_ok.inline hm Tryz.func196 (by kernel_rfl) []
def tab_r1_PartsOf : List (ByteArray × List G) := [(⟨#[]⟩, [.l [[.s ⟨#[]⟩, .s ⟨#[]⟩, .s ⟨#[]⟩, .i 0, .s ⟨#[]⟩]], .t false]), (⟨#[107, 49]⟩, [.l [[.s ⟨#[]⟩, .s ⟨#[]⟩, .s ⟨#[]⟩, .i 0, .s ⟨#[]⟩]], .t false]), (⟨#[75, 49, 65, 66]⟩, [.l [[.s ⟨#[]⟩, .s ⟨#[]⟩, .s ⟨#[]⟩, .i 0, .s ⟨#[]⟩]], .t false]), (⟨#[107, 49, 97, 98, 47]⟩, [.l [[.s ⟨#[]⟩, .s ⟨#[]⟩, .s ⟨#[]⟩, .i 0, .s ⟨#[]⟩]], .t false]), (⟨#[49, 97]⟩, [.l [[.s ⟨#[]⟩, .s ⟨#[]⟩, .s ⟨#[]⟩, .i 0, .s ⟨#[]⟩]], .t false]), (⟨#[107, 49, 97, 98, 47, 109, 109, 47, 112]⟩, [.l [[.s ⟨#[]⟩, .s ⟨#[]⟩, .s ⟨#[]⟩, .i 0, .s ⟨#[]⟩]], .t false]), (⟨#[107, 49, 97, 98]⟩, [.l [[.s ⟨#[107, 49, 97, 98]⟩, .s ⟨#[107, 49]⟩, .s ⟨#[97, 98]⟩, .i 0, .s ⟨#[]⟩]], .t true]), (⟨#[107, 49, 97, 97]⟩, [.l [[.s ⟨#[107, 49, 97, 97]⟩, .s ⟨#[107, 49]⟩, .s ⟨#[97, 97]⟩, .i 0, .s ⟨#[]⟩]], .t true]), (⟨#[107, 49, 97, 98, 47, 52]⟩, [.l [[.s ⟨#[107, 49, 97, 98]⟩, .s ⟨#[107, 49]⟩, .s ⟨#[97, 98]⟩, .i 2, .s ⟨#[52]⟩]], .t true]), (⟨#[111, 104, 50, 97, 98, 99]⟩, [.l [[.s ⟨#[111, 104, 50, 97, 98, 99]⟩, .s ⟨#[111, 104, 50]⟩, .s ⟨#[97, 98, 99]⟩, .i 0, .s ⟨#[]⟩]], .t true]), (⟨#[111, 104, 50, 97, 98, 100]⟩, [.l [[.s ⟨#[111, 104, 50, 97, 98, 100]⟩, .s ⟨#[111, 104, 50]⟩, .s ⟨#[97, 98, 100]⟩, .i 0, .s ⟨#[]⟩]], .t true]), (⟨#[119, 49, 97, 119]⟩, [.l [[.s ⟨#[119, 49, 97, 119]⟩, .s ⟨#[119, 49]⟩, .s ⟨#[97, 119]⟩, .i 0, .s ⟨#[]⟩]], .t true]), (⟨#[110, 49, 109, 109]⟩, [.l [[.s ⟨#[110, 49, 109, 109]⟩, .s ⟨#[110, 49]⟩, .s ⟨#[109, 109]⟩, .i 0, .s ⟨#[]⟩]], .t true]), (⟨#[103, 51, 120, 121, 122, 47, 112]⟩, [.l [[.s ⟨#[103, 51, 120, 121, 122]⟩, .s ⟨#[103, 51]⟩, .s ⟨#[120, 121, 122]⟩, .i 3, .s ⟨#[]⟩]], .t true])]
def F_r1_PartsOf (d : List G) : Option (List G) := lookS tab_r1_PartsOf (gi d 0).str
def s_r1_PartsOf : FSpec := ⟨135, [.s (.str)], [], [], [.s (.row KParts), .s (.bool)], [], [], [], F_r1_PartsOf⟩
theorem q0_r1_PartsOf : PCall P 135 [aS ⟨#[]⟩] (s_r1_PartsOf.out [.l [[.s ⟨#[]⟩, .s ⟨#[]⟩, .s ⟨#[]⟩, .i 0, .s ⟨#[]⟩]], .t false]) := fn_pure (L := nL0) hm ur1_PartsOf_196_ok [] (fun _ _ => nLk _ _ _) Tryz.func135 rfl (by kernel_rfl) (by kernel_rfl)
theorem q1_r1_PartsOf : PCall P 135 [aS ⟨#[107, 49]⟩] (s_r1_PartsOf.out [.l [[.s ⟨#[]⟩, .s ⟨#[]⟩, .s ⟨#[]⟩, .i 0, .s ⟨#[]⟩]], .t false]) := fn_pure (L := nL0) hm ur1_PartsOf_196_ok [] (fun _ _ => nLk _ _ _) Tryz.func135 rfl (by kernel_rfl) (by kernel_rfl)
theorem q2_r1_PartsOf : PCall P 135 [aS ⟨#[75, 49, 65, 66]⟩] (s_r1_PartsOf.out [.l [[.s ⟨#[]⟩, .s ⟨#[]⟩, .s ⟨#[]⟩, .i 0, .s ⟨#[]⟩]], .t false]) := fn_pure (L := nL0) hm ur1_PartsOf_196_ok [] (fun _ _ => nLk _ _ _) Tryz.func135 rfl (by kernel_rfl) (by kernel_rfl)
theorem q3_r1_PartsOf : PCall P 135 [aS ⟨#[107, 49, 97, 98, 47]⟩] (s_r1_PartsOf.out [.l [[.s ⟨#[]⟩, .s ⟨#[]⟩, .s ⟨#[]⟩, .i 0, .s ⟨#[]⟩]], .t false]) := fn_pure (L := nL0) hm ur1_PartsOf_196_ok [] (fun _ _ => nLk _ _ _) Tryz.func135 rfl (by kernel_rfl) (by kernel_rfl)
theorem q4_r1_PartsOf : PCall P 135 [aS ⟨#[49, 97]⟩] (s_r1_PartsOf.out [.l [[.s ⟨#[]⟩, .s ⟨#[]⟩, .s ⟨#[]⟩, .i 0, .s ⟨#[]⟩]], .t false]) := fn_pure (L := nL0) hm ur1_PartsOf_196_ok [] (fun _ _ => nLk _ _ _) Tryz.func135 rfl (by kernel_rfl) (by kernel_rfl)
theorem q5_r1_PartsOf : PCall P 135 [aS ⟨#[107, 49, 97, 98, 47, 109, 109, 47, 112]⟩] (s_r1_PartsOf.out [.l [[.s ⟨#[]⟩, .s ⟨#[]⟩, .s ⟨#[]⟩, .i 0, .s ⟨#[]⟩]], .t false]) := fn_pure (L := nL0) hm ur1_PartsOf_196_ok [] (fun _ _ => nLk _ _ _) Tryz.func135 rfl (by kernel_rfl) (by kernel_rfl)
theorem q6_r1_PartsOf : PCall P 135 [aS ⟨#[107, 49, 97, 98]⟩] (s_r1_PartsOf.out [.l [[.s ⟨#[107, 49, 97, 98]⟩, .s ⟨#[107, 49]⟩, .s ⟨#[97, 98]⟩, .i 0, .s ⟨#[]⟩]], .t true]) := fn_pure (L := nL0) hm ur1_PartsOf_196_ok [] (fun _ _ => nLk _ _ _) Tryz.func135 rfl (by kernel_rfl) (by kernel_rfl)
theorem q7_r1_PartsOf : PCall P 135 [aS ⟨#[107, 49, 97, 97]⟩] (s_r1_PartsOf.out [.l [[.s ⟨#[107, 49, 97, 97]⟩, .s ⟨#[107, 49]⟩, .s ⟨#[97, 97]⟩, .i 0, .s ⟨#[]⟩]], .t true]) := fn_pure (L := nL0) hm ur1_PartsOf_196_ok [] (fun _ _ => nLk _ _ _) Tryz.func135 rfl (by kernel_rfl) (by kernel_rfl)
theorem q8_r1_PartsOf : PCall P 135 [aS ⟨#[107, 49, 97, 98, 47, 52]⟩] (s_r1_PartsOf.out [.l [[.s ⟨#[107, 49, 97, 98]⟩, .s ⟨#[107, 49]⟩, .s ⟨#[97, 98]⟩, .i 2, .s ⟨#[52]⟩]], .t true]) := fn_pure (L := nL0) hm ur1_PartsOf_196_ok [] (fun _ _ => nLk _ _ _) Tryz.func135 rfl (by kernel_rfl) (by kernel_rfl)
theorem q9_r1_PartsOf : PCall P 135 [aS ⟨#[111, 104, 50, 97, 98, 99]⟩] (s_r1_PartsOf.out [.l [[.s ⟨#[111, 104, 50, 97, 98, 99]⟩, .s ⟨#[111, 104, 50]⟩, .s ⟨#[97, 98, 99]⟩, .i 0, .s ⟨#[]⟩]], .t true]) := fn_pure (L := nL0) hm ur1_PartsOf_196_ok [] (fun _ _ => nLk _ _ _) Tryz.func135 rfl (by kernel_rfl) (by kernel_rfl)
theorem q10_r1_PartsOf : PCall P 135 [aS ⟨#[111, 104, 50, 97, 98, 100]⟩] (s_r1_PartsOf.out [.l [[.s ⟨#[111, 104, 50, 97, 98, 100]⟩, .s ⟨#[111, 104, 50]⟩, .s ⟨#[97, 98, 100]⟩, .i 0, .s ⟨#[]⟩]], .t true]) := fn_pure (L := nL0) hm ur1_PartsOf_196_ok [] (fun _ _ => nLk _ _ _) Tryz.func135 rfl (by kernel_rfl) (by kernel_rfl)
theorem q11_r1_PartsOf : PCall P 135 [aS ⟨#[119, 49, 97, 119]⟩] (s_r1_PartsOf.out [.l [[.s ⟨#[119, 49, 97, 119]⟩, .s ⟨#[119, 49]⟩, .s ⟨#[97, 119]⟩, .i 0, .s ⟨#[]⟩]], .t true]) := fn_pure (L := nL0) hm ur1_PartsOf_196_ok [] (fun _ _ => nLk _ _ _) Tryz.func135 rfl (by kernel_rfl) (by kernel_rfl)
theorem q12_r1_PartsOf : PCall P 135 [aS ⟨#[110, 49, 109, 109]⟩] (s_r1_PartsOf.out [.l [[.s ⟨#[110, 49, 109, 109]⟩, .s ⟨#[110, 49]⟩, .s ⟨#[109, 109]⟩, .i 0, .s ⟨#[]⟩]], .t true]) := fn_pure (L := nL0) hm ur1_PartsOf_196_ok [] (fun _ _ => nLk _ _ _) Tryz.func135 rfl (by kernel_rfl) (by kernel_rfl)
theorem q13_r1_PartsOf : PCall P 135 [aS ⟨#[103, 51, 120, 121, 122, 47, 112]⟩] (s_r1_PartsOf.out [.l [[.s ⟨#[103, 51, 120, 121, 122]⟩, .s ⟨#[103, 51]⟩, .s ⟨#[120, 121, 122]⟩, .i 3, .s ⟨#[]⟩]], .t true]) := fn_pure (L := nL0) hm ur1_PartsOf_196_ok [] (fun _ _ => nLk _ _ _) Tryz.func135 rfl (by kernel_rfl) (by kernel_rfl)
theorem c_r1_PartsOf : ∀ d r, F_r1_PartsOf d = some r → ACallX P 135 (s_r1_PartsOf.args0 d) (denH (s_r1_PartsOf.H0 d)) (s_r1_PartsOf.out r) (denH (s_r1_PartsOf.H1 r)) := fun d r h => by
 have h := lookS_mem h
 have key : PCall P 135 [aS (gi d 0).str] (s_r1_PartsOf.out r) := by
  generalize (gi d 0).str = s at h
  simp only [tab_r1_PartsOf, List.mem_cons, List.not_mem_nil, or_false, Prod.mk.injEq] at h
  rcases h with ⟨rfl, rfl⟩ | ⟨rfl, rfl⟩ | ⟨rfl, rfl⟩ | ⟨rfl, rfl⟩ | ⟨rfl, rfl⟩ | ⟨rfl, rfl⟩ | ⟨rfl, rfl⟩ | ⟨rfl, rfl⟩ | ⟨rfl, rfl⟩ | ⟨rfl, rfl⟩ | ⟨rfl, rfl⟩ | ⟨rfl, rfl⟩ | ⟨rfl, rfl⟩ | ⟨rfl, rfl⟩
  ·exact q0_r1_PartsOf
  ·exact q1_r1_PartsOf
  ·exact q2_r1_PartsOf
  ·exact q3_r1_PartsOf
  ·exact q4_r1_PartsOf
  ·exact q5_r1_PartsOf
  ·exact q6_r1_PartsOf
  ·exact q7_r1_PartsOf
  ·exact q8_r1_PartsOf
  ·exact q9_r1_PartsOf
  ·exact q10_r1_PartsOf
  ·exact q11_r1_PartsOf
  ·exact q12_r1_PartsOf
  ·exact q13_r1_PartsOf
 exact key []
def t7 : Tab := t6.addP s_r1_PartsOf
theorem t7_ok : TabOK P t7 := t6_ok.aP c_r1_PartsOf
end
end Go.Proofs.SYtchcbaapbinpbaaGreatDoor
