/-
 What is proved here: functions of the program as functions on data. No condition.
-/
import Derived.Test.YthjhjbgilbaknaaGreatDoorML0
set_option linter.unusedSimpArgs false
set_option linter.unusedVariables false
set_option linter.unusedSectionVars false
namespace Go.Proofs.SYthjhjbgilbaknaaGreatDoor
open Go Go.AL Go.Proofs
noncomputable section
def ucall_Parts_327 : Tab := t5.inline P 327 Tryz.f327 []
theorem ucall_Parts_327_ok : TabOK P ucall_Parts_327 := t5_ok.inline hm Tryz.func327 (by kernel_rfl) []
def ucall_Parts_348 : Tab := ucall_Parts_327.inline P 348 Tryz.f348 []
theorem ucall_Parts_348_ok : TabOK P ucall_Parts_348 := ucall_Parts_327_ok.inline hm Tryz.func348 (by kernel_rfl) []
def ucall_Parts_328 : Tab := ucall_Parts_348.inline P 328 Tryz.f328 []
theorem ucall_Parts_328_ok : TabOK P ucall_Parts_328 := ucall_Parts_348_ok.inline hm Tryz.func328 (by kernel_rfl) []
def ucall_Parts_290 : Tab := ucall_Parts_328.inline P 290 Tryz.f290 []
theorem ucall_Parts_290_ok : TabOK P ucall_Parts_290 := ucall_Parts_328_ok.inline hm Tryz.func290 (by kernel_rfl) []
def ucall_Parts_254 : Tab := ucall_Parts_290.inline P 254 Tryz.f254 []
theorem ucall_Parts_254_ok : TabOK P ucall_Parts_254 := ucall_Parts_290_ok.inline hm Tryz.func254 (by kernel_rfl) []
def ucall_Parts_205 : Tab := ucall_Parts_254.inline P 205 Tryz.f205 []
theorem ucall_Parts_205_ok : TabOK P ucall_Parts_205 := ucall_Parts_254_ok.inline hm Tryz.func205 (by kernel_rfl) []
def ucall_Parts_267 : Tab := ucall_Parts_205.inline P 267 Tryz.f267 []
theorem ucall_Parts_267_ok : TabOK P ucall_Parts_267 := ucall_Parts_205_ok.inline hm Tryz.func267 (by kernel_rfl) []
def ucall_Parts_329 : Tab := ucall_Parts_267.inline P 329 Tryz.f329 []
theorem ucall_Parts_329_ok : TabOK P ucall_Parts_329 := ucall_Parts_267_ok.inline hm Tryz.func329 (by kernel_rfl) []
def ucall_Parts_291 : Tab := ucall_Parts_329.inline P 291 Tryz.f291 []
theorem ucall_Parts_291_ok : TabOK P ucall_Parts_291 := ucall_Parts_329_ok.inline hm Tryz.func291 (by kernel_rfl) []
def ucall_Parts_292 : Tab := ucall_Parts_291.inline P 292 Tryz.f292 []
theorem ucall_Parts_292_ok : TabOK P ucall_Parts_292 := ucall_Parts_291_ok.inline hm Tryz.func292 (by kernel_rfl) []
def ucall_Parts_293 : Tab := ucall_Parts_292.inline P 293 Tryz.f293 []
theorem ucall_Parts_293_ok : TabOK P ucall_Parts_293 := ucall_Parts_292_ok.inline hm Tryz.func293 (by kernel_rfl) []
def ucall_Parts_331 : Tab := ucall_Parts_293.inline P 331 Tryz.f331 []
theorem ucall_Parts_331_ok : TabOK P ucall_Parts_331 := ucall_Parts_293_ok.inline hm Tryz.func331 (by kernel_rfl) []
def ucall_Parts_299 : Tab := ucall_Parts_331.inline P 299 Tryz.f299 []
theorem ucall_Parts_299_ok : TabOK P ucall_Parts_299 := ucall_Parts_331_ok.inline hm Tryz.func299 (by kernel_rfl) []
def ucall_Parts_330 : Tab := ucall_Parts_299.inline P 330 Tryz.f330 []
theorem ucall_Parts_330_ok : TabOK P ucall_Parts_330 := ucall_Parts_299_ok.inline hm Tryz.func330 (by kernel_rfl) []
def ucall_Parts_294 : Tab := ucall_Parts_330.inline P 294 Tryz.f294 []
theorem ucall_Parts_294_ok : TabOK P ucall_Parts_294 := ucall_Parts_330_ok.inline hm Tryz.func294 (by kernel_rfl) []
def ucall_Parts_255 : Tab := ucall_Parts_294.inline P 255 Tryz.f255 []
theorem ucall_Parts_255_ok : TabOK P ucall_Parts_255 := ucall_Parts_294_ok.inline hm Tryz.func255 (by kernel_rfl) []
def ucall_Parts_264 : Tab := ucall_Parts_255.inline P 264 Tryz.f264 []
theorem ucall_Parts_264_ok : TabOK P ucall_Parts_264 := ucall_Parts_255_ok.inline hm Tryz.func264 (by kernel_rfl) []
def ucall_Parts_298 : Tab := ucall_Parts_264.inline P 298 Tryz.f298 []
theorem ucall_Parts_298_ok : TabOK P ucall_Parts_298 := ucall_Parts_264_ok.inline hm Tryz.func298 (by kernel_rfl) []
def ucall_Parts_263 : Tab := ucall_Parts_298.inline P 263 Tryz.f263 []
theorem ucall_Parts_263_ok : TabOK P ucall_Parts_263 := ucall_Parts_298_ok.inline hm Tryz.func263 (by kernel_rfl) []
def ucall_Parts_262 : Tab := ucall_Parts_263.inline P 262 Tryz.f262 []
theorem ucall_Parts_262_ok : TabOK P ucall_Parts_262 := ucall_Parts_263_ok.inline hm Tryz.func262 (by kernel_rfl) []
def ucall_Parts_213 : Tab := ucall_Parts_262.inline P 213 Tryz.f213 []
theorem ucall_Parts_213_ok : TabOK P ucall_Parts_213 := ucall_Parts_262_ok.inline hm Tryz.func213 (by kernel_rfl) []
def ucall_Parts_214 : Tab := ucall_Parts_213.inline P 214 Tryz.f214 []
theorem ucall_Parts_214_ok : TabOK P ucall_Parts_214 := ucall_Parts_213_ok.inline hm Tryz.func214 (by kernel_rfl) []
def ucall_Parts_215 : Tab := ucall_Parts_214.inline P 215 Tryz.f215 []
theorem ucall_Parts_215_ok : TabOK P ucall_Parts_215 := ucall_Parts_214_ok.inline hm Tryz.func215 (by kernel_rfl) []
def tab_call_Parts : List (ByteArray × List G) := [(⟨#[]⟩, [.l [[.s ⟨#[]⟩, .s ⟨#[]⟩, .s ⟨#[]⟩, .i 0, .s ⟨#[]⟩]], .t false]), (⟨#[107, 49]⟩, [.l [[.s ⟨#[]⟩, .s ⟨#[]⟩, .s ⟨#[]⟩, .i 0, .s ⟨#[]⟩]], .t false]), (⟨#[75, 49, 65, 66]⟩, [.l [[.s ⟨#[]⟩, .s ⟨#[]⟩, .s ⟨#[]⟩, .i 0, .s ⟨#[]⟩]], .t false]), (⟨#[107, 49, 97, 98, 47]⟩, [.l [[.s ⟨#[]⟩, .s ⟨#[]⟩, .s ⟨#[]⟩, .i 0, .s ⟨#[]⟩]], .t false]), (⟨#[49, 97]⟩, [.l [[.s ⟨#[]⟩, .s ⟨#[]⟩, .s ⟨#[]⟩, .i 0, .s ⟨#[]⟩]], .t false]), (⟨#[107, 49, 97, 98, 47, 109, 109, 47, 112]⟩, [.l [[.s ⟨#[]⟩, .s ⟨#[]⟩, .s ⟨#[]⟩, .i 0, .s ⟨#[]⟩]], .t false]), (⟨#[107, 49, 97, 98]⟩, [.l [[.s ⟨#[107, 49, 97, 98]⟩, .s ⟨#[107, 49]⟩, .s ⟨#[97, 98]⟩, .i 0, .s ⟨#[]⟩]], .t true]), (⟨#[107, 49, 97, 97]⟩, [.l [[.s ⟨#[107, 49, 97, 97]⟩, .s ⟨#[107, 49]⟩, .s ⟨#[97, 97]⟩, .i 0, .s ⟨#[]⟩]], .t true]), (⟨#[107, 49, 97, 98, 47, 52]⟩, [.l [[.s ⟨#[107, 49, 97, 98]⟩, .s ⟨#[107, 49]⟩, .s ⟨#[97, 98]⟩, .i 2, .s ⟨#[52]⟩]], .t true]), (⟨#[111, 104, 50, 97, 98, 99]⟩, [.l [[.s ⟨#[111, 104, 50, 97, 98, 99]⟩, .s ⟨#[111, 104, 50]⟩, .s ⟨#[97, 98, 99]⟩, .i 0, .s ⟨#[]⟩]], .t true]), (⟨#[111, 104, 50, 97, 98, 100]⟩, [.l [[.s ⟨#[111, 104, 50, 97, 98, 100]⟩, .s ⟨#[111, 104, 50]⟩, .s ⟨#[97, 98, 100]⟩, .i 0, .s ⟨#[]⟩]], .t true]), (⟨#[119, 49, 97, 119]⟩, [.l [[.s ⟨#[119, 49, 97, 119]⟩, .s ⟨#[119, 49]⟩, .s ⟨#[97, 119]⟩, .i 0, .s ⟨#[]⟩]], .t true]), (⟨#[110, 49, 109, 109]⟩, [.l [[.s ⟨#[110, 49, 109, 109]⟩, .s ⟨#[110, 49]⟩, .s ⟨#[109, 109]⟩, .i 0, .s ⟨#[]⟩]], .t true]), (⟨#[103, 51, 120, 121, 122, 47, 112]⟩, [.l [[.s ⟨#[103, 51, 120, 121, 122]⟩, .s ⟨#[103, 51]⟩, .s ⟨#[120, 121, 122]⟩, .i 3, .s ⟨#[]⟩]], .t true])]
def F_call_Parts (d : List G) : Option (List G) := lookS tab_call_Parts (gi d 0).str
def s_call_Parts : FSpec := ⟨149, [.s (.str)], [], [], [.s (.row KParts), .s (.bool)], [], [], [], F_call_Parts⟩
theorem q0_call_Parts : PCall P 149 [aS ⟨#[]⟩] (s_call_Parts.out [.l [[.s ⟨#[]⟩, .s ⟨#[]⟩, .s ⟨#[]⟩, .i 0, .s ⟨#[]⟩]], .t false]) := fn_pure (L := nL0) hm ucall_Parts_215_ok [] (fun _ _ => nLk _ _ _) Tryz.func149 rfl (by kernel_rfl) (by kernel_rfl)
theorem q1_call_Parts : PCall P 149 [aS ⟨#[107, 49]⟩] (s_call_Parts.out [.l [[.s ⟨#[]⟩, .s ⟨#[]⟩, .s ⟨#[]⟩, .i 0, .s ⟨#[]⟩]], .t false]) := fn_pure (L := nL0) hm ucall_Parts_215_ok [] (fun _ _ => nLk _ _ _) Tryz.func149 rfl (by kernel_rfl) (by kernel_rfl)
theorem q2_call_Parts : PCall P 149 [aS ⟨#[75, 49, 65, 66]⟩] (s_call_Parts.out [.l [[.s ⟨#[]⟩, .s ⟨#[]⟩, .s ⟨#[]⟩, .i 0, .s ⟨#[]⟩]], .t false]) := fn_pure (L := nL0) hm ucall_Parts_215_ok [] (fun _ _ => nLk _ _ _) Tryz.func149 rfl (by kernel_rfl) (by kernel_rfl)
theorem q3_call_Parts : PCall P 149 [aS ⟨#[107, 49, 97, 98, 47]⟩] (s_call_Parts.out [.l [[.s ⟨#[]⟩, .s ⟨#[]⟩, .s ⟨#[]⟩, .i 0, .s ⟨#[]⟩]], .t false]) := fn_pure (L := nL0) hm ucall_Parts_215_ok [] (fun _ _ => nLk _ _ _) Tryz.func149 rfl (by kernel_rfl) (by kernel_rfl)
theorem q4_call_Parts : PCall P 149 [aS ⟨#[49, 97]⟩] (s_call_Parts.out [.l [[.s ⟨#[]⟩, .s ⟨#[]⟩, .s ⟨#[]⟩, .i 0, .s ⟨#[]⟩]], .t false]) := fn_pure (L := nL0) hm ucall_Parts_215_ok [] (fun _ _ => nLk _ _ _) Tryz.func149 rfl (by kernel_rfl) (by kernel_rfl)
theorem q5_call_Parts : PCall P 149 [aS ⟨#[107, 49, 97, 98, 47, 109, 109, 47, 112]⟩] (s_call_Parts.out [.l [[.s ⟨#[]⟩, .s ⟨#[]⟩, .s ⟨#[]⟩, .i 0, .s ⟨#[]⟩]], .t false]) := fn_pure (L := nL0) hm ucall_Parts_215_ok [] (fun _ _ => nLk _ _ _) Tryz.func149 rfl (by kernel_rfl) (by kernel_rfl)
theorem q6_call_Parts : PCall P 149 [aS ⟨#[107, 49, 97, 98]⟩] (s_call_Parts.out [.l [[.s ⟨#[107, 49, 97, 98]⟩, .s ⟨#[107, 49]⟩, .s ⟨#[97, 98]⟩, .i 0, .s ⟨#[]⟩]], .t true]) := fn_pure (L := nL0) hm ucall_Parts_215_ok [] (fun _ _ => nLk _ _ _) Tryz.func149 rfl (by kernel_rfl) (by kernel_rfl)
theorem q7_call_Parts : PCall P 149 [aS ⟨#[107, 49, 97, 97]⟩] (s_call_Parts.out [.l [[.s ⟨#[107, 49, 97, 97]⟩, .s ⟨#[107, 49]⟩, .s ⟨#[97, 97]⟩, .i 0, .s ⟨#[]⟩]], .t true]) := fn_pure (L := nL0) hm ucall_Parts_215_ok [] (fun _ _ => nLk _ _ _) Tryz.func149 rfl (by kernel_rfl) (by kernel_rfl)
theorem q8_call_Parts : PCall P 149 [aS ⟨#[107, 49, 97, 98, 47, 52]⟩] (s_call_Parts.out [.l [[.s ⟨#[107, 49, 97, 98]⟩, .s ⟨#[107, 49]⟩, .s ⟨#[97, 98]⟩, .i 2, .s ⟨#[52]⟩]], .t true]) := fn_pure (L := nL0) hm ucall_Parts_215_ok [] (fun _ _ => nLk _ _ _) Tryz.func149 rfl (by kernel_rfl) (by kernel_rfl)
theorem q9_call_Parts : PCall P 149 [aS ⟨#[111, 104, 50, 97, 98, 99]⟩] (s_call_Parts.out [.l [[.s ⟨#[111, 104, 50, 97, 98, 99]⟩, .s ⟨#[111, 104, 50]⟩, .s ⟨#[97, 98, 99]⟩, .i 0, .s ⟨#[]⟩]], .t true]) := fn_pure (L := nL0) hm ucall_Parts_215_ok [] (fun _ _ => nLk _ _ _) Tryz.func149 rfl (by kernel_rfl) (by kernel_rfl)
theorem q10_call_Parts : PCall P 149 [aS ⟨#[111, 104, 50, 97, 98, 100]⟩] (s_call_Parts.out [.l [[.s ⟨#[111, 104, 50, 97, 98, 100]⟩, .s ⟨#[111, 104, 50]⟩, .s ⟨#[97, 98, 100]⟩, .i 0, .s ⟨#[]⟩]], .t true]) := fn_pure (L := nL0) hm ucall_Parts_215_ok [] (fun _ _ => nLk _ _ _) Tryz.func149 rfl (by kernel_rfl) (by kernel_rfl)
theorem q11_call_Parts : PCall P 149 [aS ⟨#[119, 49, 97, 119]⟩] (s_call_Parts.out [.l [[.s ⟨#[119, 49, 97, 119]⟩, .s ⟨#[119, 49]⟩, .s ⟨#[97, 119]⟩, .i 0, .s ⟨#[]⟩]], .t true]) := fn_pure (L := nL0) hm ucall_Parts_215_ok [] (fun _ _ => nLk _ _ _) Tryz.func149 rfl (by kernel_rfl) (by kernel_rfl)
theorem q12_call_Parts : PCall P 149 [aS ⟨#[110, 49, 109, 109]⟩] (s_call_Parts.out [.l [[.s ⟨#[110, 49, 109, 109]⟩, .s ⟨#[110, 49]⟩, .s ⟨#[109, 109]⟩, .i 0, .s ⟨#[]⟩]], .t true]) := fn_pure (L := nL0) hm ucall_Parts_215_ok [] (fun _ _ => nLk _ _ _) Tryz.func149 rfl (by kernel_rfl) (by kernel_rfl)
theorem q13_call_Parts : PCall P 149 [aS ⟨#[103, 51, 120, 121, 122, 47, 112]⟩] (s_call_Parts.out [.l [[.s ⟨#[103, 51, 120, 121, 122]⟩, .s ⟨#[103, 51]⟩, .s ⟨#[120, 121, 122]⟩, .i 3, .s ⟨#[]⟩]], .t true]) := fn_pure (L := nL0) hm ucall_Parts_215_ok [] (fun _ _ => nLk _ _ _) Tryz.func149 rfl (by kernel_rfl) (by kernel_rfl)
theorem c_call_Parts : ∀ d r, F_call_Parts d = some r → ACallX P 149 (s_call_Parts.args0 d) (denH (s_call_Parts.H0 d)) (s_call_Parts.out r) (denH (s_call_Parts.H1 r)) := fun d r h => by
 have h := lookS_mem h
 have key : PCall P 149 [aS (gi d 0).str] (s_call_Parts.out r) := by
  generalize (gi d 0).str = s at h
  simp only [tab_call_Parts, List.mem_cons, List.not_mem_nil, or_false, Prod.mk.injEq] at h
  rcases h with ⟨rfl, rfl⟩ | ⟨rfl, rfl⟩ | ⟨rfl, rfl⟩ | ⟨rfl, rfl⟩ | ⟨rfl, rfl⟩ | ⟨rfl, rfl⟩ | ⟨rfl, rfl⟩ | ⟨rfl, rfl⟩ | ⟨rfl, rfl⟩ | ⟨rfl, rfl⟩ | ⟨rfl, rfl⟩ | ⟨rfl, rfl⟩ | ⟨rfl, rfl⟩ | ⟨rfl, rfl⟩
  ·exact q0_call_Parts
  ·exact q1_call_Parts
  ·exact q2_call_Parts
  ·exact q3_call_Parts
  ·exact q4_call_Parts
  ·exact q5_call_Parts
  ·exact q6_call_Parts
  ·exact q7_call_Parts
  ·exact q8_call_Parts
  ·exact q9_call_Parts
  ·exact q10_call_Parts
  ·exact q11_call_Parts
  ·exact q12_call_Parts
  ·exact q13_call_Parts
 exact key []
def t6 : Tab := t5.addP s_call_Parts
theorem t6_ok : TabOK P t6 := t5_ok.addP (by kernel_rfl) (by kernel_rfl) c_call_Parts
def ur1_PartsOf_327 : Tab := t6.inline P 327 Tryz.f327 []
theorem ur1_PartsOf_327_ok : TabOK P ur1_PartsOf_327 := t6_ok.inline hm Tryz.func327 (by kernel_rfl) []
def ur1_PartsOf_348 : Tab := ur1_PartsOf_327.inline P 348 Tryz.f348 []
theorem ur1_PartsOf_348_ok : TabOK P ur1_PartsOf_348 := ur1_PartsOf_327_ok.inline hm Tryz.func348 (by kernel_rfl) []
def ur1_PartsOf_328 : Tab := ur1_PartsOf_348.inline P 328 Tryz.f328 []
theorem ur1_PartsOf_328_ok : TabOK P ur1_PartsOf_328 := ur1_PartsOf_348_ok.inline hm Tryz.func328 (by kernel_rfl) []
def ur1_PartsOf_290 : Tab := ur1_PartsOf_328.inline P 290 Tryz.f290 []
theorem ur1_PartsOf_290_ok : TabOK P ur1_PartsOf_290 := ur1_PartsOf_328_ok.inline hm Tryz.func290 (by kernel_rfl) []
def ur1_PartsOf_254 : Tab := ur1_PartsOf_290.inline P 254 Tryz.f254 []
theorem ur1_PartsOf_254_ok : TabOK P ur1_PartsOf_254 := ur1_PartsOf_290_ok.inline hm Tryz.func254 (by kernel_rfl) []
def ur1_PartsOf_205 : Tab := ur1_PartsOf_254.inline P 205 Tryz.f205 []
theorem ur1_PartsOf_205_ok : TabOK P ur1_PartsOf_205 := ur1_PartsOf_254_ok.inline hm Tryz.func205 (by kernel_rfl) []
def ur1_PartsOf_267 : Tab := ur1_PartsOf_205.inline P 267 Tryz.f267 []
theorem ur1_PartsOf_267_ok : TabOK P ur1_PartsOf_267 := ur1_PartsOf_205_ok.inline hm Tryz.func267 (by kernel_rfl) []
def ur1_PartsOf_329 : Tab := ur1_PartsOf_267.inline P 329 Tryz.f329 []
theorem ur1_PartsOf_329_ok : TabOK P ur1_PartsOf_329 := ur1_PartsOf_267_ok.inline hm Tryz.func329 (by kernel_rfl) []
def ur1_PartsOf_291 : Tab := ur1_PartsOf_329.inline P 291 Tryz.f291 []
theorem ur1_PartsOf_291_ok : TabOK P ur1_PartsOf_291 := ur1_PartsOf_329_ok.inline hm Tryz.func291 (by kernel_rfl) []
def ur1_PartsOf_292 : Tab := ur1_PartsOf_291.inline P 292 Tryz.f292 []
theorem ur1_PartsOf_292_ok : TabOK P ur1_PartsOf_292 := ur1_PartsOf_291_ok.inline hm Tryz.func292 (by kernel_rfl) []
def ur1_PartsOf_293 : Tab := ur1_PartsOf_292.inline P 293 Tryz.f293 []
theorem ur1_PartsOf_293_ok : TabOK P ur1_PartsOf_293 := ur1_PartsOf_292_ok.inline hm Tryz.func293 (by kernel_rfl) []
def ur1_PartsOf_331 : Tab := ur1_PartsOf_293.inline P 331 Tryz.f331 []
theorem ur1_PartsOf_331_ok : TabOK P ur1_PartsOf_331 := ur1_PartsOf_293_ok.inline hm Tryz.func331 (by kernel_rfl) []
def ur1_PartsOf_299 : Tab := ur1_PartsOf_331.inline P 299 Tryz.f299 []
theorem ur1_PartsOf_299_ok : TabOK P ur1_PartsOf_299 := ur1_PartsOf_331_ok.inline hm Tryz.func299 (by kernel_rfl) []
def ur1_PartsOf_330 : Tab := ur1_PartsOf_299.inline P 330 Tryz.f330 []
theorem ur1_PartsOf_330_ok : TabOK P ur1_PartsOf_330 := ur1_PartsOf_299_ok.inline hm Tryz.func330 (by kernel_rfl) []
def ur1_PartsOf_294 : Tab := ur1_PartsOf_330.inline P 294 Tryz.f294 []
theorem ur1_PartsOf_294_ok : TabOK P ur1_PartsOf_294 := ur1_PartsOf_330_ok.inline hm Tryz.func294 (by kernel_rfl) []
def ur1_PartsOf_255 : Tab := ur1_PartsOf_294.inline P 255 Tryz.f255 []
theorem ur1_PartsOf_255_ok : TabOK P ur1_PartsOf_255 := ur1_PartsOf_294_ok.inline hm Tryz.func255 (by kernel_rfl) []
def ur1_PartsOf_257 : Tab := ur1_PartsOf_255.inline P 257 Tryz.f257 []
theorem ur1_PartsOf_257_ok : TabOK P ur1_PartsOf_257 := ur1_PartsOf_255_ok.inline hm Tryz.func257 (by kernel_rfl) []
def ur1_PartsOf_295 : Tab := ur1_PartsOf_257.inline P 295 Tryz.f295 []
theorem ur1_PartsOf_295_ok : TabOK P ur1_PartsOf_295 := ur1_PartsOf_257_ok.inline hm Tryz.func295 (by kernel_rfl) []
def ur1_PartsOf_258 : Tab := ur1_PartsOf_295.inline P 258 Tryz.f258 []
theorem ur1_PartsOf_258_ok : TabOK P ur1_PartsOf_258 := ur1_PartsOf_295_ok.inline hm Tryz.func258 (by kernel_rfl) []
def ur1_PartsOf_256 : Tab := ur1_PartsOf_258.inline P 256 Tryz.f256 []
theorem ur1_PartsOf_256_ok : TabOK P ur1_PartsOf_256 := ur1_PartsOf_258_ok.inline hm Tryz.func256 (by kernel_rfl) []
def ur1_PartsOf_207 : Tab := ur1_PartsOf_256.inline P 207 Tryz.f207 []
theorem ur1_PartsOf_207_ok : TabOK P ur1_PartsOf_207 := ur1_PartsOf_256_ok.inline hm Tryz.func207 (by kernel_rfl) []
def ur1_PartsOf_206 : Tab := ur1_PartsOf_207.inline P 206 Tryz.f206 []
theorem ur1_PartsOf_206_ok : TabOK P ur1_PartsOf_206 := ur1_PartsOf_207_ok.inline hm Tryz.func206 (by kernel_rfl) []
def ur1_PartsOf_208 : Tab := ur1_PartsOf_206.inline P 208 Tryz.f208 []
theorem ur1_PartsOf_208_ok : TabOK P ur1_PartsOf_208 := ur1_PartsOf_206_ok.inline hm Tryz.func208 (by kernel_rfl) []
def ur1_PartsOf_259 : Tab := ur1_PartsOf_208.inline P 259 Tryz.f259 []
theorem ur1_PartsOf_259_ok : TabOK P ur1_PartsOf_259 := ur1_PartsOf_208_ok.inline hm Tryz.func259 (by kernel_rfl) []
def ur1_PartsOf_209 : Tab := ur1_PartsOf_259.inline P 209 Tryz.f209 []
theorem ur1_PartsOf_209_ok : TabOK P ur1_PartsOf_209 := ur1_PartsOf_259_ok.inline hm Tryz.func209 (by kernel_rfl) []
def tab_r1_PartsOf : List (ByteArray × List G) := [(⟨#[]⟩, [.l [[.s ⟨#[]⟩, .s ⟨#[]⟩, .s ⟨#[]⟩, .i 0, .s ⟨#[]⟩]], .t false]), (⟨#[107, 49]⟩, [.l [[.s ⟨#[]⟩, .s ⟨#[]⟩, .s ⟨#[]⟩, .i 0, .s ⟨#[]⟩]], .t false]), (⟨#[75, 49, 65, 66]⟩, [.l [[.s ⟨#[]⟩, .s ⟨#[]⟩, .s ⟨#[]⟩, .i 0, .s ⟨#[]⟩]], .t false]), (⟨#[107, 49, 97, 98, 47]⟩, [.l [[.s ⟨#[]⟩, .s ⟨#[]⟩, .s ⟨#[]⟩, .i 0, .s ⟨#[]⟩]], .t false]), (⟨#[49, 97]⟩, [.l [[.s ⟨#[]⟩, .s ⟨#[]⟩, .s ⟨#[]⟩, .i 0, .s ⟨#[]⟩]], .t false]), (⟨#[107, 49, 97, 98, 47, 109, 109, 47, 112]⟩, [.l [[.s ⟨#[]⟩, .s ⟨#[]⟩, .s ⟨#[]⟩, .i 0, .s ⟨#[]⟩]], .t false]), (⟨#[107, 49, 97, 98]⟩, [.l [[.s ⟨#[107, 49, 97, 98]⟩, .s ⟨#[107, 49]⟩, .s ⟨#[97, 98]⟩, .i 0, .s ⟨#[]⟩]], .t true]), (⟨#[107, 49, 97, 97]⟩, [.l [[.s ⟨#[107, 49, 97, 97]⟩, .s ⟨#[107, 49]⟩, .s ⟨#[97, 97]⟩, .i 0, .s ⟨#[]⟩]], .t true]), (⟨#[107, 49, 97, 98, 47, 52]⟩, [.l [[.s ⟨#[107, 49, 97, 98]⟩, .s ⟨#[107, 49]⟩, .s ⟨#[97, 98]⟩, .i 2, .s ⟨#[52]⟩]], .t true]), (⟨#[111, 104, 50, 97, 98, 99]⟩, [.l [[.s ⟨#[111, 104, 50, 97, 98, 99]⟩, .s ⟨#[111, 104, 50]⟩, .s ⟨#[97, 98, 99]⟩, .i 0, .s ⟨#[]⟩]], .t true]), (⟨#[111, 104, 50, 97, 98, 100]⟩, [.l [[.s ⟨#[111, 104, 50, 97, 98, 100]⟩, .s ⟨#[111, 104, 50]⟩, .s ⟨#[97, 98, 100]⟩, .i 0, .s ⟨#[]⟩]], .t true]), (⟨#[119, 49, 97, 119]⟩, [.l [[.s ⟨#[119, 49, 97, 119]⟩, .s ⟨#[119, 49]⟩, .s ⟨#[97, 119]⟩, .i 0, .s ⟨#[]⟩]], .t true]), (⟨#[110, 49, 109, 109]⟩, [.l [[.s ⟨#[110, 49, 109, 109]⟩, .s ⟨#[110, 49]⟩, .s ⟨#[109, 109]⟩, .i 0, .s ⟨#[]⟩]], .t true]), (⟨#[103, 51, 120, 121, 122, 47, 112]⟩, [.l [[.s ⟨#[103, 51, 120, 121, 122]⟩, .s ⟨#[103, 51]⟩, .s ⟨#[120, 121, 122]⟩, .i 3, .s ⟨#[]⟩]], .t true])]
def F_r1_PartsOf (d : List G) : Option (List G) := lookS tab_r1_PartsOf (gi d 0).str
def s_r1_PartsOf : FSpec := ⟨143, [.s (.str)], [], [], [.s (.row KParts), .s (.bool)], [], [], [], F_r1_PartsOf⟩
theorem q0_r1_PartsOf : PCall P 143 [aS ⟨#[]⟩] (s_r1_PartsOf.out [.l [[.s ⟨#[]⟩, .s ⟨#[]⟩, .s ⟨#[]⟩, .i 0, .s ⟨#[]⟩]], .t false]) := fn_pure (L := nL0) hm ur1_PartsOf_209_ok [] (fun _ _ => nLk _ _ _) Tryz.func143 rfl (by kernel_rfl) (by kernel_rfl)
theorem q1_r1_PartsOf : PCall P 143 [aS ⟨#[107, 49]⟩] (s_r1_PartsOf.out [.l [[.s ⟨#[]⟩, .s ⟨#[]⟩, .s ⟨#[]⟩, .i 0, .s ⟨#[]⟩]], .t false]) := fn_pure (L := nL0) hm ur1_PartsOf_209_ok [] (fun _ _ => nLk _ _ _) Tryz.func143 rfl (by kernel_rfl) (by kernel_rfl)
theorem q2_r1_PartsOf : PCall P 143 [aS ⟨#[75, 49, 65, 66]⟩] (s_r1_PartsOf.out [.l [[.s ⟨#[]⟩, .s ⟨#[]⟩, .s ⟨#[]⟩, .i 0, .s ⟨#[]⟩]], .t false]) := fn_pure (L := nL0) hm ur1_PartsOf_209_ok [] (fun _ _ => nLk _ _ _) Tryz.func143 rfl (by kernel_rfl) (by kernel_rfl)
theorem q3_r1_PartsOf : PCall P 143 [aS ⟨#[107, 49, 97, 98, 47]⟩] (s_r1_PartsOf.out [.l [[.s ⟨#[]⟩, .s ⟨#[]⟩, .s ⟨#[]⟩, .i 0, .s ⟨#[]⟩]], .t false]) := fn_pure (L := nL0) hm ur1_PartsOf_209_ok [] (fun _ _ => nLk _ _ _) Tryz.func143 rfl (by kernel_rfl) (by kernel_rfl)
theorem q4_r1_PartsOf : PCall P 143 [aS ⟨#[49, 97]⟩] (s_r1_PartsOf.out [.l [[.s ⟨#[]⟩, .s ⟨#[]⟩, .s ⟨#[]⟩, .i 0, .s ⟨#[]⟩]], .t false]) := fn_pure (L := nL0) hm ur1_PartsOf_209_ok [] (fun _ _ => nLk _ _ _) Tryz.func143 rfl (by kernel_rfl) (by kernel_rfl)
theorem q5_r1_PartsOf : PCall P 143 [aS ⟨#[107, 49, 97, 98, 47, 109, 109, 47, 112]⟩] (s_r1_PartsOf.out [.l [[.s ⟨#[]⟩, .s ⟨#[]⟩, .s ⟨#[]⟩, .i 0, .s ⟨#[]⟩]], .t false]) := fn_pure (L := nL0) hm ur1_PartsOf_209_ok [] (fun _ _ => nLk _ _ _) Tryz.func143 rfl (by kernel_rfl) (by kernel_rfl)
theorem q6_r1_PartsOf : PCall P 143 [aS ⟨#[107, 49, 97, 98]⟩] (s_r1_PartsOf.out [.l [[.s ⟨#[107, 49, 97, 98]⟩, .s ⟨#[107, 49]⟩, .s ⟨#[97, 98]⟩, .i 0, .s ⟨#[]⟩]], .t true]) := fn_pure (L := nL0) hm ur1_PartsOf_209_ok [] (fun _ _ => nLk _ _ _) Tryz.func143 rfl (by kernel_rfl) (by kernel_rfl)
theorem q7_r1_PartsOf : PCall P 143 [aS ⟨#[107, 49, 97, 97]⟩] (s_r1_PartsOf.out [.l [[.s ⟨#[107, 49, 97, 97]⟩, .s ⟨#[107, 49]⟩, .s ⟨#[97, 97]⟩, .i 0, .s ⟨#[]⟩]], .t true]) := fn_pure (L := nL0) hm ur1_PartsOf_209_ok [] (fun _ _ => nLk _ _ _) Tryz.func143 rfl (by kernel_rfl) (by kernel_rfl)
theorem q8_r1_PartsOf : PCall P 143 [aS ⟨#[107, 49, 97, 98, 47, 52]⟩] (s_r1_PartsOf.out [.l [[.s ⟨#[107, 49, 97, 98]⟩, .s ⟨#[107, 49]⟩, .s ⟨#[97, 98]⟩, .i 2, .s ⟨#[52]⟩]], .t true]) := fn_pure (L := nL0) hm ur1_PartsOf_209_ok [] (fun _ _ => nLk _ _ _) Tryz.func143 rfl (by kernel_rfl) (by kernel_rfl)
theorem q9_r1_PartsOf : PCall P 143 [aS ⟨#[111, 104, 50, 97, 98, 99]⟩] (s_r1_PartsOf.out [.l [[.s ⟨#[111, 104, 50, 97, 98, 99]⟩, .s ⟨#[111, 104, 50]⟩, .s ⟨#[97, 98, 99]⟩, .i 0, .s ⟨#[]⟩]], .t true]) := fn_pure (L := nL0) hm ur1_PartsOf_209_ok [] (fun _ _ => nLk _ _ _) Tryz.func143 rfl (by kernel_rfl) (by kernel_rfl)
theorem q10_r1_PartsOf : PCall P 143 [aS ⟨#[111, 104, 50, 97, 98, 100]⟩] (s_r1_PartsOf.out [.l [[.s ⟨#[111, 104, 50, 97, 98, 100]⟩, .s ⟨#[111, 104, 50]⟩, .s ⟨#[97, 98, 100]⟩, .i 0, .s ⟨#[]⟩]], .t true]) := fn_pure (L := nL0) hm ur1_PartsOf_209_ok [] (fun _ _ => nLk _ _ _) Tryz.func143 rfl (by kernel_rfl) (by kernel_rfl)
theorem q11_r1_PartsOf : PCall P 143 [aS ⟨#[119, 49, 97, 119]⟩] (s_r1_PartsOf.out [.l [[.s ⟨#[119, 49, 97, 119]⟩, .s ⟨#[119, 49]⟩, .s ⟨#[97, 119]⟩, .i 0, .s ⟨#[]⟩]], .t true]) := fn_pure (L := nL0) hm ur1_PartsOf_209_ok [] (fun _ _ => nLk _ _ _) Tryz.func143 rfl (by kernel_rfl) (by kernel_rfl)
theorem q12_r1_PartsOf : PCall P 143 [aS ⟨#[110, 49, 109, 109]⟩] (s_r1_PartsOf.out [.l [[.s ⟨#[110, 49, 109, 109]⟩, .s ⟨#[110, 49]⟩, .s ⟨#[109, 109]⟩, .i 0, .s ⟨#[]⟩]], .t true]) := fn_pure (L := nL0) hm ur1_PartsOf_209_ok [] (fun _ _ => nLk _ _ _) Tryz.func143 rfl (by kernel_rfl) (by kernel_rfl)
theorem q13_r1_PartsOf : PCall P 143 [aS ⟨#[103, 51, 120, 121, 122, 47, 112]⟩] (s_r1_PartsOf.out [.l [[.s ⟨#[103, 51, 120, 121, 122]⟩, .s ⟨#[103, 51]⟩, .s ⟨#[120, 121, 122]⟩, .i 3, .s ⟨#[]⟩]], .t true]) := fn_pure (L := nL0) hm ur1_PartsOf_209_ok [] (fun _ _ => nLk _ _ _) Tryz.func143 rfl (by kernel_rfl) (by kernel_rfl)
theorem c_r1_PartsOf : ∀ d r, F_r1_PartsOf d = some r → ACallX P 143 (s_r1_PartsOf.args0 d) (denH (s_r1_PartsOf.H0 d)) (s_r1_PartsOf.out r) (denH (s_r1_PartsOf.H1 r)) := fun d r h => by
 have h := lookS_mem h
 have key : PCall P 143 [aS (gi d 0).str] (s_r1_PartsOf.out r) := by
  generalize (gi d 0).str = s at h
  simp only [tab_r1_PartsOf, List.mem_cons, List.not_mem_nil, or_false, Prod.mk.injEq] at h
  rcases h with ⟨rfl, rfl⟩ | ⟨rfl, rfl⟩ | ⟨rfl, rfl⟩ | ⟨rfl, rfl⟩ | ⟨rfl, rfl⟩ | ⟨rfl, rfl⟩ | ⟨rfl, rfl⟩ | ⟨rfl, rfl⟩ | ⟨rfl, rfl⟩ | ⟨rfl, rfl⟩ | ⟨rfl, rfl⟩ | ⟨rfl, rfl⟩ | ⟨rfl, rfl⟩ | ⟨rfl, rfl⟩
  ·exact q0_r1_PartsOf
  ·exact q1_r1_PartsOf
  ·exact q2_r1_PartsOf
  ·exact q3_r1_PartsOf
  ·exact q4_r1_PartsOf
  ·exact q5_r1_PartsOf
  ·exact q6_r1_PartsOf
  ·exact q7_r1_PartsOf
  ·exact q8_r1_PartsOf
  ·exact q9_r1_PartsOf
  ·exact q10_r1_PartsOf
  ·exact q11_r1_PartsOf
  ·exact q12_r1_PartsOf
  ·exact q13_r1_PartsOf
 exact key []
def t7 : Tab := t6.addP s_r1_PartsOf
theorem t7_ok : TabOK P t7 := t6_ok.addP (by kernel_rfl) (by kernel_rfl) c_r1_PartsOf
end
end Go.Proofs.SYthjhjbgilbaknaaGreatDoor
