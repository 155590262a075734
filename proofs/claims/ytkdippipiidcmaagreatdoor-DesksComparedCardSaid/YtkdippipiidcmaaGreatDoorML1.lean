/-
 What is proved here: functions of the program as functions on data. No condition.
-/
import Derived.Test.YtkdippipiidcmaaGreatDoorML0
set_option linter.unusedSimpArgs false
set_option linter.unusedVariables false
set_option linter.unusedSectionVars false
namespace Go.Proofs.SYtkdippipiidcmaaGreatDoor
open Go Go.AL Go.Proofs
noncomputable section
def ucall_Parts_360 : Tab := t5.inline P 360 Tryz.f360 []
theorem ucall_Parts_360_ok : TabOK P ucall_Parts_360 := t5_ok.inline hm Tryz.func360 (by kernel_rfl) []
def ucall_Parts_381 : Tab := ucall_Parts_360.inline P 381 Tryz.f381 []
theorem ucall_Parts_381_ok : TabOK P ucall_Parts_381 := ucall_Parts_360_ok.inline hm Tryz.func381 (by kernel_rfl) []
def ucall_Parts_361 : Tab := ucall_Parts_381.inline P 361 Tryz.f361 []
theorem ucall_Parts_361_ok : TabOK P ucall_Parts_361 := ucall_Parts_381_ok.inline hm Tryz.func361 (by kernel_rfl) []
def ucall_Parts_323 : Tab := ucall_Parts_361.inline P 323 Tryz.f323 []
theorem ucall_Parts_323_ok : TabOK P ucall_Parts_323 := ucall_Parts_361_ok.inline hm Tryz.func323 (by kernel_rfl) []
def ucall_Parts_270 : Tab := ucall_Parts_323.inline P 270 Tryz.f270 []
theorem ucall_Parts_270_ok : TabOK P ucall_Parts_270 := ucall_Parts_323_ok.inline hm Tryz.func270 (by kernel_rfl) []
def ucall_Parts_207 : Tab := ucall_Parts_270.inline P 207 Tryz.f207 []
theorem ucall_Parts_207_ok : TabOK P ucall_Parts_207 := ucall_Parts_270_ok.inline hm Tryz.func207 (by kernel_rfl) []
def ucall_Parts_262 : Tab := ucall_Parts_207.inline P 262 Tryz.f262 []
theorem ucall_Parts_262_ok : TabOK P ucall_Parts_262 := ucall_Parts_207_ok.inline hm Tryz.func262 (by kernel_rfl) []
def ucall_Parts_316 : Tab := ucall_Parts_262.inline P 316 Tryz.f316 []
theorem ucall_Parts_316_ok : TabOK P ucall_Parts_316 := ucall_Parts_262_ok.inline hm Tryz.func316 (by kernel_rfl) []
def ucall_Parts_356 : Tab := ucall_Parts_316.inline P 356 Tryz.f356 []
theorem ucall_Parts_356_ok : TabOK P ucall_Parts_356 := ucall_Parts_316_ok.inline hm Tryz.func356 (by kernel_rfl) []
def ucall_Parts_317 : Tab := ucall_Parts_356.inline P 317 Tryz.f317 []
theorem ucall_Parts_317_ok : TabOK P ucall_Parts_317 := ucall_Parts_356_ok.inline hm Tryz.func317 (by kernel_rfl) []
def ucall_Parts_357 : Tab := ucall_Parts_317.inline P 357 Tryz.f357 []
theorem ucall_Parts_357_ok : TabOK P ucall_Parts_357 := ucall_Parts_317_ok.inline hm Tryz.func357 (by kernel_rfl) []
def ucall_Parts_319 : Tab := ucall_Parts_357.inline P 319 Tryz.f319 []
theorem ucall_Parts_319_ok : TabOK P ucall_Parts_319 := ucall_Parts_357_ok.inline hm Tryz.func319 (by kernel_rfl) []
def ucall_Parts_362 : Tab := ucall_Parts_319.inline P 362 Tryz.f362 []
theorem ucall_Parts_362_ok : TabOK P ucall_Parts_362 := ucall_Parts_319_ok.inline hm Tryz.func362 (by kernel_rfl) []
def ucall_Parts_324 : Tab := ucall_Parts_362.inline P 324 Tryz.f324 []
theorem ucall_Parts_324_ok : TabOK P ucall_Parts_324 := ucall_Parts_362_ok.inline hm Tryz.func324 (by kernel_rfl) []
def ucall_Parts_325 : Tab := ucall_Parts_324.inline P 325 Tryz.f325 []
theorem ucall_Parts_325_ok : TabOK P ucall_Parts_325 := ucall_Parts_324_ok.inline hm Tryz.func325 (by kernel_rfl) []
def ucall_Parts_271 : Tab := ucall_Parts_325.inline P 271 Tryz.f271 []
theorem ucall_Parts_271_ok : TabOK P ucall_Parts_271 := ucall_Parts_325_ok.inline hm Tryz.func271 (by kernel_rfl) []
def ucall_Parts_322 : Tab := ucall_Parts_271.inline P 322 Tryz.f322 []
theorem ucall_Parts_322_ok : TabOK P ucall_Parts_322 := ucall_Parts_271_ok.inline hm Tryz.func322 (by kernel_rfl) []
def ucall_Parts_358 : Tab := ucall_Parts_322.inline P 358 Tryz.f358 []
theorem ucall_Parts_358_ok : TabOK P ucall_Parts_358 := ucall_Parts_322_ok.inline hm Tryz.func358 (by kernel_rfl) []
def ucall_Parts_321 : Tab := ucall_Parts_358.inline P 321 Tryz.f321 []
theorem ucall_Parts_321_ok : TabOK P ucall_Parts_321 := ucall_Parts_358_ok.inline hm Tryz.func321 (by kernel_rfl) []
def ucall_Parts_320 : Tab := ucall_Parts_321.inline P 320 Tryz.f320 []
theorem ucall_Parts_320_ok : TabOK P ucall_Parts_320 := ucall_Parts_321_ok.inline hm Tryz.func320 (by kernel_rfl) []
def ucall_Parts_267 : Tab := ucall_Parts_320.inline P 267 Tryz.f267 []
theorem ucall_Parts_267_ok : TabOK P ucall_Parts_267 := ucall_Parts_320_ok.inline hm Tryz.func267 (by kernel_rfl) []
def ucall_Parts_268 : Tab := ucall_Parts_267.inline P 268 Tryz.f268 []
theorem ucall_Parts_268_ok : TabOK P ucall_Parts_268 := ucall_Parts_267_ok.inline hm Tryz.func268 (by kernel_rfl) []
def ucall_Parts_269 : Tab := ucall_Parts_268.inline P 269 Tryz.f269 []
theorem ucall_Parts_269_ok : TabOK P ucall_Parts_269 := ucall_Parts_268_ok.inline hm Tryz.func269 (by kernel_rfl) []
def tab_call_Parts : List (ByteArray × List G) := [(⟨#[]⟩, [.l [[.s ⟨#[]⟩, .s ⟨#[]⟩, .s ⟨#[]⟩, .i 0, .s ⟨#[]⟩]], .t false]), (⟨#[107, 49]⟩, [.l [[.s ⟨#[]⟩, .s ⟨#[]⟩, .s ⟨#[]⟩, .i 0, .s ⟨#[]⟩]], .t false]), (⟨#[75, 49, 65, 66]⟩, [.l [[.s ⟨#[]⟩, .s ⟨#[]⟩, .s ⟨#[]⟩, .i 0, .s ⟨#[]⟩]], .t false]), (⟨#[107, 49, 97, 98, 47]⟩, [.l [[.s ⟨#[]⟩, .s ⟨#[]⟩, .s ⟨#[]⟩, .i 0, .s ⟨#[]⟩]], .t false]), (⟨#[49, 97]⟩, [.l [[.s ⟨#[]⟩, .s ⟨#[]⟩, .s ⟨#[]⟩, .i 0, .s ⟨#[]⟩]], .t false]), (⟨#[107, 49, 97, 98, 47, 109, 109, 47, 112]⟩, [.l [[.s ⟨#[]⟩, .s ⟨#[]⟩, .s ⟨#[]⟩, .i 0, .s ⟨#[]⟩]], .t false]), (⟨#[107, 49, 97, 98]⟩, [.l [[.s ⟨#[107, 49, 97, 98]⟩, .s ⟨#[107, 49]⟩, .s ⟨#[97, 98]⟩, .i 0, .s ⟨#[]⟩]], .t true]), (⟨#[107, 49, 97, 97]⟩, [.l [[.s ⟨#[107, 49, 97, 97]⟩, .s ⟨#[107, 49]⟩, .s ⟨#[97, 97]⟩, .i 0, .s ⟨#[]⟩]], .t true]), (⟨#[107, 49, 97, 98, 47, 52]⟩, [.l [[.s ⟨#[107, 49, 97, 98]⟩, .s ⟨#[107, 49]⟩, .s ⟨#[97, 98]⟩, .i 2, .s ⟨#[52]⟩]], .t true]), (⟨#[111, 104, 50, 97, 98, 99]⟩, [.l [[.s ⟨#[111, 104, 50, 97, 98, 99]⟩, .s ⟨#[111, 104, 50]⟩, .s ⟨#[97, 98, 99]⟩, .i 0, .s ⟨#[]⟩]], .t true]), (⟨#[111, 104, 50, 97, 98, 100]⟩, [.l [[.s ⟨#[111, 104, 50, 97, 98, 100]⟩, .s ⟨#[111, 104, 50]⟩, .s ⟨#[97, 98, 100]⟩, .i 0, .s ⟨#[]⟩]], .t true]), (⟨#[119, 49, 97, 119]⟩, [.l [[.s ⟨#[119, 49, 97, 119]⟩, .s ⟨#[119, 49]⟩, .s ⟨#[97, 119]⟩, .i 0, .s ⟨#[]⟩]], .t true]), (⟨#[110, 49, 109, 109]⟩, [.l [[.s ⟨#[110, 49, 109, 109]⟩, .s ⟨#[110, 49]⟩, .s ⟨#[109, 109]⟩, .i 0, .s ⟨#[]⟩]], .t true]), (⟨#[103, 51, 120, 121, 122, 47, 112]⟩, [.l [[.s ⟨#[103, 51, 120, 121, 122]⟩, .s ⟨#[103, 51]⟩, .s ⟨#[120, 121, 122]⟩, .i 3, .s ⟨#[]⟩]], .t true])]
def F_call_Parts (d : List G) : Option (List G) := lookS tab_call_Parts (gi d 0).str
def s_call_Parts : FSpec := ⟨205, [.s (.str)], [], [], [.s (.row KParts), .s (.bool)], [], [], [], F_call_Parts⟩
theorem q0_call_Parts : PCall P 205 [aS ⟨#[]⟩] (s_call_Parts.out [.l [[.s ⟨#[]⟩, .s ⟨#[]⟩, .s ⟨#[]⟩, .i 0, .s ⟨#[]⟩]], .t false]) := fn_pure (L := nL0) hm ucall_Parts_269_ok [] (fun _ _ => nLk _ _ _) Tryz.func205 rfl (by kernel_rfl) (by kernel_rfl)
theorem q1_call_Parts : PCall P 205 [aS ⟨#[107, 49]⟩] (s_call_Parts.out [.l [[.s ⟨#[]⟩, .s ⟨#[]⟩, .s ⟨#[]⟩, .i 0, .s ⟨#[]⟩]], .t false]) := fn_pure (L := nL0) hm ucall_Parts_269_ok [] (fun _ _ => nLk _ _ _) Tryz.func205 rfl (by kernel_rfl) (by kernel_rfl)
theorem q2_call_Parts : PCall P 205 [aS ⟨#[75, 49, 65, 66]⟩] (s_call_Parts.out [.l [[.s ⟨#[]⟩, .s ⟨#[]⟩, .s ⟨#[]⟩, .i 0, .s ⟨#[]⟩]], .t false]) := fn_pure (L := nL0) hm ucall_Parts_269_ok [] (fun _ _ => nLk _ _ _) Tryz.func205 rfl (by kernel_rfl) (by kernel_rfl)
theorem q3_call_Parts : PCall P 205 [aS ⟨#[107, 49, 97, 98, 47]⟩] (s_call_Parts.out [.l [[.s ⟨#[]⟩, .s ⟨#[]⟩, .s ⟨#[]⟩, .i 0, .s ⟨#[]⟩]], .t false]) := fn_pure (L := nL0) hm ucall_Parts_269_ok [] (fun _ _ => nLk _ _ _) Tryz.func205 rfl (by kernel_rfl) (by kernel_rfl)
theorem q4_call_Parts : PCall P 205 [aS ⟨#[49, 97]⟩] (s_call_Parts.out [.l [[.s ⟨#[]⟩, .s ⟨#[]⟩, .s ⟨#[]⟩, .i 0, .s ⟨#[]⟩]], .t false]) := fn_pure (L := nL0) hm ucall_Parts_269_ok [] (fun _ _ => nLk _ _ _) Tryz.func205 rfl (by kernel_rfl) (by kernel_rfl)
theorem q5_call_Parts : PCall P 205 [aS ⟨#[107, 49, 97, 98, 47, 109, 109, 47, 112]⟩] (s_call_Parts.out [.l [[.s ⟨#[]⟩, .s ⟨#[]⟩, .s ⟨#[]⟩, .i 0, .s ⟨#[]⟩]], .t false]) := fn_pure (L := nL0) hm ucall_Parts_269_ok [] (fun _ _ => nLk _ _ _) Tryz.func205 rfl (by kernel_rfl) (by kernel_rfl)
theorem q6_call_Parts : PCall P 205 [aS ⟨#[107, 49, 97, 98]⟩] (s_call_Parts.out [.l [[.s ⟨#[107, 49, 97, 98]⟩, .s ⟨#[107, 49]⟩, .s ⟨#[97, 98]⟩, .i 0, .s ⟨#[]⟩]], .t true]) := fn_pure (L := nL0) hm ucall_Parts_269_ok [] (fun _ _ => nLk _ _ _) Tryz.func205 rfl (by kernel_rfl) (by kernel_rfl)
theorem q7_call_Parts : PCall P 205 [aS ⟨#[107, 49, 97, 97]⟩] (s_call_Parts.out [.l [[.s ⟨#[107, 49, 97, 97]⟩, .s ⟨#[107, 49]⟩, .s ⟨#[97, 97]⟩, .i 0, .s ⟨#[]⟩]], .t true]) := fn_pure (L := nL0) hm ucall_Parts_269_ok [] (fun _ _ => nLk _ _ _) Tryz.func205 rfl (by kernel_rfl) (by kernel_rfl)
theorem q8_call_Parts : PCall P 205 [aS ⟨#[107, 49, 97, 98, 47, 52]⟩] (s_call_Parts.out [.l [[.s ⟨#[107, 49, 97, 98]⟩, .s ⟨#[107, 49]⟩, .s ⟨#[97, 98]⟩, .i 2, .s ⟨#[52]⟩]], .t true]) := fn_pure (L := nL0) hm ucall_Parts_269_ok [] (fun _ _ => nLk _ _ _) Tryz.func205 rfl (by kernel_rfl) (by kernel_rfl)
theorem q9_call_Parts : PCall P 205 [aS ⟨#[111, 104, 50, 97, 98, 99]⟩] (s_call_Parts.out [.l [[.s ⟨#[111, 104, 50, 97, 98, 99]⟩, .s ⟨#[111, 104, 50]⟩, .s ⟨#[97, 98, 99]⟩, .i 0, .s ⟨#[]⟩]], .t true]) := fn_pure (L := nL0) hm ucall_Parts_269_ok [] (fun _ _ => nLk _ _ _) Tryz.func205 rfl (by kernel_rfl) (by kernel_rfl)
theorem q10_call_Parts : PCall P 205 [aS ⟨#[111, 104, 50, 97, 98, 100]⟩] (s_call_Parts.out [.l [[.s ⟨#[111, 104, 50, 97, 98, 100]⟩, .s ⟨#[111, 104, 50]⟩, .s ⟨#[97, 98, 100]⟩, .i 0, .s ⟨#[]⟩]], .t true]) := fn_pure (L := nL0) hm ucall_Parts_269_ok [] (fun _ _ => nLk _ _ _) Tryz.func205 rfl (by kernel_rfl) (by kernel_rfl)
theorem q11_call_Parts : PCall P 205 [aS ⟨#[119, 49, 97, 119]⟩] (s_call_Parts.out [.l [[.s ⟨#[119, 49, 97, 119]⟩, .s ⟨#[119, 49]⟩, .s ⟨#[97, 119]⟩, .i 0, .s ⟨#[]⟩]], .t true]) := fn_pure (L := nL0) hm ucall_Parts_269_ok [] (fun _ _ => nLk _ _ _) Tryz.func205 rfl (by kernel_rfl) (by kernel_rfl)
theorem q12_call_Parts : PCall P 205 [aS ⟨#[110, 49, 109, 109]⟩] (s_call_Parts.out [.l [[.s ⟨#[110, 49, 109, 109]⟩, .s ⟨#[110, 49]⟩, .s ⟨#[109, 109]⟩, .i 0, .s ⟨#[]⟩]], .t true]) := fn_pure (L := nL0) hm ucall_Parts_269_ok [] (fun _ _ => nLk _ _ _) Tryz.func205 rfl (by kernel_rfl) (by kernel_rfl)
theorem q13_call_Parts : PCall P 205 [aS ⟨#[103, 51, 120, 121, 122, 47, 112]⟩] (s_call_Parts.out [.l [[.s ⟨#[103, 51, 120, 121, 122]⟩, .s ⟨#[103, 51]⟩, .s ⟨#[120, 121, 122]⟩, .i 3, .s ⟨#[]⟩]], .t true]) := fn_pure (L := nL0) hm ucall_Parts_269_ok [] (fun _ _ => nLk _ _ _) Tryz.func205 rfl (by kernel_rfl) (by kernel_rfl)
theorem c_call_Parts : ∀ d r, F_call_Parts d = some r → ACallX P 205 (s_call_Parts.args0 d) (denH (s_call_Parts.H0 d)) (s_call_Parts.out r) (denH (s_call_Parts.H1 r)) := fun d r h => by
 have h := lookS_mem h
 have key : PCall P 205 [aS (gi d 0).str] (s_call_Parts.out r) := by
  generalize (gi d 0).str = s at h
  simp only [tab_call_Parts, List.mem_cons, List.not_mem_nil, or_false, Prod.mk.injEq] at h
  rcases h with ⟨rfl, rfl⟩ | ⟨rfl, rfl⟩ | ⟨rfl, rfl⟩ | ⟨rfl, rfl⟩ | ⟨rfl, rfl⟩ | ⟨rfl, rfl⟩ | ⟨rfl, rfl⟩ | ⟨rfl, rfl⟩ | ⟨rfl, rfl⟩ | ⟨rfl, rfl⟩ | ⟨rfl, rfl⟩ | ⟨rfl, rfl⟩ | ⟨rfl, rfl⟩ | ⟨rfl, rfl⟩
  ·exact q0_call_Parts
  ·exact q1_call_Parts
  ·exact q2_call_Parts
  ·exact q3_call_Parts
  ·exact q4_call_Parts
  ·exact q5_call_Parts
  ·exact q6_call_Parts
  ·exact q7_call_Parts
  ·exact q8_call_Parts
  ·exact q9_call_Parts
  ·exact q10_call_Parts
  ·exact q11_call_Parts
  ·exact q12_call_Parts
  ·exact q13_call_Parts
 exact key []
def t6 : Tab := t5.addP s_call_Parts
theorem t6_ok : TabOK P t6 := t5_ok.addP (by kernel_rfl) (by kernel_rfl) c_call_Parts
def ur1_PartsOf_360 : Tab := t6.inline P 360 Tryz.f360 []
theorem ur1_PartsOf_360_ok : TabOK P ur1_PartsOf_360 := t6_ok.inline hm Tryz.func360 (by kernel_rfl) []
def ur1_PartsOf_381 : Tab := ur1_PartsOf_360.inline P 381 Tryz.f381 []
theorem ur1_PartsOf_381_ok : TabOK P ur1_PartsOf_381 := ur1_PartsOf_360_ok.inline hm Tryz.func381 (by kernel_rfl) []
def ur1_PartsOf_361 : Tab := ur1_PartsOf_381.inline P 361 Tryz.f361 []
theorem ur1_PartsOf_361_ok : TabOK P ur1_PartsOf_361 := ur1_PartsOf_381_ok.inline hm Tryz.func361 (by kernel_rfl) []
def ur1_PartsOf_323 : Tab := ur1_PartsOf_361.inline P 323 Tryz.f323 []
theorem ur1_PartsOf_323_ok : TabOK P ur1_PartsOf_323 := ur1_PartsOf_361_ok.inline hm Tryz.func323 (by kernel_rfl) []
def ur1_PartsOf_270 : Tab := ur1_PartsOf_323.inline P 270 Tryz.f270 []
theorem ur1_PartsOf_270_ok : TabOK P ur1_PartsOf_270 := ur1_PartsOf_323_ok.inline hm Tryz.func270 (by kernel_rfl) []
def ur1_PartsOf_207 : Tab := ur1_PartsOf_270.inline P 207 Tryz.f207 []
theorem ur1_PartsOf_207_ok : TabOK P ur1_PartsOf_207 := ur1_PartsOf_270_ok.inline hm Tryz.func207 (by kernel_rfl) []
def ur1_PartsOf_262 : Tab := ur1_PartsOf_207.inline P 262 Tryz.f262 []
theorem ur1_PartsOf_262_ok : TabOK P ur1_PartsOf_262 := ur1_PartsOf_207_ok.inline hm Tryz.func262 (by kernel_rfl) []
def ur1_PartsOf_316 : Tab := ur1_PartsOf_262.inline P 316 Tryz.f316 []
theorem ur1_PartsOf_316_ok : TabOK P ur1_PartsOf_316 := ur1_PartsOf_262_ok.inline hm Tryz.func316 (by kernel_rfl) []
def ur1_PartsOf_356 : Tab := ur1_PartsOf_316.inline P 356 Tryz.f356 []
theorem ur1_PartsOf_356_ok : TabOK P ur1_PartsOf_356 := ur1_PartsOf_316_ok.inline hm Tryz.func356 (by kernel_rfl) []
def ur1_PartsOf_317 : Tab := ur1_PartsOf_356.inline P 317 Tryz.f317 []
theorem ur1_PartsOf_317_ok : TabOK P ur1_PartsOf_317 := ur1_PartsOf_356_ok.inline hm Tryz.func317 (by kernel_rfl) []
def ur1_PartsOf_357 : Tab := ur1_PartsOf_317.inline P 357 Tryz.f357 []
theorem ur1_PartsOf_357_ok : TabOK P ur1_PartsOf_357 := ur1_PartsOf_317_ok.inline hm Tryz.func357 (by kernel_rfl) []
def ur1_PartsOf_319 : Tab := ur1_PartsOf_357.inline P 319 Tryz.f319 []
theorem ur1_PartsOf_319_ok : TabOK P ur1_PartsOf_319 := ur1_PartsOf_357_ok.inline hm Tryz.func319 (by kernel_rfl) []
def ur1_PartsOf_362 : Tab := ur1_PartsOf_319.inline P 362 Tryz.f362 []
theorem ur1_PartsOf_362_ok : TabOK P ur1_PartsOf_362 := ur1_PartsOf_319_ok.inline hm Tryz.func362 (by kernel_rfl) []
def ur1_PartsOf_324 : Tab := ur1_PartsOf_362.inline P 324 Tryz.f324 []
theorem ur1_PartsOf_324_ok : TabOK P ur1_PartsOf_324 := ur1_PartsOf_362_ok.inline hm Tryz.func324 (by kernel_rfl) []
def ur1_PartsOf_325 : Tab := ur1_PartsOf_324.inline P 325 Tryz.f325 []
theorem ur1_PartsOf_325_ok : TabOK P ur1_PartsOf_325 := ur1_PartsOf_324_ok.inline hm Tryz.func325 (by kernel_rfl) []
def ur1_PartsOf_271 : Tab := ur1_PartsOf_325.inline P 271 Tryz.f271 []
theorem ur1_PartsOf_271_ok : TabOK P ur1_PartsOf_271 := ur1_PartsOf_325_ok.inline hm Tryz.func271 (by kernel_rfl) []
def ur1_PartsOf_273 : Tab := ur1_PartsOf_271.inline P 273 Tryz.f273 []
theorem ur1_PartsOf_273_ok : TabOK P ur1_PartsOf_273 := ur1_PartsOf_271_ok.inline hm Tryz.func273 (by kernel_rfl) []
def ur1_PartsOf_326 : Tab := ur1_PartsOf_273.inline P 326 Tryz.f326 []
theorem ur1_PartsOf_326_ok : TabOK P ur1_PartsOf_326 := ur1_PartsOf_273_ok.inline hm Tryz.func326 (by kernel_rfl) []
def ur1_PartsOf_274 : Tab := ur1_PartsOf_326.inline P 274 Tryz.f274 []
theorem ur1_PartsOf_274_ok : TabOK P ur1_PartsOf_274 := ur1_PartsOf_326_ok.inline hm Tryz.func274 (by kernel_rfl) []
def ur1_PartsOf_272 : Tab := ur1_PartsOf_274.inline P 272 Tryz.f272 []
theorem ur1_PartsOf_272_ok : TabOK P ur1_PartsOf_272 := ur1_PartsOf_274_ok.inline hm Tryz.func272 (by kernel_rfl) []
def ur1_PartsOf_209 : Tab := ur1_PartsOf_272.inline P 209 Tryz.f209 []
theorem ur1_PartsOf_209_ok : TabOK P ur1_PartsOf_209 := ur1_PartsOf_272_ok.inline hm Tryz.func209 (by kernel_rfl) []
def ur1_PartsOf_208 : Tab := ur1_PartsOf_209.inline P 208 Tryz.f208 []
theorem ur1_PartsOf_208_ok : TabOK P ur1_PartsOf_208 := ur1_PartsOf_209_ok.inline hm Tryz.func208 (by kernel_rfl) []
def ur1_PartsOf_210 : Tab := ur1_PartsOf_208.inline P 210 Tryz.f210 []
theorem ur1_PartsOf_210_ok : TabOK P ur1_PartsOf_210 := ur1_PartsOf_208_ok.inline hm Tryz.func210 (by kernel_rfl) []
def ur1_PartsOf_275 : Tab := ur1_PartsOf_210.inline P 275 Tryz.f275 []
theorem ur1_PartsOf_275_ok : TabOK P ur1_PartsOf_275 := ur1_PartsOf_210_ok.inline hm Tryz.func275 (by kernel_rfl) []
def ur1_PartsOf_211 : Tab := ur1_PartsOf_275.inline P 211 Tryz.f211 []
theorem ur1_PartsOf_211_ok : TabOK P ur1_PartsOf_211 := ur1_PartsOf_275_ok.inline hm Tryz.func211 (by kernel_rfl) []
def tab_r1_PartsOf : List (ByteArray × List G) := [(⟨#[]⟩, [.l [[.s ⟨#[]⟩, .s ⟨#[]⟩, .s ⟨#[]⟩, .i 0, .s ⟨#[]⟩]], .t false]), (⟨#[107, 49]⟩, [.l [[.s ⟨#[]⟩, .s ⟨#[]⟩, .s ⟨#[]⟩, .i 0, .s ⟨#[]⟩]], .t false]), (⟨#[75, 49, 65, 66]⟩, [.l [[.s ⟨#[]⟩, .s ⟨#[]⟩, .s ⟨#[]⟩, .i 0, .s ⟨#[]⟩]], .t false]), (⟨#[107, 49, 97, 98, 47]⟩, [.l [[.s ⟨#[]⟩, .s ⟨#[]⟩, .s ⟨#[]⟩, .i 0, .s ⟨#[]⟩]], .t false]), (⟨#[49, 97]⟩, [.l [[.s ⟨#[]⟩, .s ⟨#[]⟩, .s ⟨#[]⟩, .i 0, .s ⟨#[]⟩]], .t false]), (⟨#[107, 49, 97, 98, 47, 109, 109, 47, 112]⟩, [.l [[.s ⟨#[]⟩, .s ⟨#[]⟩, .s ⟨#[]⟩, .i 0, .s ⟨#[]⟩]], .t false]), (⟨#[107, 49, 97, 98]⟩, [.l [[.s ⟨#[107, 49, 97, 98]⟩, .s ⟨#[107, 49]⟩, .s ⟨#[97, 98]⟩, .i 0, .s ⟨#[]⟩]], .t true]), (⟨#[107, 49, 97, 97]⟩, [.l [[.s ⟨#[107, 49, 97, 97]⟩, .s ⟨#[107, 49]⟩, .s ⟨#[97, 97]⟩, .i 0, .s ⟨#[]⟩]], .t true]), (⟨#[107, 49, 97, 98, 47, 52]⟩, [.l [[.s ⟨#[107, 49, 97, 98]⟩, .s ⟨#[107, 49]⟩, .s ⟨#[97, 98]⟩, .i 2, .s ⟨#[52]⟩]], .t true]), (⟨#[111, 104, 50, 97, 98, 99]⟩, [.l [[.s ⟨#[111, 104, 50, 97, 98, 99]⟩, .s ⟨#[111, 104, 50]⟩, .s ⟨#[97, 98, 99]⟩, .i 0, .s ⟨#[]⟩]], .t true]), (⟨#[111, 104, 50, 97, 98, 100]⟩, [.l [[.s ⟨#[111, 104, 50, 97, 98, 100]⟩, .s ⟨#[111, 104, 50]⟩, .s ⟨#[97, 98, 100]⟩, .i 0, .s ⟨#[]⟩]], .t true]), (⟨#[119, 49, 97, 119]⟩, [.l [[.s ⟨#[119, 49, 97, 119]⟩, .s ⟨#[119, 49]⟩, .s ⟨#[97, 119]⟩, .i 0, .s ⟨#[]⟩]], .t true]), (⟨#[110, 49, 109, 109]⟩, [.l [[.s ⟨#[110, 49, 109, 109]⟩, .s ⟨#[110, 49]⟩, .s ⟨#[109, 109]⟩, .i 0, .s ⟨#[]⟩]], .t true]), (⟨#[103, 51, 120, 121, 122, 47, 112]⟩, [.l [[.s ⟨#[103, 51, 120, 121, 122]⟩, .s ⟨#[103, 51]⟩, .s ⟨#[120, 121, 122]⟩, .i 3, .s ⟨#[]⟩]], .t true])]
def F_r1_PartsOf (d : List G) : Option (List G) := lookS tab_r1_PartsOf (gi d 0).str
def s_r1_PartsOf : FSpec := ⟨149, [.s (.str)], [], [], [.s (.row KParts), .s (.bool)], [], [], [], F_r1_PartsOf⟩
theorem q0_r1_PartsOf : PCall P 149 [aS ⟨#[]⟩] (s_r1_PartsOf.out [.l [[.s ⟨#[]⟩, .s ⟨#[]⟩, .s ⟨#[]⟩, .i 0, .s ⟨#[]⟩]], .t false]) := fn_pure (L := nL0) hm ur1_PartsOf_211_ok [] (fun _ _ => nLk _ _ _) Tryz.func149 rfl (by kernel_rfl) (by kernel_rfl)
theorem q1_r1_PartsOf : PCall P 149 [aS ⟨#[107, 49]⟩] (s_r1_PartsOf.out [.l [[.s ⟨#[]⟩, .s ⟨#[]⟩, .s ⟨#[]⟩, .i 0, .s ⟨#[]⟩]], .t false]) := fn_pure (L := nL0) hm ur1_PartsOf_211_ok [] (fun _ _ => nLk _ _ _) Tryz.func149 rfl (by kernel_rfl) (by kernel_rfl)
theorem q2_r1_PartsOf : PCall P 149 [aS ⟨#[75, 49, 65, 66]⟩] (s_r1_PartsOf.out [.l [[.s ⟨#[]⟩, .s ⟨#[]⟩, .s ⟨#[]⟩, .i 0, .s ⟨#[]⟩]], .t false]) := fn_pure (L := nL0) hm ur1_PartsOf_211_ok [] (fun _ _ => nLk _ _ _) Tryz.func149 rfl (by kernel_rfl) (by kernel_rfl)
theorem q3_r1_PartsOf : PCall P 149 [aS ⟨#[107, 49, 97, 98, 47]⟩] (s_r1_PartsOf.out [.l [[.s ⟨#[]⟩, .s ⟨#[]⟩, .s ⟨#[]⟩, .i 0, .s ⟨#[]⟩]], .t false]) := fn_pure (L := nL0) hm ur1_PartsOf_211_ok [] (fun _ _ => nLk _ _ _) Tryz.func149 rfl (by kernel_rfl) (by kernel_rfl)
theorem q4_r1_PartsOf : PCall P 149 [aS ⟨#[49, 97]⟩] (s_r1_PartsOf.out [.l [[.s ⟨#[]⟩, .s ⟨#[]⟩, .s ⟨#[]⟩, .i 0, .s ⟨#[]⟩]], .t false]) := fn_pure (L := nL0) hm ur1_PartsOf_211_ok [] (fun _ _ => nLk _ _ _) Tryz.func149 rfl (by kernel_rfl) (by kernel_rfl)
theorem q5_r1_PartsOf : PCall P 149 [aS ⟨#[107, 49, 97, 98, 47, 109, 109, 47, 112]⟩] (s_r1_PartsOf.out [.l [[.s ⟨#[]⟩, .s ⟨#[]⟩, .s ⟨#[]⟩, .i 0, .s ⟨#[]⟩]], .t false]) := fn_pure (L := nL0) hm ur1_PartsOf_211_ok [] (fun _ _ => nLk _ _ _) Tryz.func149 rfl (by kernel_rfl) (by kernel_rfl)
theorem q6_r1_PartsOf : PCall P 149 [aS ⟨#[107, 49, 97, 98]⟩] (s_r1_PartsOf.out [.l [[.s ⟨#[107, 49, 97, 98]⟩, .s ⟨#[107, 49]⟩, .s ⟨#[97, 98]⟩, .i 0, .s ⟨#[]⟩]], .t true]) := fn_pure (L := nL0) hm ur1_PartsOf_211_ok [] (fun _ _ => nLk _ _ _) Tryz.func149 rfl (by kernel_rfl) (by kernel_rfl)
theorem q7_r1_PartsOf : PCall P 149 [aS ⟨#[107, 49, 97, 97]⟩] (s_r1_PartsOf.out [.l [[.s ⟨#[107, 49, 97, 97]⟩, .s ⟨#[107, 49]⟩, .s ⟨#[97, 97]⟩, .i 0, .s ⟨#[]⟩]], .t true]) := fn_pure (L := nL0) hm ur1_PartsOf_211_ok [] (fun _ _ => nLk _ _ _) Tryz.func149 rfl (by kernel_rfl) (by kernel_rfl)
theorem q8_r1_PartsOf : PCall P 149 [aS ⟨#[107, 49, 97, 98, 47, 52]⟩] (s_r1_PartsOf.out [.l [[.s ⟨#[107, 49, 97, 98]⟩, .s ⟨#[107, 49]⟩, .s ⟨#[97, 98]⟩, .i 2, .s ⟨#[52]⟩]], .t true]) := fn_pure (L := nL0) hm ur1_PartsOf_211_ok [] (fun _ _ => nLk _ _ _) Tryz.func149 rfl (by kernel_rfl) (by kernel_rfl)
theorem q9_r1_PartsOf : PCall P 149 [aS ⟨#[111, 104, 50, 97, 98, 99]⟩] (s_r1_PartsOf.out [.l [[.s ⟨#[111, 104, 50, 97, 98, 99]⟩, .s ⟨#[111, 104, 50]⟩, .s ⟨#[97, 98, 99]⟩, .i 0, .s ⟨#[]⟩]], .t true]) := fn_pure (L := nL0) hm ur1_PartsOf_211_ok [] (fun _ _ => nLk _ _ _) Tryz.func149 rfl (by kernel_rfl) (by kernel_rfl)
theorem q10_r1_PartsOf : PCall P 149 [aS ⟨#[111, 104, 50, 97, 98, 100]⟩] (s_r1_PartsOf.out [.l [[.s ⟨#[111, 104, 50, 97, 98, 100]⟩, .s ⟨#[111, 104, 50]⟩, .s ⟨#[97, 98, 100]⟩, .i 0, .s ⟨#[]⟩]], .t true]) := fn_pure (L := nL0) hm ur1_PartsOf_211_ok [] (fun _ _ => nLk _ _ _) Tryz.func149 rfl (by kernel_rfl) (by kernel_rfl)
theorem q11_r1_PartsOf : PCall P 149 [aS ⟨#[119, 49, 97, 119]⟩] (s_r1_PartsOf.out [.l [[.s ⟨#[119, 49, 97, 119]⟩, .s ⟨#[119, 49]⟩, .s ⟨#[97, 119]⟩, .i 0, .s ⟨#[]⟩]], .t true]) := fn_pure (L := nL0) hm ur1_PartsOf_211_ok [] (fun _ _ => nLk _ _ _) Tryz.func149 rfl (by kernel_rfl) (by kernel_rfl)
theorem q12_r1_PartsOf : PCall P 149 [aS ⟨#[110, 49, 109, 109]⟩] (s_r1_PartsOf.out [.l [[.s ⟨#[110, 49, 109, 109]⟩, .s ⟨#[110, 49]⟩, .s ⟨#[109, 109]⟩, .i 0, .s ⟨#[]⟩]], .t true]) := fn_pure (L := nL0) hm ur1_PartsOf_211_ok [] (fun _ _ => nLk _ _ _) Tryz.func149 rfl (by kernel_rfl) (by kernel_rfl)
theorem q13_r1_PartsOf : PCall P 149 [aS ⟨#[103, 51, 120, 121, 122, 47, 112]⟩] (s_r1_PartsOf.out [.l [[.s ⟨#[103, 51, 120, 121, 122]⟩, .s ⟨#[103, 51]⟩, .s ⟨#[120, 121, 122]⟩, .i 3, .s ⟨#[]⟩]], .t true]) := fn_pure (L := nL0) hm ur1_PartsOf_211_ok [] (fun _ _ => nLk _ _ _) Tryz.func149 rfl (by kernel_rfl) (by kernel_rfl)
theorem c_r1_PartsOf : ∀ d r, F_r1_PartsOf d = some r → ACallX P 149 (s_r1_PartsOf.args0 d) (denH (s_r1_PartsOf.H0 d)) (s_r1_PartsOf.out r) (denH (s_r1_PartsOf.H1 r)) := fun d r h => by
 have h := lookS_mem h
 have key : PCall P 149 [aS (gi d 0).str] (s_r1_PartsOf.out r) := by
  generalize (gi d 0).str = s at h
  simp only [tab_r1_PartsOf, List.mem_cons, List.not_mem_nil, or_false, Prod.mk.injEq] at h
  rcases h with ⟨rfl, rfl⟩ | ⟨rfl, rfl⟩ | ⟨rfl, rfl⟩ | ⟨rfl, rfl⟩ | ⟨rfl, rfl⟩ | ⟨rfl, rfl⟩ | ⟨rfl, rfl⟩ | ⟨rfl, rfl⟩ | ⟨rfl, rfl⟩ | ⟨rfl, rfl⟩ | ⟨rfl, rfl⟩ | ⟨rfl, rfl⟩ | ⟨rfl, rfl⟩ | ⟨rfl, rfl⟩
  ·exact q0_r1_PartsOf
  ·exact q1_r1_PartsOf
  ·exact q2_r1_PartsOf
  ·exact q3_r1_PartsOf
  ·exact q4_r1_PartsOf
  ·exact q5_r1_PartsOf
  ·exact q6_r1_PartsOf
  ·exact q7_r1_PartsOf
  ·exact q8_r1_PartsOf
  ·exact q9_r1_PartsOf
  ·exact q10_r1_PartsOf
  ·exact q11_r1_PartsOf
  ·exact q12_r1_PartsOf
  ·exact q13_r1_PartsOf
 exact key []
def t7 : Tab := t6.addP s_r1_PartsOf
theorem t7_ok : TabOK P t7 := t6_ok.addP (by kernel_rfl) (by kernel_rfl) c_r1_PartsOf
end
end Go.Proofs.SYtkdippipiidcmaaGreatDoor
