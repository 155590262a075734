/-
  What is proved here: functions of the program as functions on data. No condition.
-/
import Derived.Test.YtpfhjchbegdgdaaGreatDoorML0
set_option linter.unusedSimpArgs false
set_option linter.unusedVariables false
set_option linter.unusedSectionVars false
namespace Go.Proofs.SYtpfhjchbegdgdaaGreatDoor
open Go Go.AL Go.Proofs
noncomputable section
def ucall_Parts_336 : Tab := t4.inline P 336 Tryz.f336 []
theorem ucall_Parts_336_ok : TabOK P ucall_Parts_336 := t4_ok.inline hm Tryz.func336 (by kernel_rfl) []
def ucall_Parts_373 : Tab := ucall_Parts_336.inline P 373 Tryz.f373 []
theorem ucall_Parts_373_ok : TabOK P ucall_Parts_373 := ucall_Parts_336_ok.inline hm Tryz.func373 (by kernel_rfl) []
def ucall_Parts_337 : Tab := ucall_Parts_373.inline P 337 Tryz.f337 []
theorem ucall_Parts_337_ok : TabOK P ucall_Parts_337 := ucall_Parts_373_ok.inline hm Tryz.func337 (by kernel_rfl) []
def ucall_Parts_289 : Tab := ucall_Parts_337.inline P 289 Tryz.f289 []
theorem ucall_Parts_289_ok : TabOK P ucall_Parts_289 := ucall_Parts_337_ok.inline hm Tryz.func289 (by kernel_rfl) []
def ucall_Parts_279 : Tab := ucall_Parts_289.inline P 279 Tryz.f279 []
theorem ucall_Parts_279_ok : TabOK P ucall_Parts_279 := ucall_Parts_289_ok.inline hm Tryz.func279 (by kernel_rfl) []
def ucall_Parts_208 : Tab := ucall_Parts_279.inline P 208 Tryz.f208 []
theorem ucall_Parts_208_ok : TabOK P ucall_Parts_208 := ucall_Parts_279_ok.inline hm Tryz.func208 (by kernel_rfl) []
def ucall_Parts_238 : Tab := ucall_Parts_208.inline P 238 Tryz.f238 []
theorem ucall_Parts_238_ok : TabOK P ucall_Parts_238 := ucall_Parts_208_ok.inline hm Tryz.func238 (by kernel_rfl) []
def ucall_Parts_300 : Tab := ucall_Parts_238.inline P 300 Tryz.f300 []
theorem ucall_Parts_300_ok : TabOK P ucall_Parts_300 := ucall_Parts_238_ok.inline hm Tryz.func300 (by kernel_rfl) []
def ucall_Parts_348 : Tab := ucall_Parts_300.inline P 348 Tryz.f348 []
theorem ucall_Parts_348_ok : TabOK P ucall_Parts_348 := ucall_Parts_300_ok.inline hm Tryz.func348 (by kernel_rfl) []
def ucall_Parts_301 : Tab := ucall_Parts_348.inline P 301 Tryz.f301 []
theorem ucall_Parts_301_ok : TabOK P ucall_Parts_301 := ucall_Parts_348_ok.inline hm Tryz.func301 (by kernel_rfl) []
def ucall_Parts_349 : Tab := ucall_Parts_301.inline P 349 Tryz.f349 []
theorem ucall_Parts_349_ok : TabOK P ucall_Parts_349 := ucall_Parts_301_ok.inline hm Tryz.func349 (by kernel_rfl) []
def ucall_Parts_303 : Tab := ucall_Parts_349.inline P 303 Tryz.f303 []
theorem ucall_Parts_303_ok : TabOK P ucall_Parts_303 := ucall_Parts_349_ok.inline hm Tryz.func303 (by kernel_rfl) []
def ucall_Parts_377 : Tab := ucall_Parts_303.inline P 377 Tryz.f377 []
theorem ucall_Parts_377_ok : TabOK P ucall_Parts_377 := ucall_Parts_303_ok.inline hm Tryz.func377 (by kernel_rfl) []
def ucall_Parts_345 : Tab := ucall_Parts_377.inline P 345 Tryz.f345 []
theorem ucall_Parts_345_ok : TabOK P ucall_Parts_345 := ucall_Parts_377_ok.inline hm Tryz.func345 (by kernel_rfl) []
def ucall_Parts_346 : Tab := ucall_Parts_345.inline P 346 Tryz.f346 []
theorem ucall_Parts_346_ok : TabOK P ucall_Parts_346 := ucall_Parts_345_ok.inline hm Tryz.func346 (by kernel_rfl) []
def ucall_Parts_295 : Tab := ucall_Parts_346.inline P 295 Tryz.f295 []
theorem ucall_Parts_295_ok : TabOK P ucall_Parts_295 := ucall_Parts_346_ok.inline hm Tryz.func295 (by kernel_rfl) []
def ucall_Parts_306 : Tab := ucall_Parts_295.inline P 306 Tryz.f306 []
theorem ucall_Parts_306_ok : TabOK P ucall_Parts_306 := ucall_Parts_295_ok.inline hm Tryz.func306 (by kernel_rfl) []
def ucall_Parts_350 : Tab := ucall_Parts_306.inline P 350 Tryz.f350 []
theorem ucall_Parts_350_ok : TabOK P ucall_Parts_350 := ucall_Parts_306_ok.inline hm Tryz.func350 (by kernel_rfl) []
def ucall_Parts_305 : Tab := ucall_Parts_350.inline P 305 Tryz.f305 []
theorem ucall_Parts_305_ok : TabOK P ucall_Parts_305 := ucall_Parts_350_ok.inline hm Tryz.func305 (by kernel_rfl) []
def ucall_Parts_304 : Tab := ucall_Parts_305.inline P 304 Tryz.f304 []
theorem ucall_Parts_304_ok : TabOK P ucall_Parts_304 := ucall_Parts_305_ok.inline hm Tryz.func304 (by kernel_rfl) []
def ucall_Parts_243 : Tab := ucall_Parts_304.inline P 243 Tryz.f243 []
theorem ucall_Parts_243_ok : TabOK P ucall_Parts_243 := ucall_Parts_304_ok.inline hm Tryz.func243 (by kernel_rfl) []
def ucall_Parts_244 : Tab := ucall_Parts_243.inline P 244 Tryz.f244 []
theorem ucall_Parts_244_ok : TabOK P ucall_Parts_244 := ucall_Parts_243_ok.inline hm Tryz.func244 (by kernel_rfl) []
def ucall_Parts_245 : Tab := ucall_Parts_244.inline P 245 Tryz.f245 []
theorem ucall_Parts_245_ok : TabOK P ucall_Parts_245 := ucall_Parts_244_ok.inline hm Tryz.func245 (by kernel_rfl) []
def tab_call_Parts : List (ByteArray × List G) := [(⟨#[]⟩, [.l [[.s ⟨#[]⟩, .s ⟨#[]⟩, .s ⟨#[]⟩, .i 0, .s ⟨#[]⟩]], .t false]), (⟨#[107, 49]⟩, [.l [[.s ⟨#[]⟩, .s ⟨#[]⟩, .s ⟨#[]⟩, .i 0, .s ⟨#[]⟩]], .t false]), (⟨#[75, 49, 65, 66]⟩, [.l [[.s ⟨#[]⟩, .s ⟨#[]⟩, .s ⟨#[]⟩, .i 0, .s ⟨#[]⟩]], .t false]), (⟨#[107, 49, 97, 98, 47]⟩, [.l [[.s ⟨#[]⟩, .s ⟨#[]⟩, .s ⟨#[]⟩, .i 0, .s ⟨#[]⟩]], .t false]), (⟨#[49, 97]⟩, [.l [[.s ⟨#[]⟩, .s ⟨#[]⟩, .s ⟨#[]⟩, .i 0, .s ⟨#[]⟩]], .t false]), (⟨#[107, 49, 97, 98, 47, 109, 109, 47, 112]⟩, [.l [[.s ⟨#[]⟩, .s ⟨#[]⟩, .s ⟨#[]⟩, .i 0, .s ⟨#[]⟩]], .t false]), (⟨#[107, 49, 97, 98]⟩, [.l [[.s ⟨#[107, 49, 97, 98]⟩, .s ⟨#[107, 49]⟩, .s ⟨#[97, 98]⟩, .i 0, .s ⟨#[]⟩]], .t true]), (⟨#[107, 49, 97, 97]⟩, [.l [[.s ⟨#[107, 49, 97, 97]⟩, .s ⟨#[107, 49]⟩, .s ⟨#[97, 97]⟩, .i 0, .s ⟨#[]⟩]], .t true]), (⟨#[107, 49, 97, 98, 47, 52]⟩, [.l [[.s ⟨#[107, 49, 97, 98]⟩, .s ⟨#[107, 49]⟩, .s ⟨#[97, 98]⟩, .i 2, .s ⟨#[52]⟩]], .t true]), (⟨#[111, 104, 50, 97, 98, 99]⟩, [.l [[.s ⟨#[111, 104, 50, 97, 98, 99]⟩, .s ⟨#[111, 104, 50]⟩, .s ⟨#[97, 98, 99]⟩, .i 0, .s ⟨#[]⟩]], .t true]), (⟨#[111, 104, 50, 97, 98, 100]⟩, [.l [[.s ⟨#[111, 104, 50, 97, 98, 100]⟩, .s ⟨#[111, 104, 50]⟩, .s ⟨#[97, 98, 100]⟩, .i 0, .s ⟨#[]⟩]], .t true]), (⟨#[119, 49, 97, 119]⟩, [.l [[.s ⟨#[119, 49, 97, 119]⟩, .s ⟨#[119, 49]⟩, .s ⟨#[97, 119]⟩, .i 0, .s ⟨#[]⟩]], .t true]), (⟨#[110, 49, 109, 109]⟩, [.l [[.s ⟨#[110, 49, 109, 109]⟩, .s ⟨#[110, 49]⟩, .s ⟨#[109, 109]⟩, .i 0, .s ⟨#[]⟩]], .t true]), (⟨#[103, 51, 120, 121, 122, 47, 112]⟩, [.l [[.s ⟨#[103, 51, 120, 121, 122]⟩, .s ⟨#[103, 51]⟩, .s ⟨#[120, 121, 122]⟩, .i 3, .s ⟨#[]⟩]], .t true])]
def F_call_Parts (d : List G) : Option (List G) := lookS tab_call_Parts (gi d 0).str
def s_call_Parts : FSpec := ⟨184, [.s (.str)], [], [], [.s (.row KParts), .s (.bool)], [], [], [], F_call_Parts⟩
theorem q0_call_Parts : PCall P 184 [aS ⟨#[]⟩] (s_call_Parts.out [.l [[.s ⟨#[]⟩, .s ⟨#[]⟩, .s ⟨#[]⟩, .i 0, .s ⟨#[]⟩]], .t false]) := fn_pure (L := noLoops) hm ucall_Parts_245_ok [] (fun _ _ => noLoops_ok _ _ _) Tryz.func184 rfl (by kernel_rfl) (by kernel_rfl)
theorem q1_call_Parts : PCall P 184 [aS ⟨#[107, 49]⟩] (s_call_Parts.out [.l [[.s ⟨#[]⟩, .s ⟨#[]⟩, .s ⟨#[]⟩, .i 0, .s ⟨#[]⟩]], .t false]) := fn_pure (L := noLoops) hm ucall_Parts_245_ok [] (fun _ _ => noLoops_ok _ _ _) Tryz.func184 rfl (by kernel_rfl) (by kernel_rfl)
theorem q2_call_Parts : PCall P 184 [aS ⟨#[75, 49, 65, 66]⟩] (s_call_Parts.out [.l [[.s ⟨#[]⟩, .s ⟨#[]⟩, .s ⟨#[]⟩, .i 0, .s ⟨#[]⟩]], .t false]) := fn_pure (L := noLoops) hm ucall_Parts_245_ok [] (fun _ _ => noLoops_ok _ _ _) Tryz.func184 rfl (by kernel_rfl) (by kernel_rfl)
theorem q3_call_Parts : PCall P 184 [aS ⟨#[107, 49, 97, 98, 47]⟩] (s_call_Parts.out [.l [[.s ⟨#[]⟩, .s ⟨#[]⟩, .s ⟨#[]⟩, .i 0, .s ⟨#[]⟩]], .t false]) := fn_pure (L := noLoops) hm ucall_Parts_245_ok [] (fun _ _ => noLoops_ok _ _ _) Tryz.func184 rfl (by kernel_rfl) (by kernel_rfl)
theorem q4_call_Parts : PCall P 184 [aS ⟨#[49, 97]⟩] (s_call_Parts.out [.l [[.s ⟨#[]⟩, .s ⟨#[]⟩, .s ⟨#[]⟩, .i 0, .s ⟨#[]⟩]], .t false]) := fn_pure (L := noLoops) hm ucall_Parts_245_ok [] (fun _ _ => noLoops_ok _ _ _) Tryz.func184 rfl (by kernel_rfl) (by kernel_rfl)
theorem q5_call_Parts : PCall P 184 [aS ⟨#[107, 49, 97, 98, 47, 109, 109, 47, 112]⟩] (s_call_Parts.out [.l [[.s ⟨#[]⟩, .s ⟨#[]⟩, .s ⟨#[]⟩, .i 0, .s ⟨#[]⟩]], .t false]) := fn_pure (L := noLoops) hm ucall_Parts_245_ok [] (fun _ _ => noLoops_ok _ _ _) Tryz.func184 rfl (by kernel_rfl) (by kernel_rfl)
theorem q6_call_Parts : PCall P 184 [aS ⟨#[107, 49, 97, 98]⟩] (s_call_Parts.out [.l [[.s ⟨#[107, 49, 97, 98]⟩, .s ⟨#[107, 49]⟩, .s ⟨#[97, 98]⟩, .i 0, .s ⟨#[]⟩]], .t true]) := fn_pure (L := noLoops) hm ucall_Parts_245_ok [] (fun _ _ => noLoops_ok _ _ _) Tryz.func184 rfl (by kernel_rfl) (by kernel_rfl)
theorem q7_call_Parts : PCall P 184 [aS ⟨#[107, 49, 97, 97]⟩] (s_call_Parts.out [.l [[.s ⟨#[107, 49, 97, 97]⟩, .s ⟨#[107, 49]⟩, .s ⟨#[97, 97]⟩, .i 0, .s ⟨#[]⟩]], .t true]) := fn_pure (L := noLoops) hm ucall_Parts_245_ok [] (fun _ _ => noLoops_ok _ _ _) Tryz.func184 rfl (by kernel_rfl) (by kernel_rfl)
theorem q8_call_Parts : PCall P 184 [aS ⟨#[107, 49, 97, 98, 47, 52]⟩] (s_call_Parts.out [.l [[.s ⟨#[107, 49, 97, 98]⟩, .s ⟨#[107, 49]⟩, .s ⟨#[97, 98]⟩, .i 2, .s ⟨#[52]⟩]], .t true]) := fn_pure (L := noLoops) hm ucall_Parts_245_ok [] (fun _ _ => noLoops_ok _ _ _) Tryz.func184 rfl (by kernel_rfl) (by kernel_rfl)
theorem q9_call_Parts : PCall P 184 [aS ⟨#[111, 104, 50, 97, 98, 99]⟩] (s_call_Parts.out [.l [[.s ⟨#[111, 104, 50, 97, 98, 99]⟩, .s ⟨#[111, 104, 50]⟩, .s ⟨#[97, 98, 99]⟩, .i 0, .s ⟨#[]⟩]], .t true]) := fn_pure (L := noLoops) hm ucall_Parts_245_ok [] (fun _ _ => noLoops_ok _ _ _) Tryz.func184 rfl (by kernel_rfl) (by kernel_rfl)
theorem q10_call_Parts : PCall P 184 [aS ⟨#[111, 104, 50, 97, 98, 100]⟩] (s_call_Parts.out [.l [[.s ⟨#[111, 104, 50, 97, 98, 100]⟩, .s ⟨#[111, 104, 50]⟩, .s ⟨#[97, 98, 100]⟩, .i 0, .s ⟨#[]⟩]], .t true]) := fn_pure (L := noLoops) hm ucall_Parts_245_ok [] (fun _ _ => noLoops_ok _ _ _) Tryz.func184 rfl (by kernel_rfl) (by kernel_rfl)
theorem q11_call_Parts : PCall P 184 [aS ⟨#[119, 49, 97, 119]⟩] (s_call_Parts.out [.l [[.s ⟨#[119, 49, 97, 119]⟩, .s ⟨#[119, 49]⟩, .s ⟨#[97, 119]⟩, .i 0, .s ⟨#[]⟩]], .t true]) := fn_pure (L := noLoops) hm ucall_Parts_245_ok [] (fun _ _ => noLoops_ok _ _ _) Tryz.func184 rfl (by kernel_rfl) (by kernel_rfl)
theorem q12_call_Parts : PCall P 184 [aS ⟨#[110, 49, 109, 109]⟩] (s_call_Parts.out [.l [[.s ⟨#[110, 49, 109, 109]⟩, .s ⟨#[110, 49]⟩, .s ⟨#[109, 109]⟩, .i 0, .s ⟨#[]⟩]], .t true]) := fn_pure (L := noLoops) hm ucall_Parts_245_ok [] (fun _ _ => noLoops_ok _ _ _) Tryz.func184 rfl (by kernel_rfl) (by kernel_rfl)
theorem q13_call_Parts : PCall P 184 [aS ⟨#[103, 51, 120, 121, 122, 47, 112]⟩] (s_call_Parts.out [.l [[.s ⟨#[103, 51, 120, 121, 122]⟩, .s ⟨#[103, 51]⟩, .s ⟨#[120, 121, 122]⟩, .i 3, .s ⟨#[]⟩]], .t true]) := fn_pure (L := noLoops) hm ucall_Parts_245_ok [] (fun _ _ => noLoops_ok _ _ _) Tryz.func184 rfl (by kernel_rfl) (by kernel_rfl)
theorem c_call_Parts : ∀ d r, F_call_Parts d = some r → ACallX P 184 (s_call_Parts.args0 d) (denH (s_call_Parts.H0 d)) (s_call_Parts.out r) (denH (s_call_Parts.H1 r)) := fun d r h => by
  have h := lookS_mem h
  have key : PCall P 184 [aS (gi d 0).str] (s_call_Parts.out r) := by
    generalize (gi d 0).str = s at h
    simp only [tab_call_Parts, List.mem_cons, List.not_mem_nil, or_false, Prod.mk.injEq] at h
    rcases h with ⟨rfl, rfl⟩ | ⟨rfl, rfl⟩ | ⟨rfl, rfl⟩ | ⟨rfl, rfl⟩ | ⟨rfl, rfl⟩ | ⟨rfl, rfl⟩ | ⟨rfl, rfl⟩ | ⟨rfl, rfl⟩ | ⟨rfl, rfl⟩ | ⟨rfl, rfl⟩ | ⟨rfl, rfl⟩ | ⟨rfl, rfl⟩ | ⟨rfl, rfl⟩ | ⟨rfl, rfl⟩
    · exact q0_call_Parts
    · exact q1_call_Parts
    · exact q2_call_Parts
    · exact q3_call_Parts
    · exact q4_call_Parts
    · exact q5_call_Parts
    · exact q6_call_Parts
    · exact q7_call_Parts
    · exact q8_call_Parts
    · exact q9_call_Parts
    · exact q10_call_Parts
    · exact q11_call_Parts
    · exact q12_call_Parts
    · exact q13_call_Parts
  exact key []
def t5 : Tab := t4.addP s_call_Parts
theorem t5_ok : TabOK P t5 := t4_ok.addP (by kernel_rfl) (by kernel_rfl) c_call_Parts
def upileref1_PartsOf_336 : Tab := t5.inline P 336 Tryz.f336 []
theorem upileref1_PartsOf_336_ok : TabOK P upileref1_PartsOf_336 := t5_ok.inline hm Tryz.func336 (by kernel_rfl) []
def upileref1_PartsOf_373 : Tab := upileref1_PartsOf_336.inline P 373 Tryz.f373 []
theorem upileref1_PartsOf_373_ok : TabOK P upileref1_PartsOf_373 := upileref1_PartsOf_336_ok.inline hm Tryz.func373 (by kernel_rfl) []
def upileref1_PartsOf_337 : Tab := upileref1_PartsOf_373.inline P 337 Tryz.f337 []
theorem upileref1_PartsOf_337_ok : TabOK P upileref1_PartsOf_337 := upileref1_PartsOf_373_ok.inline hm Tryz.func337 (by kernel_rfl) []
def upileref1_PartsOf_289 : Tab := upileref1_PartsOf_337.inline P 289 Tryz.f289 []
theorem upileref1_PartsOf_289_ok : TabOK P upileref1_PartsOf_289 := upileref1_PartsOf_337_ok.inline hm Tryz.func289 (by kernel_rfl) []
def upileref1_PartsOf_223 : Tab := upileref1_PartsOf_289.inline P 223 Tryz.f223 []
theorem upileref1_PartsOf_223_ok : TabOK P upileref1_PartsOf_223 := upileref1_PartsOf_289_ok.inline hm Tryz.func223 (by kernel_rfl) []
def upileref1_PartsOf_169 : Tab := upileref1_PartsOf_223.inline P 169 Tryz.f169 []
theorem upileref1_PartsOf_169_ok : TabOK P upileref1_PartsOf_169 := upileref1_PartsOf_223_ok.inline hm Tryz.func169 (by kernel_rfl) []
def upileref1_PartsOf_279 : Tab := upileref1_PartsOf_169.inline P 279 Tryz.f279 []
theorem upileref1_PartsOf_279_ok : TabOK P upileref1_PartsOf_279 := upileref1_PartsOf_169_ok.inline hm Tryz.func279 (by kernel_rfl) []
def upileref1_PartsOf_208 : Tab := upileref1_PartsOf_279.inline P 208 Tryz.f208 []
theorem upileref1_PartsOf_208_ok : TabOK P upileref1_PartsOf_208 := upileref1_PartsOf_279_ok.inline hm Tryz.func208 (by kernel_rfl) []
def upileref1_PartsOf_238 : Tab := upileref1_PartsOf_208.inline P 238 Tryz.f238 []
theorem upileref1_PartsOf_238_ok : TabOK P upileref1_PartsOf_238 := upileref1_PartsOf_208_ok.inline hm Tryz.func238 (by kernel_rfl) []
def upileref1_PartsOf_300 : Tab := upileref1_PartsOf_238.inline P 300 Tryz.f300 []
theorem upileref1_PartsOf_300_ok : TabOK P upileref1_PartsOf_300 := upileref1_PartsOf_238_ok.inline hm Tryz.func300 (by kernel_rfl) []
def upileref1_PartsOf_348 : Tab := upileref1_PartsOf_300.inline P 348 Tryz.f348 []
theorem upileref1_PartsOf_348_ok : TabOK P upileref1_PartsOf_348 := upileref1_PartsOf_300_ok.inline hm Tryz.func348 (by kernel_rfl) []
def upileref1_PartsOf_301 : Tab := upileref1_PartsOf_348.inline P 301 Tryz.f301 []
theorem upileref1_PartsOf_301_ok : TabOK P upileref1_PartsOf_301 := upileref1_PartsOf_348_ok.inline hm Tryz.func301 (by kernel_rfl) []
def upileref1_PartsOf_349 : Tab := upileref1_PartsOf_301.inline P 349 Tryz.f349 []
theorem upileref1_PartsOf_349_ok : TabOK P upileref1_PartsOf_349 := upileref1_PartsOf_301_ok.inline hm Tryz.func349 (by kernel_rfl) []
def upileref1_PartsOf_303 : Tab := upileref1_PartsOf_349.inline P 303 Tryz.f303 []
theorem upileref1_PartsOf_303_ok : TabOK P upileref1_PartsOf_303 := upileref1_PartsOf_349_ok.inline hm Tryz.func303 (by kernel_rfl) []
def upileref1_PartsOf_377 : Tab := upileref1_PartsOf_303.inline P 377 Tryz.f377 []
theorem upileref1_PartsOf_377_ok : TabOK P upileref1_PartsOf_377 := upileref1_PartsOf_303_ok.inline hm Tryz.func377 (by kernel_rfl) []
def upileref1_PartsOf_345 : Tab := upileref1_PartsOf_377.inline P 345 Tryz.f345 []
theorem upileref1_PartsOf_345_ok : TabOK P upileref1_PartsOf_345 := upileref1_PartsOf_377_ok.inline hm Tryz.func345 (by kernel_rfl) []
def upileref1_PartsOf_346 : Tab := upileref1_PartsOf_345.inline P 346 Tryz.f346 []
theorem upileref1_PartsOf_346_ok : TabOK P upileref1_PartsOf_346 := upileref1_PartsOf_345_ok.inline hm Tryz.func346 (by kernel_rfl) []
def upileref1_PartsOf_295 : Tab := upileref1_PartsOf_346.inline P 295 Tryz.f295 []
theorem upileref1_PartsOf_295_ok : TabOK P upileref1_PartsOf_295 := upileref1_PartsOf_346_ok.inline hm Tryz.func295 (by kernel_rfl) []
def upileref1_PartsOf_297 : Tab := upileref1_PartsOf_295.inline P 297 Tryz.f297 []
theorem upileref1_PartsOf_297_ok : TabOK P upileref1_PartsOf_297 := upileref1_PartsOf_295_ok.inline hm Tryz.func297 (by kernel_rfl) []
def upileref1_PartsOf_347 : Tab := upileref1_PartsOf_297.inline P 347 Tryz.f347 []
theorem upileref1_PartsOf_347_ok : TabOK P upileref1_PartsOf_347 := upileref1_PartsOf_297_ok.inline hm Tryz.func347 (by kernel_rfl) []
def upileref1_PartsOf_298 : Tab := upileref1_PartsOf_347.inline P 298 Tryz.f298 []
theorem upileref1_PartsOf_298_ok : TabOK P upileref1_PartsOf_298 := upileref1_PartsOf_347_ok.inline hm Tryz.func298 (by kernel_rfl) []
def upileref1_PartsOf_296 : Tab := upileref1_PartsOf_298.inline P 296 Tryz.f296 []
theorem upileref1_PartsOf_296_ok : TabOK P upileref1_PartsOf_296 := upileref1_PartsOf_298_ok.inline hm Tryz.func296 (by kernel_rfl) []
def upileref1_PartsOf_232 : Tab := upileref1_PartsOf_296.inline P 232 Tryz.f232 []
theorem upileref1_PartsOf_232_ok : TabOK P upileref1_PartsOf_232 := upileref1_PartsOf_296_ok.inline hm Tryz.func232 (by kernel_rfl) []
def upileref1_PartsOf_231 : Tab := upileref1_PartsOf_232.inline P 231 Tryz.f231 []
theorem upileref1_PartsOf_231_ok : TabOK P upileref1_PartsOf_231 := upileref1_PartsOf_232_ok.inline hm Tryz.func231 (by kernel_rfl) []
def upileref1_PartsOf_233 : Tab := upileref1_PartsOf_231.inline P 233 Tryz.f233 []
theorem upileref1_PartsOf_233_ok : TabOK P upileref1_PartsOf_233 := upileref1_PartsOf_231_ok.inline hm Tryz.func233 (by kernel_rfl) []
def tab_pileref1_PartsOf : List (ByteArray × List G) := [(⟨#[]⟩, [.l [[.s ⟨#[]⟩, .s ⟨#[]⟩, .s ⟨#[]⟩, .i 0, .s ⟨#[]⟩]], .t false]), (⟨#[107, 49]⟩, [.l [[.s ⟨#[]⟩, .s ⟨#[]⟩, .s ⟨#[]⟩, .i 0, .s ⟨#[]⟩]], .t false]), (⟨#[75, 49, 65, 66]⟩, [.l [[.s ⟨#[]⟩, .s ⟨#[]⟩, .s ⟨#[]⟩, .i 0, .s ⟨#[]⟩]], .t false]), (⟨#[107, 49, 97, 98, 47]⟩, [.l [[.s ⟨#[]⟩, .s ⟨#[]⟩, .s ⟨#[]⟩, .i 0, .s ⟨#[]⟩]], .t false]), (⟨#[49, 97]⟩, [.l [[.s ⟨#[]⟩, .s ⟨#[]⟩, .s ⟨#[]⟩, .i 0, .s ⟨#[]⟩]], .t false]), (⟨#[107, 49, 97, 98, 47, 109, 109, 47, 112]⟩, [.l [[.s ⟨#[]⟩, .s ⟨#[]⟩, .s ⟨#[]⟩, .i 0, .s ⟨#[]⟩]], .t false]), (⟨#[107, 49, 97, 98]⟩, [.l [[.s ⟨#[107, 49, 97, 98]⟩, .s ⟨#[107, 49]⟩, .s ⟨#[97, 98]⟩, .i 0, .s ⟨#[]⟩]], .t true]), (⟨#[107, 49, 97, 97]⟩, [.l [[.s ⟨#[107, 49, 97, 97]⟩, .s ⟨#[107, 49]⟩, .s ⟨#[97, 97]⟩, .i 0, .s ⟨#[]⟩]], .t true]), (⟨#[107, 49, 97, 98, 47, 52]⟩, [.l [[.s ⟨#[107, 49, 97, 98]⟩, .s ⟨#[107, 49]⟩, .s ⟨#[97, 98]⟩, .i 2, .s ⟨#[52]⟩]], .t true]), (⟨#[111, 104, 50, 97, 98, 99]⟩, [.l [[.s ⟨#[111, 104, 50, 97, 98, 99]⟩, .s ⟨#[111, 104, 50]⟩, .s ⟨#[97, 98, 99]⟩, .i 0, .s ⟨#[]⟩]], .t true]), (⟨#[111, 104, 50, 97, 98, 100]⟩, [.l [[.s ⟨#[111, 104, 50, 97, 98, 100]⟩, .s ⟨#[111, 104, 50]⟩, .s ⟨#[97, 98, 100]⟩, .i 0, .s ⟨#[]⟩]], .t true]), (⟨#[119, 49, 97, 119]⟩, [.l [[.s ⟨#[119, 49, 97, 119]⟩, .s ⟨#[119, 49]⟩, .s ⟨#[97, 119]⟩, .i 0, .s ⟨#[]⟩]], .t true]), (⟨#[110, 49, 109, 109]⟩, [.l [[.s ⟨#[110, 49, 109, 109]⟩, .s ⟨#[110, 49]⟩, .s ⟨#[109, 109]⟩, .i 0, .s ⟨#[]⟩]], .t true]), (⟨#[103, 51, 120, 121, 122, 47, 112]⟩, [.l [[.s ⟨#[103, 51, 120, 121, 122]⟩, .s ⟨#[103, 51]⟩, .s ⟨#[120, 121, 122]⟩, .i 3, .s ⟨#[]⟩]], .t true])]
def F_pileref1_PartsOf (d : List G) : Option (List G) := lookS tab_pileref1_PartsOf (gi d 0).str
def s_pileref1_PartsOf : FSpec := ⟨177, [.s (.str)], [], [], [.s (.row KParts), .s (.bool)], [], [], [], F_pileref1_PartsOf⟩
theorem q0_pileref1_PartsOf : PCall P 177 [aS ⟨#[]⟩] (s_pileref1_PartsOf.out [.l [[.s ⟨#[]⟩, .s ⟨#[]⟩, .s ⟨#[]⟩, .i 0, .s ⟨#[]⟩]], .t false]) := fn_pure (L := noLoops) hm upileref1_PartsOf_233_ok [] (fun _ _ => noLoops_ok _ _ _) Tryz.func177 rfl (by kernel_rfl) (by kernel_rfl)
theorem q1_pileref1_PartsOf : PCall P 177 [aS ⟨#[107, 49]⟩] (s_pileref1_PartsOf.out [.l [[.s ⟨#[]⟩, .s ⟨#[]⟩, .s ⟨#[]⟩, .i 0, .s ⟨#[]⟩]], .t false]) := fn_pure (L := noLoops) hm upileref1_PartsOf_233_ok [] (fun _ _ => noLoops_ok _ _ _) Tryz.func177 rfl (by kernel_rfl) (by kernel_rfl)
theorem q2_pileref1_PartsOf : PCall P 177 [aS ⟨#[75, 49, 65, 66]⟩] (s_pileref1_PartsOf.out [.l [[.s ⟨#[]⟩, .s ⟨#[]⟩, .s ⟨#[]⟩, .i 0, .s ⟨#[]⟩]], .t false]) := fn_pure (L := noLoops) hm upileref1_PartsOf_233_ok [] (fun _ _ => noLoops_ok _ _ _) Tryz.func177 rfl (by kernel_rfl) (by kernel_rfl)
theorem q3_pileref1_PartsOf : PCall P 177 [aS ⟨#[107, 49, 97, 98, 47]⟩] (s_pileref1_PartsOf.out [.l [[.s ⟨#[]⟩, .s ⟨#[]⟩, .s ⟨#[]⟩, .i 0, .s ⟨#[]⟩]], .t false]) := fn_pure (L := noLoops) hm upileref1_PartsOf_233_ok [] (fun _ _ => noLoops_ok _ _ _) Tryz.func177 rfl (by kernel_rfl) (by kernel_rfl)
theorem q4_pileref1_PartsOf : PCall P 177 [aS ⟨#[49, 97]⟩] (s_pileref1_PartsOf.out [.l [[.s ⟨#[]⟩, .s ⟨#[]⟩, .s ⟨#[]⟩, .i 0, .s ⟨#[]⟩]], .t false]) := fn_pure (L := noLoops) hm upileref1_PartsOf_233_ok [] (fun _ _ => noLoops_ok _ _ _) Tryz.func177 rfl (by kernel_rfl) (by kernel_rfl)
theorem q5_pileref1_PartsOf : PCall P 177 [aS ⟨#[107, 49, 97, 98, 47, 109, 109, 47, 112]⟩] (s_pileref1_PartsOf.out [.l [[.s ⟨#[]⟩, .s ⟨#[]⟩, .s ⟨#[]⟩, .i 0, .s ⟨#[]⟩]], .t false]) := fn_pure (L := noLoops) hm upileref1_PartsOf_233_ok [] (fun _ _ => noLoops_ok _ _ _) Tryz.func177 rfl (by kernel_rfl) (by kernel_rfl)
theorem q6_pileref1_PartsOf : PCall P 177 [aS ⟨#[107, 49, 97, 98]⟩] (s_pileref1_PartsOf.out [.l [[.s ⟨#[107, 49, 97, 98]⟩, .s ⟨#[107, 49]⟩, .s ⟨#[97, 98]⟩, .i 0, .s ⟨#[]⟩]], .t true]) := fn_pure (L := noLoops) hm upileref1_PartsOf_233_ok [] (fun _ _ => noLoops_ok _ _ _) Tryz.func177 rfl (by kernel_rfl) (by kernel_rfl)
theorem q7_pileref1_PartsOf : PCall P 177 [aS ⟨#[107, 49, 97, 97]⟩] (s_pileref1_PartsOf.out [.l [[.s ⟨#[107, 49, 97, 97]⟩, .s ⟨#[107, 49]⟩, .s ⟨#[97, 97]⟩, .i 0, .s ⟨#[]⟩]], .t true]) := fn_pure (L := noLoops) hm upileref1_PartsOf_233_ok [] (fun _ _ => noLoops_ok _ _ _) Tryz.func177 rfl (by kernel_rfl) (by kernel_rfl)
theorem q8_pileref1_PartsOf : PCall P 177 [aS ⟨#[107, 49, 97, 98, 47, 52]⟩] (s_pileref1_PartsOf.out [.l [[.s ⟨#[107, 49, 97, 98]⟩, .s ⟨#[107, 49]⟩, .s ⟨#[97, 98]⟩, .i 2, .s ⟨#[52]⟩]], .t true]) := fn_pure (L := noLoops) hm upileref1_PartsOf_233_ok [] (fun _ _ => noLoops_ok _ _ _) Tryz.func177 rfl (by kernel_rfl) (by kernel_rfl)
theorem q9_pileref1_PartsOf : PCall P 177 [aS ⟨#[111, 104, 50, 97, 98, 99]⟩] (s_pileref1_PartsOf.out [.l [[.s ⟨#[111, 104, 50, 97, 98, 99]⟩, .s ⟨#[111, 104, 50]⟩, .s ⟨#[97, 98, 99]⟩, .i 0, .s ⟨#[]⟩]], .t true]) := fn_pure (L := noLoops) hm upileref1_PartsOf_233_ok [] (fun _ _ => noLoops_ok _ _ _) Tryz.func177 rfl (by kernel_rfl) (by kernel_rfl)
theorem q10_pileref1_PartsOf : PCall P 177 [aS ⟨#[111, 104, 50, 97, 98, 100]⟩] (s_pileref1_PartsOf.out [.l [[.s ⟨#[111, 104, 50, 97, 98, 100]⟩, .s ⟨#[111, 104, 50]⟩, .s ⟨#[97, 98, 100]⟩, .i 0, .s ⟨#[]⟩]], .t true]) := fn_pure (L := noLoops) hm upileref1_PartsOf_233_ok [] (fun _ _ => noLoops_ok _ _ _) Tryz.func177 rfl (by kernel_rfl) (by kernel_rfl)
theorem q11_pileref1_PartsOf : PCall P 177 [aS ⟨#[119, 49, 97, 119]⟩] (s_pileref1_PartsOf.out [.l [[.s ⟨#[119, 49, 97, 119]⟩, .s ⟨#[119, 49]⟩, .s ⟨#[97, 119]⟩, .i 0, .s ⟨#[]⟩]], .t true]) := fn_pure (L := noLoops) hm upileref1_PartsOf_233_ok [] (fun _ _ => noLoops_ok _ _ _) Tryz.func177 rfl (by kernel_rfl) (by kernel_rfl)
theorem q12_pileref1_PartsOf : PCall P 177 [aS ⟨#[110, 49, 109, 109]⟩] (s_pileref1_PartsOf.out [.l [[.s ⟨#[110, 49, 109, 109]⟩, .s ⟨#[110, 49]⟩, .s ⟨#[109, 109]⟩, .i 0, .s ⟨#[]⟩]], .t true]) := fn_pure (L := noLoops) hm upileref1_PartsOf_233_ok [] (fun _ _ => noLoops_ok _ _ _) Tryz.func177 rfl (by kernel_rfl) (by kernel_rfl)
theorem q13_pileref1_PartsOf : PCall P 177 [aS ⟨#[103, 51, 120, 121, 122, 47, 112]⟩] (s_pileref1_PartsOf.out [.l [[.s ⟨#[103, 51, 120, 121, 122]⟩, .s ⟨#[103, 51]⟩, .s ⟨#[120, 121, 122]⟩, .i 3, .s ⟨#[]⟩]], .t true]) := fn_pure (L := noLoops) hm upileref1_PartsOf_233_ok [] (fun _ _ => noLoops_ok _ _ _) Tryz.func177 rfl (by kernel_rfl) (by kernel_rfl)
theorem c_pileref1_PartsOf : ∀ d r, F_pileref1_PartsOf d = some r → ACallX P 177 (s_pileref1_PartsOf.args0 d) (denH (s_pileref1_PartsOf.H0 d)) (s_pileref1_PartsOf.out r) (denH (s_pileref1_PartsOf.H1 r)) := fun d r h => by
  have h := lookS_mem h
  have key : PCall P 177 [aS (gi d 0).str] (s_pileref1_PartsOf.out r) := by
    generalize (gi d 0).str = s at h
    simp only [tab_pileref1_PartsOf, List.mem_cons, List.not_mem_nil, or_false, Prod.mk.injEq] at h
    rcases h with ⟨rfl, rfl⟩ | ⟨rfl, rfl⟩ | ⟨rfl, rfl⟩ | ⟨rfl, rfl⟩ | ⟨rfl, rfl⟩ | ⟨rfl, rfl⟩ | ⟨rfl, rfl⟩ | ⟨rfl, rfl⟩ | ⟨rfl, rfl⟩ | ⟨rfl, rfl⟩ | ⟨rfl, rfl⟩ | ⟨rfl, rfl⟩ | ⟨rfl, rfl⟩ | ⟨rfl, rfl⟩
    · exact q0_pileref1_PartsOf
    · exact q1_pileref1_PartsOf
    · exact q2_pileref1_PartsOf
    · exact q3_pileref1_PartsOf
    · exact q4_pileref1_PartsOf
    · exact q5_pileref1_PartsOf
    · exact q6_pileref1_PartsOf
    · exact q7_pileref1_PartsOf
    · exact q8_pileref1_PartsOf
    · exact q9_pileref1_PartsOf
    · exact q10_pileref1_PartsOf
    · exact q11_pileref1_PartsOf
    · exact q12_pileref1_PartsOf
    · exact q13_pileref1_PartsOf
  exact key []
def t6 : Tab := t5.addP s_pileref1_PartsOf
theorem t6_ok : TabOK P t6 := t5_ok.addP (by kernel_rfl) (by kernel_rfl) c_pileref1_PartsOf
end
end Go.Proofs.SYtpfhjchbegdgdaaGreatDoor
