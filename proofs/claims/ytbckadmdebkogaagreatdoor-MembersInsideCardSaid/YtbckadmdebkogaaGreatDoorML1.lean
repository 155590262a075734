/-
  What is proved here: functions of the program as functions on data. No condition.
-/
import Derived.Test.YtbckadmdebkogaaGreatDoorML0
set_option linter.unusedSimpArgs false
set_option linter.unusedVariables false
set_option linter.unusedSectionVars false
namespace Go.Proofs.SYtbckadmdebkogaaGreatDoor
open Go Go.AL Go.Proofs
noncomputable section
def ucall_Parts_168 : Tab := t4.inline P 168 Tryz.f168 []
theorem ucall_Parts_168_ok : TabOK P ucall_Parts_168 := t4_ok.inline hm Tryz.func168 (by kernel_rfl) []
def ucall_Parts_206 : Tab := ucall_Parts_168.inline P 206 Tryz.f206 []
theorem ucall_Parts_206_ok : TabOK P ucall_Parts_206 := ucall_Parts_168_ok.inline hm Tryz.func206 (by kernel_rfl) []
def ucall_Parts_167 : Tab := ucall_Parts_206.inline P 167 Tryz.f167 []
theorem ucall_Parts_167_ok : TabOK P ucall_Parts_167 := ucall_Parts_206_ok.inline hm Tryz.func167 (by kernel_rfl) []
def ucall_Parts_135 : Tab := ucall_Parts_167.inline P 135 Tryz.f135 []
theorem ucall_Parts_135_ok : TabOK P ucall_Parts_135 := ucall_Parts_167_ok.inline hm Tryz.func135 (by kernel_rfl) []
def ucall_Parts_184 : Tab := ucall_Parts_135.inline P 184 Tryz.f184 []
theorem ucall_Parts_184_ok : TabOK P ucall_Parts_184 := ucall_Parts_135_ok.inline hm Tryz.func184 (by kernel_rfl) []
def ucall_Parts_213 : Tab := ucall_Parts_184.inline P 213 Tryz.f213 []
theorem ucall_Parts_213_ok : TabOK P ucall_Parts_213 := ucall_Parts_184_ok.inline hm Tryz.func213 (by kernel_rfl) []
def ucall_Parts_185 : Tab := ucall_Parts_213.inline P 185 Tryz.f185 []
theorem ucall_Parts_185_ok : TabOK P ucall_Parts_185 := ucall_Parts_213_ok.inline hm Tryz.func185 (by kernel_rfl) []
def ucall_Parts_214 : Tab := ucall_Parts_185.inline P 214 Tryz.f214 []
theorem ucall_Parts_214_ok : TabOK P ucall_Parts_214 := ucall_Parts_185_ok.inline hm Tryz.func214 (by kernel_rfl) []
def ucall_Parts_187 : Tab := ucall_Parts_214.inline P 187 Tryz.f187 []
theorem ucall_Parts_187_ok : TabOK P ucall_Parts_187 := ucall_Parts_214_ok.inline hm Tryz.func187 (by kernel_rfl) []
def ucall_Parts_222 : Tab := ucall_Parts_187.inline P 222 Tryz.f222 []
theorem ucall_Parts_222_ok : TabOK P ucall_Parts_222 := ucall_Parts_187_ok.inline hm Tryz.func222 (by kernel_rfl) []
def ucall_Parts_225 : Tab := ucall_Parts_222.inline P 225 Tryz.f225 []
theorem ucall_Parts_225_ok : TabOK P ucall_Parts_225 := ucall_Parts_222_ok.inline hm Tryz.func225 (by kernel_rfl) []
def ucall_Parts_210 : Tab := ucall_Parts_225.inline P 210 Tryz.f210 []
theorem ucall_Parts_210_ok : TabOK P ucall_Parts_210 := ucall_Parts_225_ok.inline hm Tryz.func210 (by kernel_rfl) []
def ucall_Parts_211 : Tab := ucall_Parts_210.inline P 211 Tryz.f211 []
theorem ucall_Parts_211_ok : TabOK P ucall_Parts_211 := ucall_Parts_210_ok.inline hm Tryz.func211 (by kernel_rfl) []
def ucall_Parts_178 : Tab := ucall_Parts_211.inline P 178 Tryz.f178 []
theorem ucall_Parts_178_ok : TabOK P ucall_Parts_178 := ucall_Parts_211_ok.inline hm Tryz.func178 (by kernel_rfl) []
def ucall_Parts_165 : Tab := ucall_Parts_178.inline P 165 Tryz.f165 []
theorem ucall_Parts_165_ok : TabOK P ucall_Parts_165 := ucall_Parts_178_ok.inline hm Tryz.func165 (by kernel_rfl) []
def ucall_Parts_118 : Tab := ucall_Parts_165.inline P 118 Tryz.f118 []
theorem ucall_Parts_118_ok : TabOK P ucall_Parts_118 := ucall_Parts_165_ok.inline hm Tryz.func118 (by kernel_rfl) []
def ucall_Parts_227 : Tab := ucall_Parts_118.inline P 227 Tryz.f227 []
theorem ucall_Parts_227_ok : TabOK P ucall_Parts_227 := ucall_Parts_118_ok.inline hm Tryz.func227 (by kernel_rfl) []
def ucall_Parts_223 : Tab := ucall_Parts_227.inline P 223 Tryz.f223 []
theorem ucall_Parts_223_ok : TabOK P ucall_Parts_223 := ucall_Parts_227_ok.inline hm Tryz.func223 (by kernel_rfl) []
def ucall_Parts_205 : Tab := ucall_Parts_223.inline P 205 Tryz.f205 []
theorem ucall_Parts_205_ok : TabOK P ucall_Parts_205 := ucall_Parts_223_ok.inline hm Tryz.func205 (by kernel_rfl) []
def ucall_Parts_166 : Tab := ucall_Parts_205.inline P 166 Tryz.f166 []
theorem ucall_Parts_166_ok : TabOK P ucall_Parts_166 := ucall_Parts_205_ok.inline hm Tryz.func166 (by kernel_rfl) []
def ucall_Parts_119 : Tab := ucall_Parts_166.inline P 119 Tryz.f119 []
theorem ucall_Parts_119_ok : TabOK P ucall_Parts_119 := ucall_Parts_166_ok.inline hm Tryz.func119 (by kernel_rfl) []
def ucall_Parts_120 : Tab := ucall_Parts_119.inline P 120 Tryz.f120 []
theorem ucall_Parts_120_ok : TabOK P ucall_Parts_120 := ucall_Parts_119_ok.inline hm Tryz.func120 (by kernel_rfl) []
def ucall_Parts_121 : Tab := ucall_Parts_120.inline P 121 Tryz.f121 []
theorem ucall_Parts_121_ok : TabOK P ucall_Parts_121 := ucall_Parts_120_ok.inline hm Tryz.func121 (by kernel_rfl) []
def tab_call_Parts : List (ByteArray × List G) := [(⟨#[]⟩, [.l [[.s ⟨#[]⟩, .s ⟨#[]⟩, .s ⟨#[]⟩, .i 0, .s ⟨#[]⟩]], .t false]), (⟨#[107, 49]⟩, [.l [[.s ⟨#[]⟩, .s ⟨#[]⟩, .s ⟨#[]⟩, .i 0, .s ⟨#[]⟩]], .t false]), (⟨#[75, 49, 65, 66]⟩, [.l [[.s ⟨#[]⟩, .s ⟨#[]⟩, .s ⟨#[]⟩, .i 0, .s ⟨#[]⟩]], .t false]), (⟨#[107, 49, 97, 98, 47]⟩, [.l [[.s ⟨#[]⟩, .s ⟨#[]⟩, .s ⟨#[]⟩, .i 0, .s ⟨#[]⟩]], .t false]), (⟨#[49, 97]⟩, [.l [[.s ⟨#[]⟩, .s ⟨#[]⟩, .s ⟨#[]⟩, .i 0, .s ⟨#[]⟩]], .t false]), (⟨#[107, 49, 97, 98, 47, 109, 109, 47, 112]⟩, [.l [[.s ⟨#[]⟩, .s ⟨#[]⟩, .s ⟨#[]⟩, .i 0, .s ⟨#[]⟩]], .t false]), (⟨#[107, 49, 97, 98]⟩, [.l [[.s ⟨#[107, 49, 97, 98]⟩, .s ⟨#[107, 49]⟩, .s ⟨#[97, 98]⟩, .i 0, .s ⟨#[]⟩]], .t true]), (⟨#[107, 49, 97, 97]⟩, [.l [[.s ⟨#[107, 49, 97, 97]⟩, .s ⟨#[107, 49]⟩, .s ⟨#[97, 97]⟩, .i 0, .s ⟨#[]⟩]], .t true]), (⟨#[107, 49, 97, 98, 47, 52]⟩, [.l [[.s ⟨#[107, 49, 97, 98]⟩, .s ⟨#[107, 49]⟩, .s ⟨#[97, 98]⟩, .i 2, .s ⟨#[52]⟩]], .t true]), (⟨#[111, 104, 50, 97, 98, 99]⟩, [.l [[.s ⟨#[111, 104, 50, 97, 98, 99]⟩, .s ⟨#[111, 104, 50]⟩, .s ⟨#[97, 98, 99]⟩, .i 0, .s ⟨#[]⟩]], .t true]), (⟨#[111, 104, 50, 97, 98, 100]⟩, [.l [[.s ⟨#[111, 104, 50, 97, 98, 100]⟩, .s ⟨#[111, 104, 50]⟩, .s ⟨#[97, 98, 100]⟩, .i 0, .s ⟨#[]⟩]], .t true]), (⟨#[119, 49, 97, 119]⟩, [.l [[.s ⟨#[119, 49, 97, 119]⟩, .s ⟨#[119, 49]⟩, .s ⟨#[97, 119]⟩, .i 0, .s ⟨#[]⟩]], .t true]), (⟨#[110, 49, 109, 109]⟩, [.l [[.s ⟨#[110, 49, 109, 109]⟩, .s ⟨#[110, 49]⟩, .s ⟨#[109, 109]⟩, .i 0, .s ⟨#[]⟩]], .t true]), (⟨#[103, 51, 120, 121, 122, 47, 112]⟩, [.l [[.s ⟨#[103, 51, 120, 121, 122]⟩, .s ⟨#[103, 51]⟩, .s ⟨#[120, 121, 122]⟩, .i 3, .s ⟨#[]⟩]], .t true])]
def F_call_Parts (d : List G) : Option (List G) := lookS tab_call_Parts (gi d 0).str
def s_call_Parts : FSpec := ⟨89, [.s (.str)], [], [], [.s (.row KParts), .s (.bool)], [], [], [], F_call_Parts⟩
theorem q0_call_Parts : PCall P 89 [aS ⟨#[]⟩] (s_call_Parts.out [.l [[.s ⟨#[]⟩, .s ⟨#[]⟩, .s ⟨#[]⟩, .i 0, .s ⟨#[]⟩]], .t false]) := fn_pure (L := noLoops) hm ucall_Parts_121_ok [] (fun _ _ => noLoops_ok _ _ _) Tryz.func89 rfl (by kernel_rfl) (by kernel_rfl)
theorem q1_call_Parts : PCall P 89 [aS ⟨#[107, 49]⟩] (s_call_Parts.out [.l [[.s ⟨#[]⟩, .s ⟨#[]⟩, .s ⟨#[]⟩, .i 0, .s ⟨#[]⟩]], .t false]) := fn_pure (L := noLoops) hm ucall_Parts_121_ok [] (fun _ _ => noLoops_ok _ _ _) Tryz.func89 rfl (by kernel_rfl) (by kernel_rfl)
theorem q2_call_Parts : PCall P 89 [aS ⟨#[75, 49, 65, 66]⟩] (s_call_Parts.out [.l [[.s ⟨#[]⟩, .s ⟨#[]⟩, .s ⟨#[]⟩, .i 0, .s ⟨#[]⟩]], .t false]) := fn_pure (L := noLoops) hm ucall_Parts_121_ok [] (fun _ _ => noLoops_ok _ _ _) Tryz.func89 rfl (by kernel_rfl) (by kernel_rfl)
theorem q3_call_Parts : PCall P 89 [aS ⟨#[107, 49, 97, 98, 47]⟩] (s_call_Parts.out [.l [[.s ⟨#[]⟩, .s ⟨#[]⟩, .s ⟨#[]⟩, .i 0, .s ⟨#[]⟩]], .t false]) := fn_pure (L := noLoops) hm ucall_Parts_121_ok [] (fun _ _ => noLoops_ok _ _ _) Tryz.func89 rfl (by kernel_rfl) (by kernel_rfl)
theorem q4_call_Parts : PCall P 89 [aS ⟨#[49, 97]⟩] (s_call_Parts.out [.l [[.s ⟨#[]⟩, .s ⟨#[]⟩, .s ⟨#[]⟩, .i 0, .s ⟨#[]⟩]], .t false]) := fn_pure (L := noLoops) hm ucall_Parts_121_ok [] (fun _ _ => noLoops_ok _ _ _) Tryz.func89 rfl (by kernel_rfl) (by kernel_rfl)
theorem q5_call_Parts : PCall P 89 [aS ⟨#[107, 49, 97, 98, 47, 109, 109, 47, 112]⟩] (s_call_Parts.out [.l [[.s ⟨#[]⟩, .s ⟨#[]⟩, .s ⟨#[]⟩, .i 0, .s ⟨#[]⟩]], .t false]) := fn_pure (L := noLoops) hm ucall_Parts_121_ok [] (fun _ _ => noLoops_ok _ _ _) Tryz.func89 rfl (by kernel_rfl) (by kernel_rfl)
theorem q6_call_Parts : PCall P 89 [aS ⟨#[107, 49, 97, 98]⟩] (s_call_Parts.out [.l [[.s ⟨#[107, 49, 97, 98]⟩, .s ⟨#[107, 49]⟩, .s ⟨#[97, 98]⟩, .i 0, .s ⟨#[]⟩]], .t true]) := fn_pure (L := noLoops) hm ucall_Parts_121_ok [] (fun _ _ => noLoops_ok _ _ _) Tryz.func89 rfl (by kernel_rfl) (by kernel_rfl)
theorem q7_call_Parts : PCall P 89 [aS ⟨#[107, 49, 97, 97]⟩] (s_call_Parts.out [.l [[.s ⟨#[107, 49, 97, 97]⟩, .s ⟨#[107, 49]⟩, .s ⟨#[97, 97]⟩, .i 0, .s ⟨#[]⟩]], .t true]) := fn_pure (L := noLoops) hm ucall_Parts_121_ok [] (fun _ _ => noLoops_ok _ _ _) Tryz.func89 rfl (by kernel_rfl) (by kernel_rfl)
theorem q8_call_Parts : PCall P 89 [aS ⟨#[107, 49, 97, 98, 47, 52]⟩] (s_call_Parts.out [.l [[.s ⟨#[107, 49, 97, 98]⟩, .s ⟨#[107, 49]⟩, .s ⟨#[97, 98]⟩, .i 2, .s ⟨#[52]⟩]], .t true]) := fn_pure (L := noLoops) hm ucall_Parts_121_ok [] (fun _ _ => noLoops_ok _ _ _) Tryz.func89 rfl (by kernel_rfl) (by kernel_rfl)
theorem q9_call_Parts : PCall P 89 [aS ⟨#[111, 104, 50, 97, 98, 99]⟩] (s_call_Parts.out [.l [[.s ⟨#[111, 104, 50, 97, 98, 99]⟩, .s ⟨#[111, 104, 50]⟩, .s ⟨#[97, 98, 99]⟩, .i 0, .s ⟨#[]⟩]], .t true]) := fn_pure (L := noLoops) hm ucall_Parts_121_ok [] (fun _ _ => noLoops_ok _ _ _) Tryz.func89 rfl (by kernel_rfl) (by kernel_rfl)
theorem q10_call_Parts : PCall P 89 [aS ⟨#[111, 104, 50, 97, 98, 100]⟩] (s_call_Parts.out [.l [[.s ⟨#[111, 104, 50, 97, 98, 100]⟩, .s ⟨#[111, 104, 50]⟩, .s ⟨#[97, 98, 100]⟩, .i 0, .s ⟨#[]⟩]], .t true]) := fn_pure (L := noLoops) hm ucall_Parts_121_ok [] (fun _ _ => noLoops_ok _ _ _) Tryz.func89 rfl (by kernel_rfl) (by kernel_rfl)
theorem q11_call_Parts : PCall P 89 [aS ⟨#[119, 49, 97, 119]⟩] (s_call_Parts.out [.l [[.s ⟨#[119, 49, 97, 119]⟩, .s ⟨#[119, 49]⟩, .s ⟨#[97, 119]⟩, .i 0, .s ⟨#[]⟩]], .t true]) := fn_pure (L := noLoops) hm ucall_Parts_121_ok [] (fun _ _ => noLoops_ok _ _ _) Tryz.func89 rfl (by kernel_rfl) (by kernel_rfl)
theorem q12_call_Parts : PCall P 89 [aS ⟨#[110, 49, 109, 109]⟩] (s_call_Parts.out [.l [[.s ⟨#[110, 49, 109, 109]⟩, .s ⟨#[110, 49]⟩, .s ⟨#[109, 109]⟩, .i 0, .s ⟨#[]⟩]], .t true]) := fn_pure (L := noLoops) hm ucall_Parts_121_ok [] (fun _ _ => noLoops_ok _ _ _) Tryz.func89 rfl (by kernel_rfl) (by kernel_rfl)
theorem q13_call_Parts : PCall P 89 [aS ⟨#[103, 51, 120, 121, 122, 47, 112]⟩] (s_call_Parts.out [.l [[.s ⟨#[103, 51, 120, 121, 122]⟩, .s ⟨#[103, 51]⟩, .s ⟨#[120, 121, 122]⟩, .i 3, .s ⟨#[]⟩]], .t true]) := fn_pure (L := noLoops) hm ucall_Parts_121_ok [] (fun _ _ => noLoops_ok _ _ _) Tryz.func89 rfl (by kernel_rfl) (by kernel_rfl)
theorem c_call_Parts : ∀ d r, F_call_Parts d = some r → ACallX P 89 (s_call_Parts.args0 d) (denH (s_call_Parts.H0 d)) (s_call_Parts.out r) (denH (s_call_Parts.H1 r)) := fun d r h => by
  have h := lookS_mem h
  have key : PCall P 89 [aS (gi d 0).str] (s_call_Parts.out r) := by
    generalize (gi d 0).str = s at h
    simp only [tab_call_Parts, List.mem_cons, List.not_mem_nil, or_false, Prod.mk.injEq] at h
    rcases h with ⟨rfl, rfl⟩ | ⟨rfl, rfl⟩ | ⟨rfl, rfl⟩ | ⟨rfl, rfl⟩ | ⟨rfl, rfl⟩ | ⟨rfl, rfl⟩ | ⟨rfl, rfl⟩ | ⟨rfl, rfl⟩ | ⟨rfl, rfl⟩ | ⟨rfl, rfl⟩ | ⟨rfl, rfl⟩ | ⟨rfl, rfl⟩ | ⟨rfl, rfl⟩ | ⟨rfl, rfl⟩
    · exact q0_call_Parts
    · exact q1_call_Parts
    · exact q2_call_Parts
    · exact q3_call_Parts
    · exact q4_call_Parts
    · exact q5_call_Parts
    · exact q6_call_Parts
    · exact q7_call_Parts
    · exact q8_call_Parts
    · exact q9_call_Parts
    · exact q10_call_Parts
    · exact q11_call_Parts
    · exact q12_call_Parts
    · exact q13_call_Parts
  exact key []
def t5 : Tab := t4.addP s_call_Parts
theorem t5_ok : TabOK P t5 := t4_ok.addP (by kernel_rfl) (by kernel_rfl) c_call_Parts
def upileref1_PartsOf_222 : Tab := t5.inline P 222 Tryz.f222 []
theorem upileref1_PartsOf_222_ok : TabOK P upileref1_PartsOf_222 := t5_ok.inline hm Tryz.func222 (by kernel_rfl) []
def upileref1_PartsOf_227 : Tab := upileref1_PartsOf_222.inline P 227 Tryz.f227 []
theorem upileref1_PartsOf_227_ok : TabOK P upileref1_PartsOf_227 := upileref1_PartsOf_222_ok.inline hm Tryz.func227 (by kernel_rfl) []
def upileref1_PartsOf_223 : Tab := upileref1_PartsOf_227.inline P 223 Tryz.f223 []
theorem upileref1_PartsOf_223_ok : TabOK P upileref1_PartsOf_223 := upileref1_PartsOf_227_ok.inline hm Tryz.func223 (by kernel_rfl) []
def upileref1_PartsOf_205 : Tab := upileref1_PartsOf_223.inline P 205 Tryz.f205 []
theorem upileref1_PartsOf_205_ok : TabOK P upileref1_PartsOf_205 := upileref1_PartsOf_223_ok.inline hm Tryz.func205 (by kernel_rfl) []
def upileref1_PartsOf_166 : Tab := upileref1_PartsOf_205.inline P 166 Tryz.f166 []
theorem upileref1_PartsOf_166_ok : TabOK P upileref1_PartsOf_166 := upileref1_PartsOf_205_ok.inline hm Tryz.func166 (by kernel_rfl) []
def upileref1_PartsOf_119 : Tab := upileref1_PartsOf_166.inline P 119 Tryz.f119 []
theorem upileref1_PartsOf_119_ok : TabOK P upileref1_PartsOf_119 := upileref1_PartsOf_166_ok.inline hm Tryz.func119 (by kernel_rfl) []
def upileref1_PartsOf_135 : Tab := upileref1_PartsOf_119.inline P 135 Tryz.f135 []
theorem upileref1_PartsOf_135_ok : TabOK P upileref1_PartsOf_135 := upileref1_PartsOf_119_ok.inline hm Tryz.func135 (by kernel_rfl) []
def upileref1_PartsOf_184 : Tab := upileref1_PartsOf_135.inline P 184 Tryz.f184 []
theorem upileref1_PartsOf_184_ok : TabOK P upileref1_PartsOf_184 := upileref1_PartsOf_135_ok.inline hm Tryz.func184 (by kernel_rfl) []
def upileref1_PartsOf_213 : Tab := upileref1_PartsOf_184.inline P 213 Tryz.f213 []
theorem upileref1_PartsOf_213_ok : TabOK P upileref1_PartsOf_213 := upileref1_PartsOf_184_ok.inline hm Tryz.func213 (by kernel_rfl) []
def upileref1_PartsOf_185 : Tab := upileref1_PartsOf_213.inline P 185 Tryz.f185 []
theorem upileref1_PartsOf_185_ok : TabOK P upileref1_PartsOf_185 := upileref1_PartsOf_213_ok.inline hm Tryz.func185 (by kernel_rfl) []
def upileref1_PartsOf_214 : Tab := upileref1_PartsOf_185.inline P 214 Tryz.f214 []
theorem upileref1_PartsOf_214_ok : TabOK P upileref1_PartsOf_214 := upileref1_PartsOf_185_ok.inline hm Tryz.func214 (by kernel_rfl) []
def upileref1_PartsOf_187 : Tab := upileref1_PartsOf_214.inline P 187 Tryz.f187 []
theorem upileref1_PartsOf_187_ok : TabOK P upileref1_PartsOf_187 := upileref1_PartsOf_214_ok.inline hm Tryz.func187 (by kernel_rfl) []
def upileref1_PartsOf_225 : Tab := upileref1_PartsOf_187.inline P 225 Tryz.f225 []
theorem upileref1_PartsOf_225_ok : TabOK P upileref1_PartsOf_225 := upileref1_PartsOf_187_ok.inline hm Tryz.func225 (by kernel_rfl) []
def upileref1_PartsOf_210 : Tab := upileref1_PartsOf_225.inline P 210 Tryz.f210 []
theorem upileref1_PartsOf_210_ok : TabOK P upileref1_PartsOf_210 := upileref1_PartsOf_225_ok.inline hm Tryz.func210 (by kernel_rfl) []
def upileref1_PartsOf_211 : Tab := upileref1_PartsOf_210.inline P 211 Tryz.f211 []
theorem upileref1_PartsOf_211_ok : TabOK P upileref1_PartsOf_211 := upileref1_PartsOf_210_ok.inline hm Tryz.func211 (by kernel_rfl) []
def upileref1_PartsOf_178 : Tab := upileref1_PartsOf_211.inline P 178 Tryz.f178 []
theorem upileref1_PartsOf_178_ok : TabOK P upileref1_PartsOf_178 := upileref1_PartsOf_211_ok.inline hm Tryz.func178 (by kernel_rfl) []
def upileref1_PartsOf_180 : Tab := upileref1_PartsOf_178.inline P 180 Tryz.f180 []
theorem upileref1_PartsOf_180_ok : TabOK P upileref1_PartsOf_180 := upileref1_PartsOf_178_ok.inline hm Tryz.func180 (by kernel_rfl) []
def upileref1_PartsOf_212 : Tab := upileref1_PartsOf_180.inline P 212 Tryz.f212 []
theorem upileref1_PartsOf_212_ok : TabOK P upileref1_PartsOf_212 := upileref1_PartsOf_180_ok.inline hm Tryz.func212 (by kernel_rfl) []
def upileref1_PartsOf_181 : Tab := upileref1_PartsOf_212.inline P 181 Tryz.f181 []
theorem upileref1_PartsOf_181_ok : TabOK P upileref1_PartsOf_181 := upileref1_PartsOf_212_ok.inline hm Tryz.func181 (by kernel_rfl) []
def upileref1_PartsOf_179 : Tab := upileref1_PartsOf_181.inline P 179 Tryz.f179 []
theorem upileref1_PartsOf_179_ok : TabOK P upileref1_PartsOf_179 := upileref1_PartsOf_181_ok.inline hm Tryz.func179 (by kernel_rfl) []
def upileref1_PartsOf_129 : Tab := upileref1_PartsOf_179.inline P 129 Tryz.f129 []
theorem upileref1_PartsOf_129_ok : TabOK P upileref1_PartsOf_129 := upileref1_PartsOf_179_ok.inline hm Tryz.func129 (by kernel_rfl) []
def upileref1_PartsOf_128 : Tab := upileref1_PartsOf_129.inline P 128 Tryz.f128 []
theorem upileref1_PartsOf_128_ok : TabOK P upileref1_PartsOf_128 := upileref1_PartsOf_129_ok.inline hm Tryz.func128 (by kernel_rfl) []
def upileref1_PartsOf_130 : Tab := upileref1_PartsOf_128.inline P 130 Tryz.f130 []
theorem upileref1_PartsOf_130_ok : TabOK P upileref1_PartsOf_130 := upileref1_PartsOf_128_ok.inline hm Tryz.func130 (by kernel_rfl) []
def upileref1_PartsOf_182 : Tab := upileref1_PartsOf_130.inline P 182 Tryz.f182 []
theorem upileref1_PartsOf_182_ok : TabOK P upileref1_PartsOf_182 := upileref1_PartsOf_130_ok.inline hm Tryz.func182 (by kernel_rfl) []
def upileref1_PartsOf_131 : Tab := upileref1_PartsOf_182.inline P 131 Tryz.f131 []
theorem upileref1_PartsOf_131_ok : TabOK P upileref1_PartsOf_131 := upileref1_PartsOf_182_ok.inline hm Tryz.func131 (by kernel_rfl) []
def tab_pileref1_PartsOf : List (ByteArray × List G) := [(⟨#[]⟩, [.l [[.s ⟨#[]⟩, .s ⟨#[]⟩, .s ⟨#[]⟩, .i 0, .s ⟨#[]⟩]], .t false]), (⟨#[107, 49]⟩, [.l [[.s ⟨#[]⟩, .s ⟨#[]⟩, .s ⟨#[]⟩, .i 0, .s ⟨#[]⟩]], .t false]), (⟨#[75, 49, 65, 66]⟩, [.l [[.s ⟨#[]⟩, .s ⟨#[]⟩, .s ⟨#[]⟩, .i 0, .s ⟨#[]⟩]], .t false]), (⟨#[107, 49, 97, 98, 47]⟩, [.l [[.s ⟨#[]⟩, .s ⟨#[]⟩, .s ⟨#[]⟩, .i 0, .s ⟨#[]⟩]], .t false]), (⟨#[49, 97]⟩, [.l [[.s ⟨#[]⟩, .s ⟨#[]⟩, .s ⟨#[]⟩, .i 0, .s ⟨#[]⟩]], .t false]), (⟨#[107, 49, 97, 98, 47, 109, 109, 47, 112]⟩, [.l [[.s ⟨#[]⟩, .s ⟨#[]⟩, .s ⟨#[]⟩, .i 0, .s ⟨#[]⟩]], .t false]), (⟨#[107, 49, 97, 98]⟩, [.l [[.s ⟨#[107, 49, 97, 98]⟩, .s ⟨#[107, 49]⟩, .s ⟨#[97, 98]⟩, .i 0, .s ⟨#[]⟩]], .t true]), (⟨#[107, 49, 97, 97]⟩, [.l [[.s ⟨#[107, 49, 97, 97]⟩, .s ⟨#[107, 49]⟩, .s ⟨#[97, 97]⟩, .i 0, .s ⟨#[]⟩]], .t true]), (⟨#[107, 49, 97, 98, 47, 52]⟩, [.l [[.s ⟨#[107, 49, 97, 98]⟩, .s ⟨#[107, 49]⟩, .s ⟨#[97, 98]⟩, .i 2, .s ⟨#[52]⟩]], .t true]), (⟨#[111, 104, 50, 97, 98, 99]⟩, [.l [[.s ⟨#[111, 104, 50, 97, 98, 99]⟩, .s ⟨#[111, 104, 50]⟩, .s ⟨#[97, 98, 99]⟩, .i 0, .s ⟨#[]⟩]], .t true]), (⟨#[111, 104, 50, 97, 98, 100]⟩, [.l [[.s ⟨#[111, 104, 50, 97, 98, 100]⟩, .s ⟨#[111, 104, 50]⟩, .s ⟨#[97, 98, 100]⟩, .i 0, .s ⟨#[]⟩]], .t true]), (⟨#[119, 49, 97, 119]⟩, [.l [[.s ⟨#[119, 49, 97, 119]⟩, .s ⟨#[119, 49]⟩, .s ⟨#[97, 119]⟩, .i 0, .s ⟨#[]⟩]], .t true]), (⟨#[110, 49, 109, 109]⟩, [.l [[.s ⟨#[110, 49, 109, 109]⟩, .s ⟨#[110, 49]⟩, .s ⟨#[109, 109]⟩, .i 0, .s ⟨#[]⟩]], .t true]), (⟨#[103, 51, 120, 121, 122, 47, 112]⟩, [.l [[.s ⟨#[103, 51, 120, 121, 122]⟩, .s ⟨#[103, 51]⟩, .s ⟨#[120, 121, 122]⟩, .i 3, .s ⟨#[]⟩]], .t true])]
def F_pileref1_PartsOf (d : List G) : Option (List G) := lookS tab_pileref1_PartsOf (gi d 0).str
def s_pileref1_PartsOf : FSpec := ⟨97, [.s (.str)], [], [], [.s (.row KParts), .s (.bool)], [], [], [], F_pileref1_PartsOf⟩
theorem q0_pileref1_PartsOf : PCall P 97 [aS ⟨#[]⟩] (s_pileref1_PartsOf.out [.l [[.s ⟨#[]⟩, .s ⟨#[]⟩, .s ⟨#[]⟩, .i 0, .s ⟨#[]⟩]], .t false]) := fn_pure (L := noLoops) hm upileref1_PartsOf_131_ok [] (fun _ _ => noLoops_ok _ _ _) Tryz.func97 rfl (by kernel_rfl) (by kernel_rfl)
theorem q1_pileref1_PartsOf : PCall P 97 [aS ⟨#[107, 49]⟩] (s_pileref1_PartsOf.out [.l [[.s ⟨#[]⟩, .s ⟨#[]⟩, .s ⟨#[]⟩, .i 0, .s ⟨#[]⟩]], .t false]) := fn_pure (L := noLoops) hm upileref1_PartsOf_131_ok [] (fun _ _ => noLoops_ok _ _ _) Tryz.func97 rfl (by kernel_rfl) (by kernel_rfl)
theorem q2_pileref1_PartsOf : PCall P 97 [aS ⟨#[75, 49, 65, 66]⟩] (s_pileref1_PartsOf.out [.l [[.s ⟨#[]⟩, .s ⟨#[]⟩, .s ⟨#[]⟩, .i 0, .s ⟨#[]⟩]], .t false]) := fn_pure (L := noLoops) hm upileref1_PartsOf_131_ok [] (fun _ _ => noLoops_ok _ _ _) Tryz.func97 rfl (by kernel_rfl) (by kernel_rfl)
theorem q3_pileref1_PartsOf : PCall P 97 [aS ⟨#[107, 49, 97, 98, 47]⟩] (s_pileref1_PartsOf.out [.l [[.s ⟨#[]⟩, .s ⟨#[]⟩, .s ⟨#[]⟩, .i 0, .s ⟨#[]⟩]], .t false]) := fn_pure (L := noLoops) hm upileref1_PartsOf_131_ok [] (fun _ _ => noLoops_ok _ _ _) Tryz.func97 rfl (by kernel_rfl) (by kernel_rfl)
theorem q4_pileref1_PartsOf : PCall P 97 [aS ⟨#[49, 97]⟩] (s_pileref1_PartsOf.out [.l [[.s ⟨#[]⟩, .s ⟨#[]⟩, .s ⟨#[]⟩, .i 0, .s ⟨#[]⟩]], .t false]) := fn_pure (L := noLoops) hm upileref1_PartsOf_131_ok [] (fun _ _ => noLoops_ok _ _ _) Tryz.func97 rfl (by kernel_rfl) (by kernel_rfl)
theorem q5_pileref1_PartsOf : PCall P 97 [aS ⟨#[107, 49, 97, 98, 47, 109, 109, 47, 112]⟩] (s_pileref1_PartsOf.out [.l [[.s ⟨#[]⟩, .s ⟨#[]⟩, .s ⟨#[]⟩, .i 0, .s ⟨#[]⟩]], .t false]) := fn_pure (L := noLoops) hm upileref1_PartsOf_131_ok [] (fun _ _ => noLoops_ok _ _ _) Tryz.func97 rfl (by kernel_rfl) (by kernel_rfl)
theorem q6_pileref1_PartsOf : PCall P 97 [aS ⟨#[107, 49, 97, 98]⟩] (s_pileref1_PartsOf.out [.l [[.s ⟨#[107, 49, 97, 98]⟩, .s ⟨#[107, 49]⟩, .s ⟨#[97, 98]⟩, .i 0, .s ⟨#[]⟩]], .t true]) := fn_pure (L := noLoops) hm upileref1_PartsOf_131_ok [] (fun _ _ => noLoops_ok _ _ _) Tryz.func97 rfl (by kernel_rfl) (by kernel_rfl)
theorem q7_pileref1_PartsOf : PCall P 97 [aS ⟨#[107, 49, 97, 97]⟩] (s_pileref1_PartsOf.out [.l [[.s ⟨#[107, 49, 97, 97]⟩, .s ⟨#[107, 49]⟩, .s ⟨#[97, 97]⟩, .i 0, .s ⟨#[]⟩]], .t true]) := fn_pure (L := noLoops) hm upileref1_PartsOf_131_ok [] (fun _ _ => noLoops_ok _ _ _) Tryz.func97 rfl (by kernel_rfl) (by kernel_rfl)
theorem q8_pileref1_PartsOf : PCall P 97 [aS ⟨#[107, 49, 97, 98, 47, 52]⟩] (s_pileref1_PartsOf.out [.l [[.s ⟨#[107, 49, 97, 98]⟩, .s ⟨#[107, 49]⟩, .s ⟨#[97, 98]⟩, .i 2, .s ⟨#[52]⟩]], .t true]) := fn_pure (L := noLoops) hm upileref1_PartsOf_131_ok [] (fun _ _ => noLoops_ok _ _ _) Tryz.func97 rfl (by kernel_rfl) (by kernel_rfl)
theorem q9_pileref1_PartsOf : PCall P 97 [aS ⟨#[111, 104, 50, 97, 98, 99]⟩] (s_pileref1_PartsOf.out [.l [[.s ⟨#[111, 104, 50, 97, 98, 99]⟩, .s ⟨#[111, 104, 50]⟩, .s ⟨#[97, 98, 99]⟩, .i 0, .s ⟨#[]⟩]], .t true]) := fn_pure (L := noLoops) hm upileref1_PartsOf_131_ok [] (fun _ _ => noLoops_ok _ _ _) Tryz.func97 rfl (by kernel_rfl) (by kernel_rfl)
theorem q10_pileref1_PartsOf : PCall P 97 [aS ⟨#[111, 104, 50, 97, 98, 100]⟩] (s_pileref1_PartsOf.out [.l [[.s ⟨#[111, 104, 50, 97, 98, 100]⟩, .s ⟨#[111, 104, 50]⟩, .s ⟨#[97, 98, 100]⟩, .i 0, .s ⟨#[]⟩]], .t true]) := fn_pure (L := noLoops) hm upileref1_PartsOf_131_ok [] (fun _ _ => noLoops_ok _ _ _) Tryz.func97 rfl (by kernel_rfl) (by kernel_rfl)
theorem q11_pileref1_PartsOf : PCall P 97 [aS ⟨#[119, 49, 97, 119]⟩] (s_pileref1_PartsOf.out [.l [[.s ⟨#[119, 49, 97, 119]⟩, .s ⟨#[119, 49]⟩, .s ⟨#[97, 119]⟩, .i 0, .s ⟨#[]⟩]], .t true]) := fn_pure (L := noLoops) hm upileref1_PartsOf_131_ok [] (fun _ _ => noLoops_ok _ _ _) Tryz.func97 rfl (by kernel_rfl) (by kernel_rfl)
theorem q12_pileref1_PartsOf : PCall P 97 [aS ⟨#[110, 49, 109, 109]⟩] (s_pileref1_PartsOf.out [.l [[.s ⟨#[110, 49, 109, 109]⟩, .s ⟨#[110, 49]⟩, .s ⟨#[109, 109]⟩, .i 0, .s ⟨#[]⟩]], .t true]) := fn_pure (L := noLoops) hm upileref1_PartsOf_131_ok [] (fun _ _ => noLoops_ok _ _ _) Tryz.func97 rfl (by kernel_rfl) (by kernel_rfl)
theorem q13_pileref1_PartsOf : PCall P 97 [aS ⟨#[103, 51, 120, 121, 122, 47, 112]⟩] (s_pileref1_PartsOf.out [.l [[.s ⟨#[103, 51, 120, 121, 122]⟩, .s ⟨#[103, 51]⟩, .s ⟨#[120, 121, 122]⟩, .i 3, .s ⟨#[]⟩]], .t true]) := fn_pure (L := noLoops) hm upileref1_PartsOf_131_ok [] (fun _ _ => noLoops_ok _ _ _) Tryz.func97 rfl (by kernel_rfl) (by kernel_rfl)
theorem c_pileref1_PartsOf : ∀ d r, F_pileref1_PartsOf d = some r → ACallX P 97 (s_pileref1_PartsOf.args0 d) (denH (s_pileref1_PartsOf.H0 d)) (s_pileref1_PartsOf.out r) (denH (s_pileref1_PartsOf.H1 r)) := fun d r h => by
  have h := lookS_mem h
  have key : PCall P 97 [aS (gi d 0).str] (s_pileref1_PartsOf.out r) := by
    generalize (gi d 0).str = s at h
    simp only [tab_pileref1_PartsOf, List.mem_cons, List.not_mem_nil, or_false, Prod.mk.injEq] at h
    rcases h with ⟨rfl, rfl⟩ | ⟨rfl, rfl⟩ | ⟨rfl, rfl⟩ | ⟨rfl, rfl⟩ | ⟨rfl, rfl⟩ | ⟨rfl, rfl⟩ | ⟨rfl, rfl⟩ | ⟨rfl, rfl⟩ | ⟨rfl, rfl⟩ | ⟨rfl, rfl⟩ | ⟨rfl, rfl⟩ | ⟨rfl, rfl⟩ | ⟨rfl, rfl⟩ | ⟨rfl, rfl⟩
    · exact q0_pileref1_PartsOf
    · exact q1_pileref1_PartsOf
    · exact q2_pileref1_PartsOf
    · exact q3_pileref1_PartsOf
    · exact q4_pileref1_PartsOf
    · exact q5_pileref1_PartsOf
    · exact q6_pileref1_PartsOf
    · exact q7_pileref1_PartsOf
    · exact q8_pileref1_PartsOf
    · exact q9_pileref1_PartsOf
    · exact q10_pileref1_PartsOf
    · exact q11_pileref1_PartsOf
    · exact q12_pileref1_PartsOf
    · exact q13_pileref1_PartsOf
  exact key []
def t6 : Tab := t5.addP s_pileref1_PartsOf
theorem t6_ok : TabOK P t6 := t5_ok.addP (by kernel_rfl) (by kernel_rfl) c_pileref1_PartsOf
end
end Go.Proofs.SYtbckadmdebkogaaGreatDoor
