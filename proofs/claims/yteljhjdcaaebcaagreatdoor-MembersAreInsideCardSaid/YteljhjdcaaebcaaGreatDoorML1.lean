/-
  What is proved here: functions of the program as functions on data. No condition.
-/
import Derived.Test.YteljhjdcaaebcaaGreatDoorML0
set_option linter.unusedSimpArgs false
set_option linter.unusedVariables false
set_option linter.unusedSectionVars false
namespace Go.Proofs.SYteljhjdcaaebcaaGreatDoor
open Go Go.AL Go.Proofs
noncomputable section
def ucall_Parts_185 : Tab := t4.inline P 185 Tryz.f185 []
theorem ucall_Parts_185_ok : TabOK P ucall_Parts_185 := t4_ok.inline hm Tryz.func185 (by kernel_rfl) []
def ucall_Parts_213 : Tab := ucall_Parts_185.inline P 213 Tryz.f213 []
theorem ucall_Parts_213_ok : TabOK P ucall_Parts_213 := ucall_Parts_185_ok.inline hm Tryz.func213 (by kernel_rfl) []
def ucall_Parts_186 : Tab := ucall_Parts_213.inline P 186 Tryz.f186 []
theorem ucall_Parts_186_ok : TabOK P ucall_Parts_186 := ucall_Parts_213_ok.inline hm Tryz.func186 (by kernel_rfl) []
def ucall_Parts_154 : Tab := ucall_Parts_186.inline P 154 Tryz.f154 []
theorem ucall_Parts_154_ok : TabOK P ucall_Parts_154 := ucall_Parts_186_ok.inline hm Tryz.func154 (by kernel_rfl) []
def ucall_Parts_116 : Tab := ucall_Parts_154.inline P 116 Tryz.f116 []
theorem ucall_Parts_116_ok : TabOK P ucall_Parts_116 := ucall_Parts_154_ok.inline hm Tryz.func116 (by kernel_rfl) []
def ucall_Parts_81 : Tab := ucall_Parts_116.inline P 81 Tryz.f81 []
theorem ucall_Parts_81_ok : TabOK P ucall_Parts_81 := ucall_Parts_116_ok.inline hm Tryz.func81 (by kernel_rfl) []
def ucall_Parts_126 : Tab := ucall_Parts_81.inline P 126 Tryz.f126 []
theorem ucall_Parts_126_ok : TabOK P ucall_Parts_126 := ucall_Parts_81_ok.inline hm Tryz.func126 (by kernel_rfl) []
def ucall_Parts_187 : Tab := ucall_Parts_126.inline P 187 Tryz.f187 []
theorem ucall_Parts_187_ok : TabOK P ucall_Parts_187 := ucall_Parts_126_ok.inline hm Tryz.func187 (by kernel_rfl) []
def ucall_Parts_155 : Tab := ucall_Parts_187.inline P 155 Tryz.f155 []
theorem ucall_Parts_155_ok : TabOK P ucall_Parts_155 := ucall_Parts_187_ok.inline hm Tryz.func155 (by kernel_rfl) []
def ucall_Parts_156 : Tab := ucall_Parts_155.inline P 156 Tryz.f156 []
theorem ucall_Parts_156_ok : TabOK P ucall_Parts_156 := ucall_Parts_155_ok.inline hm Tryz.func156 (by kernel_rfl) []
def ucall_Parts_157 : Tab := ucall_Parts_156.inline P 157 Tryz.f157 []
theorem ucall_Parts_157_ok : TabOK P ucall_Parts_157 := ucall_Parts_156_ok.inline hm Tryz.func157 (by kernel_rfl) []
def ucall_Parts_189 : Tab := ucall_Parts_157.inline P 189 Tryz.f189 []
theorem ucall_Parts_189_ok : TabOK P ucall_Parts_189 := ucall_Parts_157_ok.inline hm Tryz.func189 (by kernel_rfl) []
def ucall_Parts_161 : Tab := ucall_Parts_189.inline P 161 Tryz.f161 []
theorem ucall_Parts_161_ok : TabOK P ucall_Parts_161 := ucall_Parts_189_ok.inline hm Tryz.func161 (by kernel_rfl) []
def ucall_Parts_188 : Tab := ucall_Parts_161.inline P 188 Tryz.f188 []
theorem ucall_Parts_188_ok : TabOK P ucall_Parts_188 := ucall_Parts_161_ok.inline hm Tryz.func188 (by kernel_rfl) []
def ucall_Parts_158 : Tab := ucall_Parts_188.inline P 158 Tryz.f158 []
theorem ucall_Parts_158_ok : TabOK P ucall_Parts_158 := ucall_Parts_188_ok.inline hm Tryz.func158 (by kernel_rfl) []
def ucall_Parts_117 : Tab := ucall_Parts_158.inline P 117 Tryz.f117 []
theorem ucall_Parts_117_ok : TabOK P ucall_Parts_117 := ucall_Parts_158_ok.inline hm Tryz.func117 (by kernel_rfl) []
def ucall_Parts_153 : Tab := ucall_Parts_117.inline P 153 Tryz.f153 []
theorem ucall_Parts_153_ok : TabOK P ucall_Parts_153 := ucall_Parts_117_ok.inline hm Tryz.func153 (by kernel_rfl) []
def ucall_Parts_183 : Tab := ucall_Parts_153.inline P 183 Tryz.f183 []
theorem ucall_Parts_183_ok : TabOK P ucall_Parts_183 := ucall_Parts_153_ok.inline hm Tryz.func183 (by kernel_rfl) []
def ucall_Parts_152 : Tab := ucall_Parts_183.inline P 152 Tryz.f152 []
theorem ucall_Parts_152_ok : TabOK P ucall_Parts_152 := ucall_Parts_183_ok.inline hm Tryz.func152 (by kernel_rfl) []
def ucall_Parts_151 : Tab := ucall_Parts_152.inline P 151 Tryz.f151 []
theorem ucall_Parts_151_ok : TabOK P ucall_Parts_151 := ucall_Parts_152_ok.inline hm Tryz.func151 (by kernel_rfl) []
def ucall_Parts_112 : Tab := ucall_Parts_151.inline P 112 Tryz.f112 []
theorem ucall_Parts_112_ok : TabOK P ucall_Parts_112 := ucall_Parts_151_ok.inline hm Tryz.func112 (by kernel_rfl) []
def ucall_Parts_113 : Tab := ucall_Parts_112.inline P 113 Tryz.f113 []
theorem ucall_Parts_113_ok : TabOK P ucall_Parts_113 := ucall_Parts_112_ok.inline hm Tryz.func113 (by kernel_rfl) []
def ucall_Parts_114 : Tab := ucall_Parts_113.inline P 114 Tryz.f114 []
theorem ucall_Parts_114_ok : TabOK P ucall_Parts_114 := ucall_Parts_113_ok.inline hm Tryz.func114 (by kernel_rfl) []
def tab_call_Parts : List (ByteArray × List G) := [(⟨#[]⟩, [.l [[.s ⟨#[]⟩, .s ⟨#[]⟩, .s ⟨#[]⟩, .i 0, .s ⟨#[]⟩]], .t false]), (⟨#[107, 49]⟩, [.l [[.s ⟨#[]⟩, .s ⟨#[]⟩, .s ⟨#[]⟩, .i 0, .s ⟨#[]⟩]], .t false]), (⟨#[75, 49, 65, 66]⟩, [.l [[.s ⟨#[]⟩, .s ⟨#[]⟩, .s ⟨#[]⟩, .i 0, .s ⟨#[]⟩]], .t false]), (⟨#[107, 49, 97, 98, 47]⟩, [.l [[.s ⟨#[]⟩, .s ⟨#[]⟩, .s ⟨#[]⟩, .i 0, .s ⟨#[]⟩]], .t false]), (⟨#[49, 97]⟩, [.l [[.s ⟨#[]⟩, .s ⟨#[]⟩, .s ⟨#[]⟩, .i 0, .s ⟨#[]⟩]], .t false]), (⟨#[107, 49, 97, 98, 47, 109, 109, 47, 112]⟩, [.l [[.s ⟨#[]⟩, .s ⟨#[]⟩, .s ⟨#[]⟩, .i 0, .s ⟨#[]⟩]], .t false]), (⟨#[107, 49, 97, 98]⟩, [.l [[.s ⟨#[107, 49, 97, 98]⟩, .s ⟨#[107, 49]⟩, .s ⟨#[97, 98]⟩, .i 0, .s ⟨#[]⟩]], .t true]), (⟨#[107, 49, 97, 97]⟩, [.l [[.s ⟨#[107, 49, 97, 97]⟩, .s ⟨#[107, 49]⟩, .s ⟨#[97, 97]⟩, .i 0, .s ⟨#[]⟩]], .t true]), (⟨#[107, 49, 97, 98, 47, 52]⟩, [.l [[.s ⟨#[107, 49, 97, 98]⟩, .s ⟨#[107, 49]⟩, .s ⟨#[97, 98]⟩, .i 2, .s ⟨#[52]⟩]], .t true]), (⟨#[111, 104, 50, 97, 98, 99]⟩, [.l [[.s ⟨#[111, 104, 50, 97, 98, 99]⟩, .s ⟨#[111, 104, 50]⟩, .s ⟨#[97, 98, 99]⟩, .i 0, .s ⟨#[]⟩]], .t true]), (⟨#[111, 104, 50, 97, 98, 100]⟩, [.l [[.s ⟨#[111, 104, 50, 97, 98, 100]⟩, .s ⟨#[111, 104, 50]⟩, .s ⟨#[97, 98, 100]⟩, .i 0, .s ⟨#[]⟩]], .t true]), (⟨#[119, 49, 97, 119]⟩, [.l [[.s ⟨#[119, 49, 97, 119]⟩, .s ⟨#[119, 49]⟩, .s ⟨#[97, 119]⟩, .i 0, .s ⟨#[]⟩]], .t true]), (⟨#[110, 49, 109, 109]⟩, [.l [[.s ⟨#[110, 49, 109, 109]⟩, .s ⟨#[110, 49]⟩, .s ⟨#[109, 109]⟩, .i 0, .s ⟨#[]⟩]], .t true]), (⟨#[103, 51, 120, 121, 122, 47, 112]⟩, [.l [[.s ⟨#[103, 51, 120, 121, 122]⟩, .s ⟨#[103, 51]⟩, .s ⟨#[120, 121, 122]⟩, .i 3, .s ⟨#[]⟩]], .t true]), (⟨#[107, 49, 97, 98, 47, 112]⟩, [.l [[.s ⟨#[107, 49, 97, 98]⟩, .s ⟨#[107, 49]⟩, .s ⟨#[97, 98]⟩, .i 3, .s ⟨#[]⟩]], .t true]), (⟨#[111, 104, 50, 97, 98, 99, 47, 112]⟩, [.l [[.s ⟨#[111, 104, 50, 97, 98, 99]⟩, .s ⟨#[111, 104, 50]⟩, .s ⟨#[97, 98, 99]⟩, .i 3, .s ⟨#[]⟩]], .t true]), (⟨#[111, 104, 50, 97, 98, 100, 47, 112]⟩, [.l [[.s ⟨#[111, 104, 50, 97, 98, 100]⟩, .s ⟨#[111, 104, 50]⟩, .s ⟨#[97, 98, 100]⟩, .i 3, .s ⟨#[]⟩]], .t true]), (⟨#[119, 49, 97, 119, 47, 112]⟩, [.l [[.s ⟨#[119, 49, 97, 119]⟩, .s ⟨#[119, 49]⟩, .s ⟨#[97, 119]⟩, .i 3, .s ⟨#[]⟩]], .t true])]
def F_call_Parts (d : List G) : Option (List G) := lookS tab_call_Parts (gi d 0).str
def s_call_Parts : FSpec := ⟨78, [.s (.str)], [], [], [.s (.row KParts), .s (.bool)], [], [], [], F_call_Parts⟩
theorem q0_call_Parts : PCall P 78 [aS ⟨#[]⟩] (s_call_Parts.out [.l [[.s ⟨#[]⟩, .s ⟨#[]⟩, .s ⟨#[]⟩, .i 0, .s ⟨#[]⟩]], .t false]) := fn_pure (L := noLoops) hm ucall_Parts_114_ok [] (fun _ _ => noLoops_ok _ _ _) Tryz.func78 rfl (by kernel_rfl) (by kernel_rfl)
theorem q1_call_Parts : PCall P 78 [aS ⟨#[107, 49]⟩] (s_call_Parts.out [.l [[.s ⟨#[]⟩, .s ⟨#[]⟩, .s ⟨#[]⟩, .i 0, .s ⟨#[]⟩]], .t false]) := fn_pure (L := noLoops) hm ucall_Parts_114_ok [] (fun _ _ => noLoops_ok _ _ _) Tryz.func78 rfl (by kernel_rfl) (by kernel_rfl)
theorem q2_call_Parts : PCall P 78 [aS ⟨#[75, 49, 65, 66]⟩] (s_call_Parts.out [.l [[.s ⟨#[]⟩, .s ⟨#[]⟩, .s ⟨#[]⟩, .i 0, .s ⟨#[]⟩]], .t false]) := fn_pure (L := noLoops) hm ucall_Parts_114_ok [] (fun _ _ => noLoops_ok _ _ _) Tryz.func78 rfl (by kernel_rfl) (by kernel_rfl)
theorem q3_call_Parts : PCall P 78 [aS ⟨#[107, 49, 97, 98, 47]⟩] (s_call_Parts.out [.l [[.s ⟨#[]⟩, .s ⟨#[]⟩, .s ⟨#[]⟩, .i 0, .s ⟨#[]⟩]], .t false]) := fn_pure (L := noLoops) hm ucall_Parts_114_ok [] (fun _ _ => noLoops_ok _ _ _) Tryz.func78 rfl (by kernel_rfl) (by kernel_rfl)
theorem q4_call_Parts : PCall P 78 [aS ⟨#[49, 97]⟩] (s_call_Parts.out [.l [[.s ⟨#[]⟩, .s ⟨#[]⟩, .s ⟨#[]⟩, .i 0, .s ⟨#[]⟩]], .t false]) := fn_pure (L := noLoops) hm ucall_Parts_114_ok [] (fun _ _ => noLoops_ok _ _ _) Tryz.func78 rfl (by kernel_rfl) (by kernel_rfl)
theorem q5_call_Parts : PCall P 78 [aS ⟨#[107, 49, 97, 98, 47, 109, 109, 47, 112]⟩] (s_call_Parts.out [.l [[.s ⟨#[]⟩, .s ⟨#[]⟩, .s ⟨#[]⟩, .i 0, .s ⟨#[]⟩]], .t false]) := fn_pure (L := noLoops) hm ucall_Parts_114_ok [] (fun _ _ => noLoops_ok _ _ _) Tryz.func78 rfl (by kernel_rfl) (by kernel_rfl)
theorem q6_call_Parts : PCall P 78 [aS ⟨#[107, 49, 97, 98]⟩] (s_call_Parts.out [.l [[.s ⟨#[107, 49, 97, 98]⟩, .s ⟨#[107, 49]⟩, .s ⟨#[97, 98]⟩, .i 0, .s ⟨#[]⟩]], .t true]) := fn_pure (L := noLoops) hm ucall_Parts_114_ok [] (fun _ _ => noLoops_ok _ _ _) Tryz.func78 rfl (by kernel_rfl) (by kernel_rfl)
theorem q7_call_Parts : PCall P 78 [aS ⟨#[107, 49, 97, 97]⟩] (s_call_Parts.out [.l [[.s ⟨#[107, 49, 97, 97]⟩, .s ⟨#[107, 49]⟩, .s ⟨#[97, 97]⟩, .i 0, .s ⟨#[]⟩]], .t true]) := fn_pure (L := noLoops) hm ucall_Parts_114_ok [] (fun _ _ => noLoops_ok _ _ _) Tryz.func78 rfl (by kernel_rfl) (by kernel_rfl)
theorem q8_call_Parts : PCall P 78 [aS ⟨#[107, 49, 97, 98, 47, 52]⟩] (s_call_Parts.out [.l [[.s ⟨#[107, 49, 97, 98]⟩, .s ⟨#[107, 49]⟩, .s ⟨#[97, 98]⟩, .i 2, .s ⟨#[52]⟩]], .t true]) := fn_pure (L := noLoops) hm ucall_Parts_114_ok [] (fun _ _ => noLoops_ok _ _ _) Tryz.func78 rfl (by kernel_rfl) (by kernel_rfl)
theorem q9_call_Parts : PCall P 78 [aS ⟨#[111, 104, 50, 97, 98, 99]⟩] (s_call_Parts.out [.l [[.s ⟨#[111, 104, 50, 97, 98, 99]⟩, .s ⟨#[111, 104, 50]⟩, .s ⟨#[97, 98, 99]⟩, .i 0, .s ⟨#[]⟩]], .t true]) := fn_pure (L := noLoops) hm ucall_Parts_114_ok [] (fun _ _ => noLoops_ok _ _ _) Tryz.func78 rfl (by kernel_rfl) (by kernel_rfl)
theorem q10_call_Parts : PCall P 78 [aS ⟨#[111, 104, 50, 97, 98, 100]⟩] (s_call_Parts.out [.l [[.s ⟨#[111, 104, 50, 97, 98, 100]⟩, .s ⟨#[111, 104, 50]⟩, .s ⟨#[97, 98, 100]⟩, .i 0, .s ⟨#[]⟩]], .t true]) := fn_pure (L := noLoops) hm ucall_Parts_114_ok [] (fun _ _ => noLoops_ok _ _ _) Tryz.func78 rfl (by kernel_rfl) (by kernel_rfl)
theorem q11_call_Parts : PCall P 78 [aS ⟨#[119, 49, 97, 119]⟩] (s_call_Parts.out [.l [[.s ⟨#[119, 49, 97, 119]⟩, .s ⟨#[119, 49]⟩, .s ⟨#[97, 119]⟩, .i 0, .s ⟨#[]⟩]], .t true]) := fn_pure (L := noLoops) hm ucall_Parts_114_ok [] (fun _ _ => noLoops_ok _ _ _) Tryz.func78 rfl (by kernel_rfl) (by kernel_rfl)
theorem q12_call_Parts : PCall P 78 [aS ⟨#[110, 49, 109, 109]⟩] (s_call_Parts.out [.l [[.s ⟨#[110, 49, 109, 109]⟩, .s ⟨#[110, 49]⟩, .s ⟨#[109, 109]⟩, .i 0, .s ⟨#[]⟩]], .t true]) := fn_pure (L := noLoops) hm ucall_Parts_114_ok [] (fun _ _ => noLoops_ok _ _ _) Tryz.func78 rfl (by kernel_rfl) (by kernel_rfl)
theorem q13_call_Parts : PCall P 78 [aS ⟨#[103, 51, 120, 121, 122, 47, 112]⟩] (s_call_Parts.out [.l [[.s ⟨#[103, 51, 120, 121, 122]⟩, .s ⟨#[103, 51]⟩, .s ⟨#[120, 121, 122]⟩, .i 3, .s ⟨#[]⟩]], .t true]) := fn_pure (L := noLoops) hm ucall_Parts_114_ok [] (fun _ _ => noLoops_ok _ _ _) Tryz.func78 rfl (by kernel_rfl) (by kernel_rfl)
theorem q14_call_Parts : PCall P 78 [aS ⟨#[107, 49, 97, 98, 47, 112]⟩] (s_call_Parts.out [.l [[.s ⟨#[107, 49, 97, 98]⟩, .s ⟨#[107, 49]⟩, .s ⟨#[97, 98]⟩, .i 3, .s ⟨#[]⟩]], .t true]) := fn_pure (L := noLoops) hm ucall_Parts_114_ok [] (fun _ _ => noLoops_ok _ _ _) Tryz.func78 rfl (by kernel_rfl) (by kernel_rfl)
theorem q15_call_Parts : PCall P 78 [aS ⟨#[111, 104, 50, 97, 98, 99, 47, 112]⟩] (s_call_Parts.out [.l [[.s ⟨#[111, 104, 50, 97, 98, 99]⟩, .s ⟨#[111, 104, 50]⟩, .s ⟨#[97, 98, 99]⟩, .i 3, .s ⟨#[]⟩]], .t true]) := fn_pure (L := noLoops) hm ucall_Parts_114_ok [] (fun _ _ => noLoops_ok _ _ _) Tryz.func78 rfl (by kernel_rfl) (by kernel_rfl)
theorem q16_call_Parts : PCall P 78 [aS ⟨#[111, 104, 50, 97, 98, 100, 47, 112]⟩] (s_call_Parts.out [.l [[.s ⟨#[111, 104, 50, 97, 98, 100]⟩, .s ⟨#[111, 104, 50]⟩, .s ⟨#[97, 98, 100]⟩, .i 3, .s ⟨#[]⟩]], .t true]) := fn_pure (L := noLoops) hm ucall_Parts_114_ok [] (fun _ _ => noLoops_ok _ _ _) Tryz.func78 rfl (by kernel_rfl) (by kernel_rfl)
theorem q17_call_Parts : PCall P 78 [aS ⟨#[119, 49, 97, 119, 47, 112]⟩] (s_call_Parts.out [.l [[.s ⟨#[119, 49, 97, 119]⟩, .s ⟨#[119, 49]⟩, .s ⟨#[97, 119]⟩, .i 3, .s ⟨#[]⟩]], .t true]) := fn_pure (L := noLoops) hm ucall_Parts_114_ok [] (fun _ _ => noLoops_ok _ _ _) Tryz.func78 rfl (by kernel_rfl) (by kernel_rfl)
theorem c_call_Parts : ∀ d r, F_call_Parts d = some r → ACallX P 78 (s_call_Parts.args0 d) (denH (s_call_Parts.H0 d)) (s_call_Parts.out r) (denH (s_call_Parts.H1 r)) := fun d r h => by
  have h := lookS_mem h
  have key : PCall P 78 [aS (gi d 0).str] (s_call_Parts.out r) := by
    generalize (gi d 0).str = s at h
    simp only [tab_call_Parts, List.mem_cons, List.not_mem_nil, or_false, Prod.mk.injEq] at h
    rcases h with ⟨rfl, rfl⟩ | ⟨rfl, rfl⟩ | ⟨rfl, rfl⟩ | ⟨rfl, rfl⟩ | ⟨rfl, rfl⟩ | ⟨rfl, rfl⟩ | ⟨rfl, rfl⟩ | ⟨rfl, rfl⟩ | ⟨rfl, rfl⟩ | ⟨rfl, rfl⟩ | ⟨rfl, rfl⟩ | ⟨rfl, rfl⟩ | ⟨rfl, rfl⟩ | ⟨rfl, rfl⟩ | ⟨rfl, rfl⟩ | ⟨rfl, rfl⟩ | ⟨rfl, rfl⟩ | ⟨rfl, rfl⟩
    · exact q0_call_Parts
    · exact q1_call_Parts
    · exact q2_call_Parts
    · exact q3_call_Parts
    · exact q4_call_Parts
    · exact q5_call_Parts
    · exact q6_call_Parts
    · exact q7_call_Parts
    · exact q8_call_Parts
    · exact q9_call_Parts
    · exact q10_call_Parts
    · exact q11_call_Parts
    · exact q12_call_Parts
    · exact q13_call_Parts
    · exact q14_call_Parts
    · exact q15_call_Parts
    · exact q16_call_Parts
    · exact q17_call_Parts
  exact key []
def t5 : Tab := t4.addP s_call_Parts
theorem t5_ok : TabOK P t5 := t4_ok.addP (by kernel_rfl) (by kernel_rfl) c_call_Parts
def upileref1_PartsOf_185 : Tab := t5.inline P 185 Tryz.f185 []
theorem upileref1_PartsOf_185_ok : TabOK P upileref1_PartsOf_185 := t5_ok.inline hm Tryz.func185 (by kernel_rfl) []
def upileref1_PartsOf_213 : Tab := upileref1_PartsOf_185.inline P 213 Tryz.f213 []
theorem upileref1_PartsOf_213_ok : TabOK P upileref1_PartsOf_213 := upileref1_PartsOf_185_ok.inline hm Tryz.func213 (by kernel_rfl) []
def upileref1_PartsOf_186 : Tab := upileref1_PartsOf_213.inline P 186 Tryz.f186 []
theorem upileref1_PartsOf_186_ok : TabOK P upileref1_PartsOf_186 := upileref1_PartsOf_213_ok.inline hm Tryz.func186 (by kernel_rfl) []
def upileref1_PartsOf_154 : Tab := upileref1_PartsOf_186.inline P 154 Tryz.f154 []
theorem upileref1_PartsOf_154_ok : TabOK P upileref1_PartsOf_154 := upileref1_PartsOf_186_ok.inline hm Tryz.func154 (by kernel_rfl) []
def upileref1_PartsOf_116 : Tab := upileref1_PartsOf_154.inline P 116 Tryz.f116 []
theorem upileref1_PartsOf_116_ok : TabOK P upileref1_PartsOf_116 := upileref1_PartsOf_154_ok.inline hm Tryz.func116 (by kernel_rfl) []
def upileref1_PartsOf_81 : Tab := upileref1_PartsOf_116.inline P 81 Tryz.f81 []
theorem upileref1_PartsOf_81_ok : TabOK P upileref1_PartsOf_81 := upileref1_PartsOf_116_ok.inline hm Tryz.func81 (by kernel_rfl) []
def upileref1_PartsOf_126 : Tab := upileref1_PartsOf_81.inline P 126 Tryz.f126 []
theorem upileref1_PartsOf_126_ok : TabOK P upileref1_PartsOf_126 := upileref1_PartsOf_81_ok.inline hm Tryz.func126 (by kernel_rfl) []
def upileref1_PartsOf_187 : Tab := upileref1_PartsOf_126.inline P 187 Tryz.f187 []
theorem upileref1_PartsOf_187_ok : TabOK P upileref1_PartsOf_187 := upileref1_PartsOf_126_ok.inline hm Tryz.func187 (by kernel_rfl) []
def upileref1_PartsOf_155 : Tab := upileref1_PartsOf_187.inline P 155 Tryz.f155 []
theorem upileref1_PartsOf_155_ok : TabOK P upileref1_PartsOf_155 := upileref1_PartsOf_187_ok.inline hm Tryz.func155 (by kernel_rfl) []
def upileref1_PartsOf_156 : Tab := upileref1_PartsOf_155.inline P 156 Tryz.f156 []
theorem upileref1_PartsOf_156_ok : TabOK P upileref1_PartsOf_156 := upileref1_PartsOf_155_ok.inline hm Tryz.func156 (by kernel_rfl) []
def upileref1_PartsOf_157 : Tab := upileref1_PartsOf_156.inline P 157 Tryz.f157 []
theorem upileref1_PartsOf_157_ok : TabOK P upileref1_PartsOf_157 := upileref1_PartsOf_156_ok.inline hm Tryz.func157 (by kernel_rfl) []
def upileref1_PartsOf_189 : Tab := upileref1_PartsOf_157.inline P 189 Tryz.f189 []
theorem upileref1_PartsOf_189_ok : TabOK P upileref1_PartsOf_189 := upileref1_PartsOf_157_ok.inline hm Tryz.func189 (by kernel_rfl) []
def upileref1_PartsOf_161 : Tab := upileref1_PartsOf_189.inline P 161 Tryz.f161 []
theorem upileref1_PartsOf_161_ok : TabOK P upileref1_PartsOf_161 := upileref1_PartsOf_189_ok.inline hm Tryz.func161 (by kernel_rfl) []
def upileref1_PartsOf_188 : Tab := upileref1_PartsOf_161.inline P 188 Tryz.f188 []
theorem upileref1_PartsOf_188_ok : TabOK P upileref1_PartsOf_188 := upileref1_PartsOf_161_ok.inline hm Tryz.func188 (by kernel_rfl) []
def upileref1_PartsOf_158 : Tab := upileref1_PartsOf_188.inline P 158 Tryz.f158 []
theorem upileref1_PartsOf_158_ok : TabOK P upileref1_PartsOf_158 := upileref1_PartsOf_188_ok.inline hm Tryz.func158 (by kernel_rfl) []
def upileref1_PartsOf_117 : Tab := upileref1_PartsOf_158.inline P 117 Tryz.f117 []
theorem upileref1_PartsOf_117_ok : TabOK P upileref1_PartsOf_117 := upileref1_PartsOf_158_ok.inline hm Tryz.func117 (by kernel_rfl) []
def upileref1_PartsOf_119 : Tab := upileref1_PartsOf_117.inline P 119 Tryz.f119 []
theorem upileref1_PartsOf_119_ok : TabOK P upileref1_PartsOf_119 := upileref1_PartsOf_117_ok.inline hm Tryz.func119 (by kernel_rfl) []
def upileref1_PartsOf_159 : Tab := upileref1_PartsOf_119.inline P 159 Tryz.f159 []
theorem upileref1_PartsOf_159_ok : TabOK P upileref1_PartsOf_159 := upileref1_PartsOf_119_ok.inline hm Tryz.func159 (by kernel_rfl) []
def upileref1_PartsOf_120 : Tab := upileref1_PartsOf_159.inline P 120 Tryz.f120 []
theorem upileref1_PartsOf_120_ok : TabOK P upileref1_PartsOf_120 := upileref1_PartsOf_159_ok.inline hm Tryz.func120 (by kernel_rfl) []
def upileref1_PartsOf_118 : Tab := upileref1_PartsOf_120.inline P 118 Tryz.f118 []
theorem upileref1_PartsOf_118_ok : TabOK P upileref1_PartsOf_118 := upileref1_PartsOf_120_ok.inline hm Tryz.func118 (by kernel_rfl) []
def upileref1_PartsOf_83 : Tab := upileref1_PartsOf_118.inline P 83 Tryz.f83 []
theorem upileref1_PartsOf_83_ok : TabOK P upileref1_PartsOf_83 := upileref1_PartsOf_118_ok.inline hm Tryz.func83 (by kernel_rfl) []
def upileref1_PartsOf_82 : Tab := upileref1_PartsOf_83.inline P 82 Tryz.f82 []
theorem upileref1_PartsOf_82_ok : TabOK P upileref1_PartsOf_82 := upileref1_PartsOf_83_ok.inline hm Tryz.func82 (by kernel_rfl) []
def upileref1_PartsOf_84 : Tab := upileref1_PartsOf_82.inline P 84 Tryz.f84 []
theorem upileref1_PartsOf_84_ok : TabOK P upileref1_PartsOf_84 := upileref1_PartsOf_82_ok.inline hm Tryz.func84 (by kernel_rfl) []
def upileref1_PartsOf_121 : Tab := upileref1_PartsOf_84.inline P 121 Tryz.f121 []
theorem upileref1_PartsOf_121_ok : TabOK P upileref1_PartsOf_121 := upileref1_PartsOf_84_ok.inline hm Tryz.func121 (by kernel_rfl) []
def upileref1_PartsOf_85 : Tab := upileref1_PartsOf_121.inline P 85 Tryz.f85 []
theorem upileref1_PartsOf_85_ok : TabOK P upileref1_PartsOf_85 := upileref1_PartsOf_121_ok.inline hm Tryz.func85 (by kernel_rfl) []
def tab_pileref1_PartsOf : List (ByteArray × List G) := [(⟨#[]⟩, [.l [[.s ⟨#[]⟩, .s ⟨#[]⟩, .s ⟨#[]⟩, .i 0, .s ⟨#[]⟩]], .t false]), (⟨#[107, 49]⟩, [.l [[.s ⟨#[]⟩, .s ⟨#[]⟩, .s ⟨#[]⟩, .i 0, .s ⟨#[]⟩]], .t false]), (⟨#[75, 49, 65, 66]⟩, [.l [[.s ⟨#[]⟩, .s ⟨#[]⟩, .s ⟨#[]⟩, .i 0, .s ⟨#[]⟩]], .t false]), (⟨#[107, 49, 97, 98, 47]⟩, [.l [[.s ⟨#[]⟩, .s ⟨#[]⟩, .s ⟨#[]⟩, .i 0, .s ⟨#[]⟩]], .t false]), (⟨#[49, 97]⟩, [.l [[.s ⟨#[]⟩, .s ⟨#[]⟩, .s ⟨#[]⟩, .i 0, .s ⟨#[]⟩]], .t false]), (⟨#[107, 49, 97, 98, 47, 109, 109, 47, 112]⟩, [.l [[.s ⟨#[]⟩, .s ⟨#[]⟩, .s ⟨#[]⟩, .i 0, .s ⟨#[]⟩]], .t false]), (⟨#[107, 49, 97, 98]⟩, [.l [[.s ⟨#[107, 49, 97, 98]⟩, .s ⟨#[107, 49]⟩, .s ⟨#[97, 98]⟩, .i 0, .s ⟨#[]⟩]], .t true]), (⟨#[107, 49, 97, 97]⟩, [.l [[.s ⟨#[107, 49, 97, 97]⟩, .s ⟨#[107, 49]⟩, .s ⟨#[97, 97]⟩, .i 0, .s ⟨#[]⟩]], .t true]), (⟨#[107, 49, 97, 98, 47, 52]⟩, [.l [[.s ⟨#[107, 49, 97, 98]⟩, .s ⟨#[107, 49]⟩, .s ⟨#[97, 98]⟩, .i 2, .s ⟨#[52]⟩]], .t true]), (⟨#[111, 104, 50, 97, 98, 99]⟩, [.l [[.s ⟨#[111, 104, 50, 97, 98, 99]⟩, .s ⟨#[111, 104, 50]⟩, .s ⟨#[97, 98, 99]⟩, .i 0, .s ⟨#[]⟩]], .t true]), (⟨#[111, 104, 50, 97, 98, 100]⟩, [.l [[.s ⟨#[111, 104, 50, 97, 98, 100]⟩, .s ⟨#[111, 104, 50]⟩, .s ⟨#[97, 98, 100]⟩, .i 0, .s ⟨#[]⟩]], .t true]), (⟨#[119, 49, 97, 119]⟩, [.l [[.s ⟨#[119, 49, 97, 119]⟩, .s ⟨#[119, 49]⟩, .s ⟨#[97, 119]⟩, .i 0, .s ⟨#[]⟩]], .t true]), (⟨#[110, 49, 109, 109]⟩, [.l [[.s ⟨#[110, 49, 109, 109]⟩, .s ⟨#[110, 49]⟩, .s ⟨#[109, 109]⟩, .i 0, .s ⟨#[]⟩]], .t true]), (⟨#[103, 51, 120, 121, 122, 47, 112]⟩, [.l [[.s ⟨#[103, 51, 120, 121, 122]⟩, .s ⟨#[103, 51]⟩, .s ⟨#[120, 121, 122]⟩, .i 3, .s ⟨#[]⟩]], .t true])]
def F_pileref1_PartsOf (d : List G) : Option (List G) := lookS tab_pileref1_PartsOf (gi d 0).str
def s_pileref1_PartsOf : FSpec := ⟨54, [.s (.str)], [], [], [.s (.row KParts), .s (.bool)], [], [], [], F_pileref1_PartsOf⟩
theorem q0_pileref1_PartsOf : PCall P 54 [aS ⟨#[]⟩] (s_pileref1_PartsOf.out [.l [[.s ⟨#[]⟩, .s ⟨#[]⟩, .s ⟨#[]⟩, .i 0, .s ⟨#[]⟩]], .t false]) := fn_pure (L := noLoops) hm upileref1_PartsOf_85_ok [] (fun _ _ => noLoops_ok _ _ _) Tryz.func54 rfl (by kernel_rfl) (by kernel_rfl)
theorem q1_pileref1_PartsOf : PCall P 54 [aS ⟨#[107, 49]⟩] (s_pileref1_PartsOf.out [.l [[.s ⟨#[]⟩, .s ⟨#[]⟩, .s ⟨#[]⟩, .i 0, .s ⟨#[]⟩]], .t false]) := fn_pure (L := noLoops) hm upileref1_PartsOf_85_ok [] (fun _ _ => noLoops_ok _ _ _) Tryz.func54 rfl (by kernel_rfl) (by kernel_rfl)
theorem q2_pileref1_PartsOf : PCall P 54 [aS ⟨#[75, 49, 65, 66]⟩] (s_pileref1_PartsOf.out [.l [[.s ⟨#[]⟩, .s ⟨#[]⟩, .s ⟨#[]⟩, .i 0, .s ⟨#[]⟩]], .t false]) := fn_pure (L := noLoops) hm upileref1_PartsOf_85_ok [] (fun _ _ => noLoops_ok _ _ _) Tryz.func54 rfl (by kernel_rfl) (by kernel_rfl)
theorem q3_pileref1_PartsOf : PCall P 54 [aS ⟨#[107, 49, 97, 98, 47]⟩] (s_pileref1_PartsOf.out [.l [[.s ⟨#[]⟩, .s ⟨#[]⟩, .s ⟨#[]⟩, .i 0, .s ⟨#[]⟩]], .t false]) := fn_pure (L := noLoops) hm upileref1_PartsOf_85_ok [] (fun _ _ => noLoops_ok _ _ _) Tryz.func54 rfl (by kernel_rfl) (by kernel_rfl)
theorem q4_pileref1_PartsOf : PCall P 54 [aS ⟨#[49, 97]⟩] (s_pileref1_PartsOf.out [.l [[.s ⟨#[]⟩, .s ⟨#[]⟩, .s ⟨#[]⟩, .i 0, .s ⟨#[]⟩]], .t false]) := fn_pure (L := noLoops) hm upileref1_PartsOf_85_ok [] (fun _ _ => noLoops_ok _ _ _) Tryz.func54 rfl (by kernel_rfl) (by kernel_rfl)
theorem q5_pileref1_PartsOf : PCall P 54 [aS ⟨#[107, 49, 97, 98, 47, 109, 109, 47, 112]⟩] (s_pileref1_PartsOf.out [.l [[.s ⟨#[]⟩, .s ⟨#[]⟩, .s ⟨#[]⟩, .i 0, .s ⟨#[]⟩]], .t false]) := fn_pure (L := noLoops) hm upileref1_PartsOf_85_ok [] (fun _ _ => noLoops_ok _ _ _) Tryz.func54 rfl (by kernel_rfl) (by kernel_rfl)
theorem q6_pileref1_PartsOf : PCall P 54 [aS ⟨#[107, 49, 97, 98]⟩] (s_pileref1_PartsOf.out [.l [[.s ⟨#[107, 49, 97, 98]⟩, .s ⟨#[107, 49]⟩, .s ⟨#[97, 98]⟩, .i 0, .s ⟨#[]⟩]], .t true]) := fn_pure (L := noLoops) hm upileref1_PartsOf_85_ok [] (fun _ _ => noLoops_ok _ _ _) Tryz.func54 rfl (by kernel_rfl) (by kernel_rfl)
theorem q7_pileref1_PartsOf : PCall P 54 [aS ⟨#[107, 49, 97, 97]⟩] (s_pileref1_PartsOf.out [.l [[.s ⟨#[107, 49, 97, 97]⟩, .s ⟨#[107, 49]⟩, .s ⟨#[97, 97]⟩, .i 0, .s ⟨#[]⟩]], .t true]) := fn_pure (L := noLoops) hm upileref1_PartsOf_85_ok [] (fun _ _ => noLoops_ok _ _ _) Tryz.func54 rfl (by kernel_rfl) (by kernel_rfl)
theorem q8_pileref1_PartsOf : PCall P 54 [aS ⟨#[107, 49, 97, 98, 47, 52]⟩] (s_pileref1_PartsOf.out [.l [[.s ⟨#[107, 49, 97, 98]⟩, .s ⟨#[107, 49]⟩, .s ⟨#[97, 98]⟩, .i 2, .s ⟨#[52]⟩]], .t true]) := fn_pure (L := noLoops) hm upileref1_PartsOf_85_ok [] (fun _ _ => noLoops_ok _ _ _) Tryz.func54 rfl (by kernel_rfl) (by kernel_rfl)
theorem q9_pileref1_PartsOf : PCall P 54 [aS ⟨#[111, 104, 50, 97, 98, 99]⟩] (s_pileref1_PartsOf.out [.l [[.s ⟨#[111, 104, 50, 97, 98, 99]⟩, .s ⟨#[111, 104, 50]⟩, .s ⟨#[97, 98, 99]⟩, .i 0, .s ⟨#[]⟩]], .t true]) := fn_pure (L := noLoops) hm upileref1_PartsOf_85_ok [] (fun _ _ => noLoops_ok _ _ _) Tryz.func54 rfl (by kernel_rfl) (by kernel_rfl)
theorem q10_pileref1_PartsOf : PCall P 54 [aS ⟨#[111, 104, 50, 97, 98, 100]⟩] (s_pileref1_PartsOf.out [.l [[.s ⟨#[111, 104, 50, 97, 98, 100]⟩, .s ⟨#[111, 104, 50]⟩, .s ⟨#[97, 98, 100]⟩, .i 0, .s ⟨#[]⟩]], .t true]) := fn_pure (L := noLoops) hm upileref1_PartsOf_85_ok [] (fun _ _ => noLoops_ok _ _ _) Tryz.func54 rfl (by kernel_rfl) (by kernel_rfl)
theorem q11_pileref1_PartsOf : PCall P 54 [aS ⟨#[119, 49, 97, 119]⟩] (s_pileref1_PartsOf.out [.l [[.s ⟨#[119, 49, 97, 119]⟩, .s ⟨#[119, 49]⟩, .s ⟨#[97, 119]⟩, .i 0, .s ⟨#[]⟩]], .t true]) := fn_pure (L := noLoops) hm upileref1_PartsOf_85_ok [] (fun _ _ => noLoops_ok _ _ _) Tryz.func54 rfl (by kernel_rfl) (by kernel_rfl)
theorem q12_pileref1_PartsOf : PCall P 54 [aS ⟨#[110, 49, 109, 109]⟩] (s_pileref1_PartsOf.out [.l [[.s ⟨#[110, 49, 109, 109]⟩, .s ⟨#[110, 49]⟩, .s ⟨#[109, 109]⟩, .i 0, .s ⟨#[]⟩]], .t true]) := fn_pure (L := noLoops) hm upileref1_PartsOf_85_ok [] (fun _ _ => noLoops_ok _ _ _) Tryz.func54 rfl (by kernel_rfl) (by kernel_rfl)
theorem q13_pileref1_PartsOf : PCall P 54 [aS ⟨#[103, 51, 120, 121, 122, 47, 112]⟩] (s_pileref1_PartsOf.out [.l [[.s ⟨#[103, 51, 120, 121, 122]⟩, .s ⟨#[103, 51]⟩, .s ⟨#[120, 121, 122]⟩, .i 3, .s ⟨#[]⟩]], .t true]) := fn_pure (L := noLoops) hm upileref1_PartsOf_85_ok [] (fun _ _ => noLoops_ok _ _ _) Tryz.func54 rfl (by kernel_rfl) (by kernel_rfl)
theorem c_pileref1_PartsOf : ∀ d r, F_pileref1_PartsOf d = some r → ACallX P 54 (s_pileref1_PartsOf.args0 d) (denH (s_pileref1_PartsOf.H0 d)) (s_pileref1_PartsOf.out r) (denH (s_pileref1_PartsOf.H1 r)) := fun d r h => by
  have h := lookS_mem h
  have key : PCall P 54 [aS (gi d 0).str] (s_pileref1_PartsOf.out r) := by
    generalize (gi d 0).str = s at h
    simp only [tab_pileref1_PartsOf, List.mem_cons, List.not_mem_nil, or_false, Prod.mk.injEq] at h
    rcases h with ⟨rfl, rfl⟩ | ⟨rfl, rfl⟩ | ⟨rfl, rfl⟩ | ⟨rfl, rfl⟩ | ⟨rfl, rfl⟩ | ⟨rfl, rfl⟩ | ⟨rfl, rfl⟩ | ⟨rfl, rfl⟩ | ⟨rfl, rfl⟩ | ⟨rfl, rfl⟩ | ⟨rfl, rfl⟩ | ⟨rfl, rfl⟩ | ⟨rfl, rfl⟩ | ⟨rfl, rfl⟩
    · exact q0_pileref1_PartsOf
    · exact q1_pileref1_PartsOf
    · exact q2_pileref1_PartsOf
    · exact q3_pileref1_PartsOf
    · exact q4_pileref1_PartsOf
    · exact q5_pileref1_PartsOf
    · exact q6_pileref1_PartsOf
    · exact q7_pileref1_PartsOf
    · exact q8_pileref1_PartsOf
    · exact q9_pileref1_PartsOf
    · exact q10_pileref1_PartsOf
    · exact q11_pileref1_PartsOf
    · exact q12_pileref1_PartsOf
    · exact q13_pileref1_PartsOf
  exact key []
def t6 : Tab := t5.addP s_pileref1_PartsOf
theorem t6_ok : TabOK P t6 := t5_ok.addP (by kernel_rfl) (by kernel_rfl) c_pileref1_PartsOf
end
end Go.Proofs.SYteljhjdcaaebcaaGreatDoor
