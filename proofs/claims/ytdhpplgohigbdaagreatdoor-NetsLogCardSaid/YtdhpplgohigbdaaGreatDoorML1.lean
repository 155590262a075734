/-
 What is proved here: functions of the program as functions on data. No condition.
-/
import Derived.Test.YtdhpplgohigbdaaGreatDoorML0
set_option linter.all false
namespace Go.Proofs.SYtdhpplgohigbdaaGreatDoor
open Go Go.AL Go.Proofs
noncomputable section
def ucall_Parts_197 : Tab := t4.inline P 197 Tryz.f197 []
theorem ucall_Parts_197_ok : TabOK P ucall_Parts_197 := t4_ok.inline hm Tryz.func197 (by kernel_rfl) []
def ucall_Parts_202 : Tab := ucall_Parts_197.inline P 202 Tryz.f202 []
theorem ucall_Parts_202_ok : TabOK P ucall_Parts_202 := ucall_Parts_197_ok.inline hm Tryz.func202 (by kernel_rfl) []
def ucall_Parts_198 : Tab := ucall_Parts_202.inline P 198 Tryz.f198 []
theorem ucall_Parts_198_ok : TabOK P ucall_Parts_198 := ucall_Parts_202_ok.inline hm Tryz.func198 (by kernel_rfl) []
def ucall_Parts_181 : Tab := ucall_Parts_198.inline P 181 Tryz.f181 []
theorem ucall_Parts_181_ok : TabOK P ucall_Parts_181 := ucall_Parts_198_ok.inline hm Tryz.func181 (by kernel_rfl) []
def ucall_Parts_141 : Tab := ucall_Parts_181.inline P 141 Tryz.f141 []
theorem ucall_Parts_141_ok : TabOK P ucall_Parts_141 := ucall_Parts_181_ok.inline hm Tryz.func141 (by kernel_rfl) []
def ucall_Parts_100 : Tab := ucall_Parts_141.inline P 100 Tryz.f100 []
theorem ucall_Parts_100_ok : TabOK P ucall_Parts_100 := ucall_Parts_141_ok.inline hm Tryz.func100 (by kernel_rfl) []
def ucall_Parts_122 : Tab := ucall_Parts_100.inline P 122 Tryz.f122 []
theorem ucall_Parts_122_ok : TabOK P ucall_Parts_122 := ucall_Parts_100_ok.inline hm Tryz.func122 (by kernel_rfl) []
def ucall_Parts_168 : Tab := ucall_Parts_122.inline P 168 Tryz.f168 []
theorem ucall_Parts_168_ok : TabOK P ucall_Parts_168 := ucall_Parts_122_ok.inline hm Tryz.func168 (by kernel_rfl) []
def ucall_Parts_192 : Tab := ucall_Parts_168.inline P 192 Tryz.f192 []
theorem ucall_Parts_192_ok : TabOK P ucall_Parts_192 := ucall_Parts_168_ok.inline hm Tryz.func192 (by kernel_rfl) []
def ucall_Parts_169 : Tab := ucall_Parts_192.inline P 169 Tryz.f169 []
theorem ucall_Parts_169_ok : TabOK P ucall_Parts_169 := ucall_Parts_192_ok.inline hm Tryz.func169 (by kernel_rfl) []
def ucall_Parts_193 : Tab := ucall_Parts_169.inline P 193 Tryz.f193 []
theorem ucall_Parts_193_ok : TabOK P ucall_Parts_193 := ucall_Parts_169_ok.inline hm Tryz.func193 (by kernel_rfl) []
def ucall_Parts_171 : Tab := ucall_Parts_193.inline P 171 Tryz.f171 []
theorem ucall_Parts_171_ok : TabOK P ucall_Parts_171 := ucall_Parts_193_ok.inline hm Tryz.func171 (by kernel_rfl) []
def ucall_Parts_199 : Tab := ucall_Parts_171.inline P 199 Tryz.f199 []
theorem ucall_Parts_199_ok : TabOK P ucall_Parts_199 := ucall_Parts_171_ok.inline hm Tryz.func199 (by kernel_rfl) []
def ucall_Parts_182 : Tab := ucall_Parts_199.inline P 182 Tryz.f182 []
theorem ucall_Parts_182_ok : TabOK P ucall_Parts_182 := ucall_Parts_199_ok.inline hm Tryz.func182 (by kernel_rfl) []
def ucall_Parts_183 : Tab := ucall_Parts_182.inline P 183 Tryz.f183 []
theorem ucall_Parts_183_ok : TabOK P ucall_Parts_183 := ucall_Parts_182_ok.inline hm Tryz.func183 (by kernel_rfl) []
def ucall_Parts_142 : Tab := ucall_Parts_183.inline P 142 Tryz.f142 []
theorem ucall_Parts_142_ok : TabOK P ucall_Parts_142 := ucall_Parts_183_ok.inline hm Tryz.func142 (by kernel_rfl) []
def ucall_Parts_174 : Tab := ucall_Parts_142.inline P 174 Tryz.f174 []
theorem ucall_Parts_174_ok : TabOK P ucall_Parts_174 := ucall_Parts_142_ok.inline hm Tryz.func174 (by kernel_rfl) []
def ucall_Parts_194 : Tab := ucall_Parts_174.inline P 194 Tryz.f194 []
theorem ucall_Parts_194_ok : TabOK P ucall_Parts_194 := ucall_Parts_174_ok.inline hm Tryz.func194 (by kernel_rfl) []
def ucall_Parts_173 : Tab := ucall_Parts_194.inline P 173 Tryz.f173 []
theorem ucall_Parts_173_ok : TabOK P ucall_Parts_173 := ucall_Parts_194_ok.inline hm Tryz.func173 (by kernel_rfl) []
def ucall_Parts_172 : Tab := ucall_Parts_173.inline P 172 Tryz.f172 []
theorem ucall_Parts_172_ok : TabOK P ucall_Parts_172 := ucall_Parts_173_ok.inline hm Tryz.func172 (by kernel_rfl) []
def ucall_Parts_127 : Tab := ucall_Parts_172.inline P 127 Tryz.f127 []
theorem ucall_Parts_127_ok : TabOK P ucall_Parts_127 := ucall_Parts_172_ok.inline hm Tryz.func127 (by kernel_rfl) []
def ucall_Parts_128 : Tab := ucall_Parts_127.inline P 128 Tryz.f128 []
theorem ucall_Parts_128_ok : TabOK P ucall_Parts_128 := ucall_Parts_127_ok.inline hm Tryz.func128 (by kernel_rfl) []
def ucall_Parts_129 : Tab := ucall_Parts_128.inline P 129 Tryz.f129 []
theorem ucall_Parts_129_ok : TabOK P ucall_Parts_129 := ucall_Parts_128_ok.inline hm Tryz.func129 (by kernel_rfl) []
def tab_call_Parts : List (ByteArray × List G) := [(⟨#[]⟩, [.l [[.s ⟨#[]⟩, .s ⟨#[]⟩, .s ⟨#[]⟩, .i 0, .s ⟨#[]⟩]], .t false]), (⟨#[107, 49]⟩, [.l [[.s ⟨#[]⟩, .s ⟨#[]⟩, .s ⟨#[]⟩, .i 0, .s ⟨#[]⟩]], .t false]), (⟨#[75, 49, 65, 66]⟩, [.l [[.s ⟨#[]⟩, .s ⟨#[]⟩, .s ⟨#[]⟩, .i 0, .s ⟨#[]⟩]], .t false]), (⟨#[107, 49, 97, 98, 47]⟩, [.l [[.s ⟨#[]⟩, .s ⟨#[]⟩, .s ⟨#[]⟩, .i 0, .s ⟨#[]⟩]], .t false]), (⟨#[49, 97]⟩, [.l [[.s ⟨#[]⟩, .s ⟨#[]⟩, .s ⟨#[]⟩, .i 0, .s ⟨#[]⟩]], .t false]), (⟨#[107, 49, 97, 98, 47, 109, 109, 47, 112]⟩, [.l [[.s ⟨#[]⟩, .s ⟨#[]⟩, .s ⟨#[]⟩, .i 0, .s ⟨#[]⟩]], .t false]), (⟨#[107, 49, 97, 98]⟩, [.l [[.s ⟨#[107, 49, 97, 98]⟩, .s ⟨#[107, 49]⟩, .s ⟨#[97, 98]⟩, .i 0, .s ⟨#[]⟩]], .t true]), (⟨#[107, 49, 97, 97]⟩, [.l [[.s ⟨#[107, 49, 97, 97]⟩, .s ⟨#[107, 49]⟩, .s ⟨#[97, 97]⟩, .i 0, .s ⟨#[]⟩]], .t true]), (⟨#[107, 49, 97, 98, 47, 52]⟩, [.l [[.s ⟨#[107, 49, 97, 98]⟩, .s ⟨#[107, 49]⟩, .s ⟨#[97, 98]⟩, .i 2, .s ⟨#[52]⟩]], .t true]), (⟨#[111, 104, 50, 97, 98, 99]⟩, [.l [[.s ⟨#[111, 104, 50, 97, 98, 99]⟩, .s ⟨#[111, 104, 50]⟩, .s ⟨#[97, 98, 99]⟩, .i 0, .s ⟨#[]⟩]], .t true]), (⟨#[111, 104, 50, 97, 98, 100]⟩, [.l [[.s ⟨#[111, 104, 50, 97, 98, 100]⟩, .s ⟨#[111, 104, 50]⟩, .s ⟨#[97, 98, 100]⟩, .i 0, .s ⟨#[]⟩]], .t true]), (⟨#[119, 49, 97, 119]⟩, [.l [[.s ⟨#[119, 49, 97, 119]⟩, .s ⟨#[119, 49]⟩, .s ⟨#[97, 119]⟩, .i 0, .s ⟨#[]⟩]], .t true]), (⟨#[110, 49, 109, 109]⟩, [.l [[.s ⟨#[110, 49, 109, 109]⟩, .s ⟨#[110, 49]⟩, .s ⟨#[109, 109]⟩, .i 0, .s ⟨#[]⟩]], .t true]), (⟨#[103, 51, 120, 121, 122, 47, 112]⟩, [.l [[.s ⟨#[103, 51, 120, 121, 122]⟩, .s ⟨#[103, 51]⟩, .s ⟨#[120, 121, 122]⟩, .i 3, .s ⟨#[]⟩]], .t true])]
def F_call_Parts (d : List G) : Option (List G) := lookS tab_call_Parts (gi d 0).str
def s_call_Parts : FSpec := ⟨96, [.s (.str)], [], [], [.s (.row KParts), .s (.bool)], [], [], [], F_call_Parts⟩
theorem q0_call_Parts : PCall P 96 [aS ⟨#[]⟩] (s_call_Parts.out [.l [[.s ⟨#[]⟩, .s ⟨#[]⟩, .s ⟨#[]⟩, .i 0, .s ⟨#[]⟩]], .t false]) := fn_pure (L := nL0) hm ucall_Parts_129_ok [] (fun _ _ => nLk _ _ _) Tryz.func96 rfl (by kernel_rfl) (by kernel_rfl)
theorem q1_call_Parts : PCall P 96 [aS ⟨#[107, 49]⟩] (s_call_Parts.out [.l [[.s ⟨#[]⟩, .s ⟨#[]⟩, .s ⟨#[]⟩, .i 0, .s ⟨#[]⟩]], .t false]) := fn_pure (L := nL0) hm ucall_Parts_129_ok [] (fun _ _ => nLk _ _ _) Tryz.func96 rfl (by kernel_rfl) (by kernel_rfl)
theorem q2_call_Parts : PCall P 96 [aS ⟨#[75, 49, 65, 66]⟩] (s_call_Parts.out [.l [[.s ⟨#[]⟩, .s ⟨#[]⟩, .s ⟨#[]⟩, .i 0, .s ⟨#[]⟩]], .t false]) := fn_pure (L := nL0) hm ucall_Parts_129_ok [] (fun _ _ => nLk _ _ _) Tryz.func96 rfl (by kernel_rfl) (by kernel_rfl)
theorem q3_call_Parts : PCall P 96 [aS ⟨#[107, 49, 97, 98, 47]⟩] (s_call_Parts.out [.l [[.s ⟨#[]⟩, .s ⟨#[]⟩, .s ⟨#[]⟩, .i 0, .s ⟨#[]⟩]], .t false]) := fn_pure (L := nL0) hm ucall_Parts_129_ok [] (fun _ _ => nLk _ _ _) Tryz.func96 rfl (by kernel_rfl) (by kernel_rfl)
theorem q4_call_Parts : PCall P 96 [aS ⟨#[49, 97]⟩] (s_call_Parts.out [.l [[.s ⟨#[]⟩, .s ⟨#[]⟩, .s ⟨#[]⟩, .i 0, .s ⟨#[]⟩]], .t false]) := fn_pure (L := nL0) hm ucall_Parts_129_ok [] (fun _ _ => nLk _ _ _) Tryz.func96 rfl (by kernel_rfl) (by kernel_rfl)
theorem q5_call_Parts : PCall P 96 [aS ⟨#[107, 49, 97, 98, 47, 109, 109, 47, 112]⟩] (s_call_Parts.out [.l [[.s ⟨#[]⟩, .s ⟨#[]⟩, .s ⟨#[]⟩, .i 0, .s ⟨#[]⟩]], .t false]) := fn_pure (L := nL0) hm ucall_Parts_129_ok [] (fun _ _ => nLk _ _ _) Tryz.func96 rfl (by kernel_rfl) (by kernel_rfl)
theorem q6_call_Parts : PCall P 96 [aS ⟨#[107, 49, 97, 98]⟩] (s_call_Parts.out [.l [[.s ⟨#[107, 49, 97, 98]⟩, .s ⟨#[107, 49]⟩, .s ⟨#[97, 98]⟩, .i 0, .s ⟨#[]⟩]], .t true]) := fn_pure (L := nL0) hm ucall_Parts_129_ok [] (fun _ _ => nLk _ _ _) Tryz.func96 rfl (by kernel_rfl) (by kernel_rfl)
theorem q7_call_Parts : PCall P 96 [aS ⟨#[107, 49, 97, 97]⟩] (s_call_Parts.out [.l [[.s ⟨#[107, 49, 97, 97]⟩, .s ⟨#[107, 49]⟩, .s ⟨#[97, 97]⟩, .i 0, .s ⟨#[]⟩]], .t true]) := fn_pure (L := nL0) hm ucall_Parts_129_ok [] (fun _ _ => nLk _ _ _) Tryz.func96 rfl (by kernel_rfl) (by kernel_rfl)
theorem q8_call_Parts : PCall P 96 [aS ⟨#[107, 49, 97, 98, 47, 52]⟩] (s_call_Parts.out [.l [[.s ⟨#[107, 49, 97, 98]⟩, .s ⟨#[107, 49]⟩, .s ⟨#[97, 98]⟩, .i 2, .s ⟨#[52]⟩]], .t true]) := fn_pure (L := nL0) hm ucall_Parts_129_ok [] (fun _ _ => nLk _ _ _) Tryz.func96 rfl (by kernel_rfl) (by kernel_rfl)
theorem q9_call_Parts : PCall P 96 [aS ⟨#[111, 104, 50, 97, 98, 99]⟩] (s_call_Parts.out [.l [[.s ⟨#[111, 104, 50, 97, 98, 99]⟩, .s ⟨#[111, 104, 50]⟩, .s ⟨#[97, 98, 99]⟩, .i 0, .s ⟨#[]⟩]], .t true]) := fn_pure (L := nL0) hm ucall_Parts_129_ok [] (fun _ _ => nLk _ _ _) Tryz.func96 rfl (by kernel_rfl) (by kernel_rfl)
theorem q10_call_Parts : PCall P 96 [aS ⟨#[111, 104, 50, 97, 98, 100]⟩] (s_call_Parts.out [.l [[.s ⟨#[111, 104, 50, 97, 98, 100]⟩, .s ⟨#[111, 104, 50]⟩, .s ⟨#[97, 98, 100]⟩, .i 0, .s ⟨#[]⟩]], .t true]) := fn_pure (L := nL0) hm ucall_Parts_129_ok [] (fun _ _ => nLk _ _ _) Tryz.func96 rfl (by kernel_rfl) (by kernel_rfl)
theorem q11_call_Parts : PCall P 96 [aS ⟨#[119, 49, 97, 119]⟩] (s_call_Parts.out [.l [[.s ⟨#[119, 49, 97, 119]⟩, .s ⟨#[119, 49]⟩, .s ⟨#[97, 119]⟩, .i 0, .s ⟨#[]⟩]], .t true]) := fn_pure (L := nL0) hm ucall_Parts_129_ok [] (fun _ _ => nLk _ _ _) Tryz.func96 rfl (by kernel_rfl) (by kernel_rfl)
theorem q12_call_Parts : PCall P 96 [aS ⟨#[110, 49, 109, 109]⟩] (s_call_Parts.out [.l [[.s ⟨#[110, 49, 109, 109]⟩, .s ⟨#[110, 49]⟩, .s ⟨#[109, 109]⟩, .i 0, .s ⟨#[]⟩]], .t true]) := fn_pure (L := nL0) hm ucall_Parts_129_ok [] (fun _ _ => nLk _ _ _) Tryz.func96 rfl (by kernel_rfl) (by kernel_rfl)
theorem q13_call_Parts : PCall P 96 [aS ⟨#[103, 51, 120, 121, 122, 47, 112]⟩] (s_call_Parts.out [.l [[.s ⟨#[103, 51, 120, 121, 122]⟩, .s ⟨#[103, 51]⟩, .s ⟨#[120, 121, 122]⟩, .i 3, .s ⟨#[]⟩]], .t true]) := fn_pure (L := nL0) hm ucall_Parts_129_ok [] (fun _ _ => nLk _ _ _) Tryz.func96 rfl (by kernel_rfl) (by kernel_rfl)
theorem c_call_Parts : ∀ d r, F_call_Parts d = some r → ACallX P 96 (s_call_Parts.args0 d) (denH (s_call_Parts.H0 d)) (s_call_Parts.out r) (denH (s_call_Parts.H1 r)) := fun d r h => by
 have h := lookS_mem h
 have key : PCall P 96 [aS (gi d 0).str] (s_call_Parts.out r) := by
  generalize (gi d 0).str = s at h
  simp only [tab_call_Parts, List.mem_cons, List.not_mem_nil, or_false, Prod.mk.injEq] at h
  rcases h with ⟨rfl, rfl⟩ | ⟨rfl, rfl⟩ | ⟨rfl, rfl⟩ | ⟨rfl, rfl⟩ | ⟨rfl, rfl⟩ | ⟨rfl, rfl⟩ | ⟨rfl, rfl⟩ | ⟨rfl, rfl⟩ | ⟨rfl, rfl⟩ | ⟨rfl, rfl⟩ | ⟨rfl, rfl⟩ | ⟨rfl, rfl⟩ | ⟨rfl, rfl⟩ | ⟨rfl, rfl⟩
  ·exact q0_call_Parts
  ·exact q1_call_Parts
  ·exact q2_call_Parts
  ·exact q3_call_Parts
  ·exact q4_call_Parts
  ·exact q5_call_Parts
  ·exact q6_call_Parts
  ·exact q7_call_Parts
  ·exact q8_call_Parts
  ·exact q9_call_Parts
  ·exact q10_call_Parts
  ·exact q11_call_Parts
  ·exact q12_call_Parts
  ·exact q13_call_Parts
 exact key []
def t5 : Tab := t4.addP s_call_Parts
theorem t5_ok : TabOK P t5 := t4_ok.aP c_call_Parts
def ur1_PartsOf_197 : Tab := t5.inline P 197 Tryz.f197 []
theorem ur1_PartsOf_197_ok : TabOK P ur1_PartsOf_197 := t5_ok.inline hm Tryz.func197 (by kernel_rfl) []
def ur1_PartsOf_202 : Tab := ur1_PartsOf_197.inline P 202 Tryz.f202 []
theorem ur1_PartsOf_202_ok : TabOK P ur1_PartsOf_202 := ur1_PartsOf_197_ok.inline hm Tryz.func202 (by kernel_rfl) []
def ur1_PartsOf_198 : Tab := ur1_PartsOf_202.inline P 198 Tryz.f198 []
theorem ur1_PartsOf_198_ok : TabOK P ur1_PartsOf_198 := ur1_PartsOf_202_ok.inline hm Tryz.func198 (by kernel_rfl) []
def ur1_PartsOf_181 : Tab := ur1_PartsOf_198.inline P 181 Tryz.f181 []
theorem ur1_PartsOf_181_ok : TabOK P ur1_PartsOf_181 := ur1_PartsOf_198_ok.inline hm Tryz.func181 (by kernel_rfl) []
def ur1_PartsOf_141 : Tab := ur1_PartsOf_181.inline P 141 Tryz.f141 []
theorem ur1_PartsOf_141_ok : TabOK P ur1_PartsOf_141 := ur1_PartsOf_181_ok.inline hm Tryz.func141 (by kernel_rfl) []
def ur1_PartsOf_100 : Tab := ur1_PartsOf_141.inline P 100 Tryz.f100 []
theorem ur1_PartsOf_100_ok : TabOK P ur1_PartsOf_100 := ur1_PartsOf_141_ok.inline hm Tryz.func100 (by kernel_rfl) []
def ur1_PartsOf_122 : Tab := ur1_PartsOf_100.inline P 122 Tryz.f122 []
theorem ur1_PartsOf_122_ok : TabOK P ur1_PartsOf_122 := ur1_PartsOf_100_ok.inline hm Tryz.func122 (by kernel_rfl) []
def ur1_PartsOf_168 : Tab := ur1_PartsOf_122.inline P 168 Tryz.f168 []
theorem ur1_PartsOf_168_ok : TabOK P ur1_PartsOf_168 := ur1_PartsOf_122_ok.inline hm Tryz.func168 (by kernel_rfl) []
def ur1_PartsOf_192 : Tab := ur1_PartsOf_168.inline P 192 Tryz.f192 []
theorem ur1_PartsOf_192_ok : TabOK P ur1_PartsOf_192 := ur1_PartsOf_168_ok.inline hm Tryz.func192 (by kernel_rfl) []
def ur1_PartsOf_169 : Tab := ur1_PartsOf_192.inline P 169 Tryz.f169 []
theorem ur1_PartsOf_169_ok : TabOK P ur1_PartsOf_169 := ur1_PartsOf_192_ok.inline hm Tryz.func169 (by kernel_rfl) []
def ur1_PartsOf_193 : Tab := ur1_PartsOf_169.inline P 193 Tryz.f193 []
theorem ur1_PartsOf_193_ok : TabOK P ur1_PartsOf_193 := ur1_PartsOf_169_ok.inline hm Tryz.func193 (by kernel_rfl) []
def ur1_PartsOf_171 : Tab := ur1_PartsOf_193.inline P 171 Tryz.f171 []
theorem ur1_PartsOf_171_ok : TabOK P ur1_PartsOf_171 := ur1_PartsOf_193_ok.inline hm Tryz.func171 (by kernel_rfl) []
def ur1_PartsOf_199 : Tab := ur1_PartsOf_171.inline P 199 Tryz.f199 []
theorem ur1_PartsOf_199_ok : TabOK P ur1_PartsOf_199 := ur1_PartsOf_171_ok.inline hm Tryz.func199 (by kernel_rfl) []
def ur1_PartsOf_182 : Tab := ur1_PartsOf_199.inline P 182 Tryz.f182 []
theorem ur1_PartsOf_182_ok : TabOK P ur1_PartsOf_182 := ur1_PartsOf_199_ok.inline hm Tryz.func182 (by kernel_rfl) []
def ur1_PartsOf_183 : Tab := ur1_PartsOf_182.inline P 183 Tryz.f183 []
theorem ur1_PartsOf_183_ok : TabOK P ur1_PartsOf_183 := ur1_PartsOf_182_ok.inline hm Tryz.func183 (by kernel_rfl) []
def ur1_PartsOf_142 : Tab := ur1_PartsOf_183.inline P 142 Tryz.f142 []
theorem ur1_PartsOf_142_ok : TabOK P ur1_PartsOf_142 := ur1_PartsOf_183_ok.inline hm Tryz.func142 (by kernel_rfl) []
def ur1_PartsOf_144 : Tab := ur1_PartsOf_142.inline P 144 Tryz.f144 []
theorem ur1_PartsOf_144_ok : TabOK P ur1_PartsOf_144 := ur1_PartsOf_142_ok.inline hm Tryz.func144 (by kernel_rfl) []
def ur1_PartsOf_184 : Tab := ur1_PartsOf_144.inline P 184 Tryz.f184 []
theorem ur1_PartsOf_184_ok : TabOK P ur1_PartsOf_184 := ur1_PartsOf_144_ok.inline hm Tryz.func184 (by kernel_rfl) []
def ur1_PartsOf_145 : Tab := ur1_PartsOf_184.inline P 145 Tryz.f145 []
theorem ur1_PartsOf_145_ok : TabOK P ur1_PartsOf_145 := ur1_PartsOf_184_ok.inline hm Tryz.func145 (by kernel_rfl) []
def ur1_PartsOf_143 : Tab := ur1_PartsOf_145.inline P 143 Tryz.f143 []
theorem ur1_PartsOf_143_ok : TabOK P ur1_PartsOf_143 := ur1_PartsOf_145_ok.inline hm Tryz.func143 (by kernel_rfl) []
def ur1_PartsOf_102 : Tab := ur1_PartsOf_143.inline P 102 Tryz.f102 []
theorem ur1_PartsOf_102_ok : TabOK P ur1_PartsOf_102 := ur1_PartsOf_143_ok.inline hm Tryz.func102 (by kernel_rfl) []
def ur1_PartsOf_101 : Tab := ur1_PartsOf_102.inline P 101 Tryz.f101 []
theorem ur1_PartsOf_101_ok : TabOK P ur1_PartsOf_101 := ur1_PartsOf_102_ok.inline hm Tryz.func101 (by kernel_rfl) []
def ur1_PartsOf_103 : Tab := ur1_PartsOf_101.inline P 103 Tryz.f103 []
theorem ur1_PartsOf_103_ok : TabOK P ur1_PartsOf_103 := ur1_PartsOf_101_ok.inline hm Tryz.func103 (by kernel_rfl) []
def ur1_PartsOf_146 : Tab := ur1_PartsOf_103.inline P 146 Tryz.f146 []
theorem ur1_PartsOf_146_ok : TabOK P ur1_PartsOf_146 := ur1_PartsOf_103_ok.inline hm Tryz.func146 (by kernel_rfl) []
def ur1_PartsOf_104 : Tab := ur1_PartsOf_146.inline P 104 Tryz.f104 []
theorem ur1_PartsOf_104_ok : TabOK P ur1_PartsOf_104 := ur1_PartsOf_146_ok.inline hm Tryz.func104 (by kernel_rfl) []
def tab_r1_PartsOf : List (ByteArray × List G) := [(⟨#[]⟩, [.l [[.s ⟨#[]⟩, .s ⟨#[]⟩, .s ⟨#[]⟩, .i 0, .s ⟨#[]⟩]], .t false]), (⟨#[107, 49]⟩, [.l [[.s ⟨#[]⟩, .s ⟨#[]⟩, .s ⟨#[]⟩, .i 0, .s ⟨#[]⟩]], .t false]), (⟨#[75, 49, 65, 66]⟩, [.l [[.s ⟨#[]⟩, .s ⟨#[]⟩, .s ⟨#[]⟩, .i 0, .s ⟨#[]⟩]], .t false]), (⟨#[107, 49, 97, 98, 47]⟩, [.l [[.s ⟨#[]⟩, .s ⟨#[]⟩, .s ⟨#[]⟩, .i 0, .s ⟨#[]⟩]], .t false]), (⟨#[49, 97]⟩, [.l [[.s ⟨#[]⟩, .s ⟨#[]⟩, .s ⟨#[]⟩, .i 0, .s ⟨#[]⟩]], .t false]), (⟨#[107, 49, 97, 98, 47, 109, 109, 47, 112]⟩, [.l [[.s ⟨#[]⟩, .s ⟨#[]⟩, .s ⟨#[]⟩, .i 0, .s ⟨#[]⟩]], .t false]), (⟨#[107, 49, 97, 98]⟩, [.l [[.s ⟨#[107, 49, 97, 98]⟩, .s ⟨#[107, 49]⟩, .s ⟨#[97, 98]⟩, .i 0, .s ⟨#[]⟩]], .t true]), (⟨#[107, 49, 97, 97]⟩, [.l [[.s ⟨#[107, 49, 97, 97]⟩, .s ⟨#[107, 49]⟩, .s ⟨#[97, 97]⟩, .i 0, .s ⟨#[]⟩]], .t true]), (⟨#[107, 49, 97, 98, 47, 52]⟩, [.l [[.s ⟨#[107, 49, 97, 98]⟩, .s ⟨#[107, 49]⟩, .s ⟨#[97, 98]⟩, .i 2, .s ⟨#[52]⟩]], .t true]), (⟨#[111, 104, 50, 97, 98, 99]⟩, [.l [[.s ⟨#[111, 104, 50, 97, 98, 99]⟩, .s ⟨#[111, 104, 50]⟩, .s ⟨#[97, 98, 99]⟩, .i 0, .s ⟨#[]⟩]], .t true]), (⟨#[111, 104, 50, 97, 98, 100]⟩, [.l [[.s ⟨#[111, 104, 50, 97, 98, 100]⟩, .s ⟨#[111, 104, 50]⟩, .s ⟨#[97, 98, 100]⟩, .i 0, .s ⟨#[]⟩]], .t true]), (⟨#[119, 49, 97, 119]⟩, [.l [[.s ⟨#[119, 49, 97, 119]⟩, .s ⟨#[119, 49]⟩, .s ⟨#[97, 119]⟩, .i 0, .s ⟨#[]⟩]], .t true]), (⟨#[110, 49, 109, 109]⟩, [.l [[.s ⟨#[110, 49, 109, 109]⟩, .s ⟨#[110, 49]⟩, .s ⟨#[109, 109]⟩, .i 0, .s ⟨#[]⟩]], .t true]), (⟨#[103, 51, 120, 121, 122, 47, 112]⟩, [.l [[.s ⟨#[103, 51, 120, 121, 122]⟩, .s ⟨#[103, 51]⟩, .s ⟨#[120, 121, 122]⟩, .i 3, .s ⟨#[]⟩]], .t true])]
def F_r1_PartsOf (d : List G) : Option (List G) := lookS tab_r1_PartsOf (gi d 0).str
def s_r1_PartsOf : FSpec := ⟨75, [.s (.str)], [], [], [.s (.row KParts), .s (.bool)], [], [], [], F_r1_PartsOf⟩
theorem q0_r1_PartsOf : PCall P 75 [aS ⟨#[]⟩] (s_r1_PartsOf.out [.l [[.s ⟨#[]⟩, .s ⟨#[]⟩, .s ⟨#[]⟩, .i 0, .s ⟨#[]⟩]], .t false]) := fn_pure (L := nL0) hm ur1_PartsOf_104_ok [] (fun _ _ => nLk _ _ _) Tryz.func75 rfl (by kernel_rfl) (by kernel_rfl)
theorem q1_r1_PartsOf : PCall P 75 [aS ⟨#[107, 49]⟩] (s_r1_PartsOf.out [.l [[.s ⟨#[]⟩, .s ⟨#[]⟩, .s ⟨#[]⟩, .i 0, .s ⟨#[]⟩]], .t false]) := fn_pure (L := nL0) hm ur1_PartsOf_104_ok [] (fun _ _ => nLk _ _ _) Tryz.func75 rfl (by kernel_rfl) (by kernel_rfl)
theorem q2_r1_PartsOf : PCall P 75 [aS ⟨#[75, 49, 65, 66]⟩] (s_r1_PartsOf.out [.l [[.s ⟨#[]⟩, .s ⟨#[]⟩, .s ⟨#[]⟩, .i 0, .s ⟨#[]⟩]], .t false]) := fn_pure (L := nL0) hm ur1_PartsOf_104_ok [] (fun _ _ => nLk _ _ _) Tryz.func75 rfl (by kernel_rfl) (by kernel_rfl)
theorem q3_r1_PartsOf : PCall P 75 [aS ⟨#[107, 49, 97, 98, 47]⟩] (s_r1_PartsOf.out [.l [[.s ⟨#[]⟩, .s ⟨#[]⟩, .s ⟨#[]⟩, .i 0, .s ⟨#[]⟩]], .t false]) := fn_pure (L := nL0) hm ur1_PartsOf_104_ok [] (fun _ _ => nLk _ _ _) Tryz.func75 rfl (by kernel_rfl) (by kernel_rfl)
theorem q4_r1_PartsOf : PCall P 75 [aS ⟨#[49, 97]⟩] (s_r1_PartsOf.out [.l [[.s ⟨#[]⟩, .s ⟨#[]⟩, .s ⟨#[]⟩, .i 0, .s ⟨#[]⟩]], .t false]) := fn_pure (L := nL0) hm ur1_PartsOf_104_ok [] (fun _ _ => nLk _ _ _) Tryz.func75 rfl (by kernel_rfl) (by kernel_rfl)
theorem q5_r1_PartsOf : PCall P 75 [aS ⟨#[107, 49, 97, 98, 47, 109, 109, 47, 112]⟩] (s_r1_PartsOf.out [.l [[.s ⟨#[]⟩, .s ⟨#[]⟩, .s ⟨#[]⟩, .i 0, .s ⟨#[]⟩]], .t false]) := fn_pure (L := nL0) hm ur1_PartsOf_104_ok [] (fun _ _ => nLk _ _ _) Tryz.func75 rfl (by kernel_rfl) (by kernel_rfl)
theorem q6_r1_PartsOf : PCall P 75 [aS ⟨#[107, 49, 97, 98]⟩] (s_r1_PartsOf.out [.l [[.s ⟨#[107, 49, 97, 98]⟩, .s ⟨#[107, 49]⟩, .s ⟨#[97, 98]⟩, .i 0, .s ⟨#[]⟩]], .t true]) := fn_pure (L := nL0) hm ur1_PartsOf_104_ok [] (fun _ _ => nLk _ _ _) Tryz.func75 rfl (by kernel_rfl) (by kernel_rfl)
theorem q7_r1_PartsOf : PCall P 75 [aS ⟨#[107, 49, 97, 97]⟩] (s_r1_PartsOf.out [.l [[.s ⟨#[107, 49, 97, 97]⟩, .s ⟨#[107, 49]⟩, .s ⟨#[97, 97]⟩, .i 0, .s ⟨#[]⟩]], .t true]) := fn_pure (L := nL0) hm ur1_PartsOf_104_ok [] (fun _ _ => nLk _ _ _) Tryz.func75 rfl (by kernel_rfl) (by kernel_rfl)
theorem q8_r1_PartsOf : PCall P 75 [aS ⟨#[107, 49, 97, 98, 47, 52]⟩] (s_r1_PartsOf.out [.l [[.s ⟨#[107, 49, 97, 98]⟩, .s ⟨#[107, 49]⟩, .s ⟨#[97, 98]⟩, .i 2, .s ⟨#[52]⟩]], .t true]) := fn_pure (L := nL0) hm ur1_PartsOf_104_ok [] (fun _ _ => nLk _ _ _) Tryz.func75 rfl (by kernel_rfl) (by kernel_rfl)
theorem q9_r1_PartsOf : PCall P 75 [aS ⟨#[111, 104, 50, 97, 98, 99]⟩] (s_r1_PartsOf.out [.l [[.s ⟨#[111, 104, 50, 97, 98, 99]⟩, .s ⟨#[111, 104, 50]⟩, .s ⟨#[97, 98, 99]⟩, .i 0, .s ⟨#[]⟩]], .t true]) := fn_pure (L := nL0) hm ur1_PartsOf_104_ok [] (fun _ _ => nLk _ _ _) Tryz.func75 rfl (by kernel_rfl) (by kernel_rfl)
theorem q10_r1_PartsOf : PCall P 75 [aS ⟨#[111, 104, 50, 97, 98, 100]⟩] (s_r1_PartsOf.out [.l [[.s ⟨#[111, 104, 50, 97, 98, 100]⟩, .s ⟨#[111, 104, 50]⟩, .s ⟨#[97, 98, 100]⟩, .i 0, .s ⟨#[]⟩]], .t true]) := fn_pure (L := nL0) hm ur1_PartsOf_104_ok [] (fun _ _ => nLk _ _ _) Tryz.func75 rfl (by kernel_rfl) (by kernel_rfl)
theorem q11_r1_PartsOf : PCall P 75 [aS ⟨#[119, 49, 97, 119]⟩] (s_r1_PartsOf.out [.l [[.s ⟨#[119, 49, 97, 119]⟩, .s ⟨#[119, 49]⟩, .s ⟨#[97, 119]⟩, .i 0, .s ⟨#[]⟩]], .t true]) := fn_pure (L := nL0) hm ur1_PartsOf_104_ok [] (fun _ _ => nLk _ _ _) Tryz.func75 rfl (by kernel_rfl) (by kernel_rfl)
theorem q12_r1_PartsOf : PCall P 75 [aS ⟨#[110, 49, 109, 109]⟩] (s_r1_PartsOf.out [.l [[.s ⟨#[110, 49, 109, 109]⟩, .s ⟨#[110, 49]⟩, .s ⟨#[109, 109]⟩, .i 0, .s ⟨#[]⟩]], .t true]) := fn_pure (L := nL0) hm ur1_PartsOf_104_ok [] (fun _ _ => nLk _ _ _) Tryz.func75 rfl (by kernel_rfl) (by kernel_rfl)
theorem q13_r1_PartsOf : PCall P 75 [aS ⟨#[103, 51, 120, 121, 122, 47, 112]⟩] (s_r1_PartsOf.out [.l [[.s ⟨#[103, 51, 120, 121, 122]⟩, .s ⟨#[103, 51]⟩, .s ⟨#[120, 121, 122]⟩, .i 3, .s ⟨#[]⟩]], .t true]) := fn_pure (L := nL0) hm ur1_PartsOf_104_ok [] (fun _ _ => nLk _ _ _) Tryz.func75 rfl (by kernel_rfl) (by kernel_rfl)
theorem c_r1_PartsOf : ∀ d r, F_r1_PartsOf d = some r → ACallX P 75 (s_r1_PartsOf.args0 d) (denH (s_r1_PartsOf.H0 d)) (s_r1_PartsOf.out r) (denH (s_r1_PartsOf.H1 r)) := fun d r h => by
 have h := lookS_mem h
 have key : PCall P 75 [aS (gi d 0).str] (s_r1_PartsOf.out r) := by
  generalize (gi d 0).str = s at h
  simp only [tab_r1_PartsOf, List.mem_cons, List.not_mem_nil, or_false, Prod.mk.injEq] at h
  rcases h with ⟨rfl, rfl⟩ | ⟨rfl, rfl⟩ | ⟨rfl, rfl⟩ | ⟨rfl, rfl⟩ | ⟨rfl, rfl⟩ | ⟨rfl, rfl⟩ | ⟨rfl, rfl⟩ | ⟨rfl, rfl⟩ | ⟨rfl, rfl⟩ | ⟨rfl, rfl⟩ | ⟨rfl, rfl⟩ | ⟨rfl, rfl⟩ | ⟨rfl, rfl⟩ | ⟨rfl, rfl⟩
  ·exact q0_r1_PartsOf
  ·exact q1_r1_PartsOf
  ·exact q2_r1_PartsOf
  ·exact q3_r1_PartsOf
  ·exact q4_r1_PartsOf
  ·exact q5_r1_PartsOf
  ·exact q6_r1_PartsOf
  ·exact q7_r1_PartsOf
  ·exact q8_r1_PartsOf
  ·exact q9_r1_PartsOf
  ·exact q10_r1_PartsOf
  ·exact q11_r1_PartsOf
  ·exact q12_r1_PartsOf
  ·exact q13_r1_PartsOf
 exact key []
def t6 : Tab := t5.addP s_r1_PartsOf
theorem t6_ok : TabOK P t6 := t5_ok.aP c_r1_PartsOf
end
end Go.Proofs.SYtdhpplgohigbdaaGreatDoor
