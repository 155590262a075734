/-
 What is proved here: functions of the program as functions on data. No condition.
-/
import Derived.Test.YtooejlhignkdgaaGreatDoorML0
set_option linter.all false
namespace Go.Proofs.SYtooejlhignkdgaaGreatDoor
open Go Go.AL Go.Proofs
noncomputable section
def ucall_Parts_150 : Tab := t5.inline P 150 Tryz.f150 []
theorem ucall_Parts_150_ok : TabOK P ucall_Parts_150 := t5_ok.inline hm Tryz.func150 (by kernel_rfl) []
def ucall_Parts_194 : Tab := ucall_Parts_150.inline P 194 Tryz.f194 []
theorem ucall_Parts_194_ok : TabOK P ucall_Parts_194 := ucall_Parts_150_ok.inline hm Tryz.func194 (by kernel_rfl) []
def ucall_Parts_149 : Tab := ucall_Parts_194.inline P 149 Tryz.f149 []
theorem ucall_Parts_149_ok : TabOK P ucall_Parts_149 := ucall_Parts_194_ok.inline hm Tryz.func149 (by kernel_rfl) []
def ucall_Parts_132 : Tab := ucall_Parts_149.inline P 132 Tryz.f132 []
theorem ucall_Parts_132_ok : TabOK P ucall_Parts_132 := ucall_Parts_149_ok.inline hm Tryz.func132 (by kernel_rfl) []
def ucall_Parts_173 : Tab := ucall_Parts_132.inline P 173 Tryz.f173 []
theorem ucall_Parts_173_ok : TabOK P ucall_Parts_173 := ucall_Parts_132_ok.inline hm Tryz.func173 (by kernel_rfl) []
def ucall_Parts_212 : Tab := ucall_Parts_173.inline P 212 Tryz.f212 []
theorem ucall_Parts_212_ok : TabOK P ucall_Parts_212 := ucall_Parts_173_ok.inline hm Tryz.func212 (by kernel_rfl) []
def ucall_Parts_174 : Tab := ucall_Parts_212.inline P 174 Tryz.f174 []
theorem ucall_Parts_174_ok : TabOK P ucall_Parts_174 := ucall_Parts_212_ok.inline hm Tryz.func174 (by kernel_rfl) []
def ucall_Parts_213 : Tab := ucall_Parts_174.inline P 213 Tryz.f213 []
theorem ucall_Parts_213_ok : TabOK P ucall_Parts_213 := ucall_Parts_174_ok.inline hm Tryz.func213 (by kernel_rfl) []
def ucall_Parts_176 : Tab := ucall_Parts_213.inline P 176 Tryz.f176 []
theorem ucall_Parts_176_ok : TabOK P ucall_Parts_176 := ucall_Parts_213_ok.inline hm Tryz.func176 (by kernel_rfl) []
def ucall_Parts_238 : Tab := ucall_Parts_176.inline P 238 Tryz.f238 []
theorem ucall_Parts_238_ok : TabOK P ucall_Parts_238 := ucall_Parts_176_ok.inline hm Tryz.func238 (by kernel_rfl) []
def ucall_Parts_247 : Tab := ucall_Parts_238.inline P 247 Tryz.f247 []
theorem ucall_Parts_247_ok : TabOK P ucall_Parts_247 := ucall_Parts_238_ok.inline hm Tryz.func247 (by kernel_rfl) []
def ucall_Parts_209 : Tab := ucall_Parts_247.inline P 209 Tryz.f209 []
theorem ucall_Parts_209_ok : TabOK P ucall_Parts_209 := ucall_Parts_247_ok.inline hm Tryz.func209 (by kernel_rfl) []
def ucall_Parts_210 : Tab := ucall_Parts_209.inline P 210 Tryz.f210 []
theorem ucall_Parts_210_ok : TabOK P ucall_Parts_210 := ucall_Parts_209_ok.inline hm Tryz.func210 (by kernel_rfl) []
def ucall_Parts_168 : Tab := ucall_Parts_210.inline P 168 Tryz.f168 []
theorem ucall_Parts_168_ok : TabOK P ucall_Parts_168 := ucall_Parts_210_ok.inline hm Tryz.func168 (by kernel_rfl) []
def ucall_Parts_147 : Tab := ucall_Parts_168.inline P 147 Tryz.f147 []
theorem ucall_Parts_147_ok : TabOK P ucall_Parts_147 := ucall_Parts_168_ok.inline hm Tryz.func147 (by kernel_rfl) []
def ucall_Parts_103 : Tab := ucall_Parts_147.inline P 103 Tryz.f103 []
theorem ucall_Parts_103_ok : TabOK P ucall_Parts_103 := ucall_Parts_147_ok.inline hm Tryz.func103 (by kernel_rfl) []
def ucall_Parts_256 : Tab := ucall_Parts_103.inline P 256 Tryz.f256 []
theorem ucall_Parts_256_ok : TabOK P ucall_Parts_256 := ucall_Parts_103_ok.inline hm Tryz.func256 (by kernel_rfl) []
def ucall_Parts_239 : Tab := ucall_Parts_256.inline P 239 Tryz.f239 []
theorem ucall_Parts_239_ok : TabOK P ucall_Parts_239 := ucall_Parts_256_ok.inline hm Tryz.func239 (by kernel_rfl) []
def ucall_Parts_193 : Tab := ucall_Parts_239.inline P 193 Tryz.f193 []
theorem ucall_Parts_193_ok : TabOK P ucall_Parts_193 := ucall_Parts_239_ok.inline hm Tryz.func193 (by kernel_rfl) []
def ucall_Parts_148 : Tab := ucall_Parts_193.inline P 148 Tryz.f148 []
theorem ucall_Parts_148_ok : TabOK P ucall_Parts_148 := ucall_Parts_193_ok.inline hm Tryz.func148 (by kernel_rfl) []
def ucall_Parts_104 : Tab := ucall_Parts_148.inline P 104 Tryz.f104 []
theorem ucall_Parts_104_ok : TabOK P ucall_Parts_104 := ucall_Parts_148_ok.inline hm Tryz.func104 (by kernel_rfl) []
def ucall_Parts_105 : Tab := ucall_Parts_104.inline P 105 Tryz.f105 []
theorem ucall_Parts_105_ok : TabOK P ucall_Parts_105 := ucall_Parts_104_ok.inline hm Tryz.func105 (by kernel_rfl) []
def ucall_Parts_106 : Tab := ucall_Parts_105.inline P 106 Tryz.f106 []
theorem ucall_Parts_106_ok : TabOK P ucall_Parts_106 := ucall_Parts_105_ok.inline hm Tryz.func106 (by kernel_rfl) []
def tab_call_Parts : List (ByteArray × List G) := [(⟨#[]⟩, [.l [[.s ⟨#[]⟩, .s ⟨#[]⟩, .s ⟨#[]⟩, .i 0, .s ⟨#[]⟩]], .t false]), (⟨#[107, 49]⟩, [.l [[.s ⟨#[]⟩, .s ⟨#[]⟩, .s ⟨#[]⟩, .i 0, .s ⟨#[]⟩]], .t false]), (⟨#[75, 49, 65, 66]⟩, [.l [[.s ⟨#[]⟩, .s ⟨#[]⟩, .s ⟨#[]⟩, .i 0, .s ⟨#[]⟩]], .t false]), (⟨#[107, 49, 97, 98, 47]⟩, [.l [[.s ⟨#[]⟩, .s ⟨#[]⟩, .s ⟨#[]⟩, .i 0, .s ⟨#[]⟩]], .t false]), (⟨#[49, 97]⟩, [.l [[.s ⟨#[]⟩, .s ⟨#[]⟩, .s ⟨#[]⟩, .i 0, .s ⟨#[]⟩]], .t false]), (⟨#[107, 49, 97, 98, 47, 109, 109, 47, 112]⟩, [.l [[.s ⟨#[]⟩, .s ⟨#[]⟩, .s ⟨#[]⟩, .i 0, .s ⟨#[]⟩]], .t false]), (⟨#[107, 49, 97, 98]⟩, [.l [[.s ⟨#[107, 49, 97, 98]⟩, .s ⟨#[107, 49]⟩, .s ⟨#[97, 98]⟩, .i 0, .s ⟨#[]⟩]], .t true]), (⟨#[107, 49, 97, 97]⟩, [.l [[.s ⟨#[107, 49, 97, 97]⟩, .s ⟨#[107, 49]⟩, .s ⟨#[97, 97]⟩, .i 0, .s ⟨#[]⟩]], .t true]), (⟨#[107, 49, 97, 98, 47, 52]⟩, [.l [[.s ⟨#[107, 49, 97, 98]⟩, .s ⟨#[107, 49]⟩, .s ⟨#[97, 98]⟩, .i 2, .s ⟨#[52]⟩]], .t true]), (⟨#[111, 104, 50, 97, 98, 99]⟩, [.l [[.s ⟨#[111, 104, 50, 97, 98, 99]⟩, .s ⟨#[111, 104, 50]⟩, .s ⟨#[97, 98, 99]⟩, .i 0, .s ⟨#[]⟩]], .t true]), (⟨#[111, 104, 50, 97, 98, 100]⟩, [.l [[.s ⟨#[111, 104, 50, 97, 98, 100]⟩, .s ⟨#[111, 104, 50]⟩, .s ⟨#[97, 98, 100]⟩, .i 0, .s ⟨#[]⟩]], .t true]), (⟨#[119, 49, 97, 119]⟩, [.l [[.s ⟨#[119, 49, 97, 119]⟩, .s ⟨#[119, 49]⟩, .s ⟨#[97, 119]⟩, .i 0, .s ⟨#[]⟩]], .t true]), (⟨#[110, 49, 109, 109]⟩, [.l [[.s ⟨#[110, 49, 109, 109]⟩, .s ⟨#[110, 49]⟩, .s ⟨#[109, 109]⟩, .i 0, .s ⟨#[]⟩]], .t true]), (⟨#[103, 51, 120, 121, 122, 47, 112]⟩, [.l [[.s ⟨#[103, 51, 120, 121, 122]⟩, .s ⟨#[103, 51]⟩, .s ⟨#[120, 121, 122]⟩, .i 3, .s ⟨#[]⟩]], .t true])]
def F_call_Parts (d : List G) : Option (List G) := lookS tab_call_Parts (gi d 0).str
def s_call_Parts : FSpec := ⟨65, [.s (.str)], [], [], [.s (.row KParts), .s (.bool)], [], [], [], F_call_Parts⟩
theorem q0_call_Parts : PCall P 65 [aS ⟨#[]⟩] (s_call_Parts.out [.l [[.s ⟨#[]⟩, .s ⟨#[]⟩, .s ⟨#[]⟩, .i 0, .s ⟨#[]⟩]], .t false]) := fn_pure (L := nL0) hm ucall_Parts_106_ok [] (fun _ _ => nLk _ _ _) Tryz.func65 rfl (by kernel_rfl) (by kernel_rfl)
theorem q1_call_Parts : PCall P 65 [aS ⟨#[107, 49]⟩] (s_call_Parts.out [.l [[.s ⟨#[]⟩, .s ⟨#[]⟩, .s ⟨#[]⟩, .i 0, .s ⟨#[]⟩]], .t false]) := fn_pure (L := nL0) hm ucall_Parts_106_ok [] (fun _ _ => nLk _ _ _) Tryz.func65 rfl (by kernel_rfl) (by kernel_rfl)
theorem q2_call_Parts : PCall P 65 [aS ⟨#[75, 49, 65, 66]⟩] (s_call_Parts.out [.l [[.s ⟨#[]⟩, .s ⟨#[]⟩, .s ⟨#[]⟩, .i 0, .s ⟨#[]⟩]], .t false]) := fn_pure (L := nL0) hm ucall_Parts_106_ok [] (fun _ _ => nLk _ _ _) Tryz.func65 rfl (by kernel_rfl) (by kernel_rfl)
theorem q3_call_Parts : PCall P 65 [aS ⟨#[107, 49, 97, 98, 47]⟩] (s_call_Parts.out [.l [[.s ⟨#[]⟩, .s ⟨#[]⟩, .s ⟨#[]⟩, .i 0, .s ⟨#[]⟩]], .t false]) := fn_pure (L := nL0) hm ucall_Parts_106_ok [] (fun _ _ => nLk _ _ _) Tryz.func65 rfl (by kernel_rfl) (by kernel_rfl)
theorem q4_call_Parts : PCall P 65 [aS ⟨#[49, 97]⟩] (s_call_Parts.out [.l [[.s ⟨#[]⟩, .s ⟨#[]⟩, .s ⟨#[]⟩, .i 0, .s ⟨#[]⟩]], .t false]) := fn_pure (L := nL0) hm ucall_Parts_106_ok [] (fun _ _ => nLk _ _ _) Tryz.func65 rfl (by kernel_rfl) (by kernel_rfl)
theorem q5_call_Parts : PCall P 65 [aS ⟨#[107, 49, 97, 98, 47, 109, 109, 47, 112]⟩] (s_call_Parts.out [.l [[.s ⟨#[]⟩, .s ⟨#[]⟩, .s ⟨#[]⟩, .i 0, .s ⟨#[]⟩]], .t false]) := fn_pure (L := nL0) hm ucall_Parts_106_ok [] (fun _ _ => nLk _ _ _) Tryz.func65 rfl (by kernel_rfl) (by kernel_rfl)
theorem q6_call_Parts : PCall P 65 [aS ⟨#[107, 49, 97, 98]⟩] (s_call_Parts.out [.l [[.s ⟨#[107, 49, 97, 98]⟩, .s ⟨#[107, 49]⟩, .s ⟨#[97, 98]⟩, .i 0, .s ⟨#[]⟩]], .t true]) := fn_pure (L := nL0) hm ucall_Parts_106_ok [] (fun _ _ => nLk _ _ _) Tryz.func65 rfl (by kernel_rfl) (by kernel_rfl)
theorem q7_call_Parts : PCall P 65 [aS ⟨#[107, 49, 97, 97]⟩] (s_call_Parts.out [.l [[.s ⟨#[107, 49, 97, 97]⟩, .s ⟨#[107, 49]⟩, .s ⟨#[97, 97]⟩, .i 0, .s ⟨#[]⟩]], .t true]) := fn_pure (L := nL0) hm ucall_Parts_106_ok [] (fun _ _ => nLk _ _ _) Tryz.func65 rfl (by kernel_rfl) (by kernel_rfl)
theorem q8_call_Parts : PCall P 65 [aS ⟨#[107, 49, 97, 98, 47, 52]⟩] (s_call_Parts.out [.l [[.s ⟨#[107, 49, 97, 98]⟩, .s ⟨#[107, 49]⟩, .s ⟨#[97, 98]⟩, .i 2, .s ⟨#[52]⟩]], .t true]) := fn_pure (L := nL0) hm ucall_Parts_106_ok [] (fun _ _ => nLk _ _ _) Tryz.func65 rfl (by kernel_rfl) (by kernel_rfl)
theorem q9_call_Parts : PCall P 65 [aS ⟨#[111, 104, 50, 97, 98, 99]⟩] (s_call_Parts.out [.l [[.s ⟨#[111, 104, 50, 97, 98, 99]⟩, .s ⟨#[111, 104, 50]⟩, .s ⟨#[97, 98, 99]⟩, .i 0, .s ⟨#[]⟩]], .t true]) := fn_pure (L := nL0) hm ucall_Parts_106_ok [] (fun _ _ => nLk _ _ _) Tryz.func65 rfl (by kernel_rfl) (by kernel_rfl)
theorem q10_call_Parts : PCall P 65 [aS ⟨#[111, 104, 50, 97, 98, 100]⟩] (s_call_Parts.out [.l [[.s ⟨#[111, 104, 50, 97, 98, 100]⟩, .s ⟨#[111, 104, 50]⟩, .s ⟨#[97, 98, 100]⟩, .i 0, .s ⟨#[]⟩]], .t true]) := fn_pure (L := nL0) hm ucall_Parts_106_ok [] (fun _ _ => nLk _ _ _) Tryz.func65 rfl (by kernel_rfl) (by kernel_rfl)
theorem q11_call_Parts : PCall P 65 [aS ⟨#[119, 49, 97, 119]⟩] (s_call_Parts.out [.l [[.s ⟨#[119, 49, 97, 119]⟩, .s ⟨#[119, 49]⟩, .s ⟨#[97, 119]⟩, .i 0, .s ⟨#[]⟩]], .t true]) := fn_pure (L := nL0) hm ucall_Parts_106_ok [] (fun _ _ => nLk _ _ _) Tryz.func65 rfl (by kernel_rfl) (by kernel_rfl)
theorem q12_call_Parts : PCall P 65 [aS ⟨#[110, 49, 109, 109]⟩] (s_call_Parts.out [.l [[.s ⟨#[110, 49, 109, 109]⟩, .s ⟨#[110, 49]⟩, .s ⟨#[109, 109]⟩, .i 0, .s ⟨#[]⟩]], .t true]) := fn_pure (L := nL0) hm ucall_Parts_106_ok [] (fun _ _ => nLk _ _ _) Tryz.func65 rfl (by kernel_rfl) (by kernel_rfl)
theorem q13_call_Parts : PCall P 65 [aS ⟨#[103, 51, 120, 121, 122, 47, 112]⟩] (s_call_Parts.out [.l [[.s ⟨#[103, 51, 120, 121, 122]⟩, .s ⟨#[103, 51]⟩, .s ⟨#[120, 121, 122]⟩, .i 3, .s ⟨#[]⟩]], .t true]) := fn_pure (L := nL0) hm ucall_Parts_106_ok [] (fun _ _ => nLk _ _ _) Tryz.func65 rfl (by kernel_rfl) (by kernel_rfl)
theorem c_call_Parts : ∀ d r, F_call_Parts d = some r → ACallX P 65 (s_call_Parts.args0 d) (denH (s_call_Parts.H0 d)) (s_call_Parts.out r) (denH (s_call_Parts.H1 r)) := fun d r h => by
 have h := lookS_mem h
 have key : PCall P 65 [aS (gi d 0).str] (s_call_Parts.out r) := by
  generalize (gi d 0).str = s at h
  simp only [tab_call_Parts, List.mem_cons, List.not_mem_nil, or_false, Prod.mk.injEq] at h
  rcases h with ⟨rfl, rfl⟩ | ⟨rfl, rfl⟩ | ⟨rfl, rfl⟩ | ⟨rfl, rfl⟩ | ⟨rfl, rfl⟩ | ⟨rfl, rfl⟩ | ⟨rfl, rfl⟩ | ⟨rfl, rfl⟩ | ⟨rfl, rfl⟩ | ⟨rfl, rfl⟩ | ⟨rfl, rfl⟩ | ⟨rfl, rfl⟩ | ⟨rfl, rfl⟩ | ⟨rfl, rfl⟩
  ·exact q0_call_Parts
  ·exact q1_call_Parts
  ·exact q2_call_Parts
  ·exact q3_call_Parts
  ·exact q4_call_Parts
  ·exact q5_call_Parts
  ·exact q6_call_Parts
  ·exact q7_call_Parts
  ·exact q8_call_Parts
  ·exact q9_call_Parts
  ·exact q10_call_Parts
  ·exact q11_call_Parts
  ·exact q12_call_Parts
  ·exact q13_call_Parts
 exact key []
def t6 : Tab := t5.addP s_call_Parts
theorem t6_ok : TabOK P t6 := t5_ok.aP c_call_Parts
def ur1_PartsOf_238 : Tab := t6.inline P 238 Tryz.f238 []
theorem ur1_PartsOf_238_ok : TabOK P ur1_PartsOf_238 := t6_ok.inline hm Tryz.func238 (by kernel_rfl) []
def ur1_PartsOf_256 : Tab := ur1_PartsOf_238.inline P 256 Tryz.f256 []
theorem ur1_PartsOf_256_ok : TabOK P ur1_PartsOf_256 := ur1_PartsOf_238_ok.inline hm Tryz.func256 (by kernel_rfl) []
def ur1_PartsOf_239 : Tab := ur1_PartsOf_256.inline P 239 Tryz.f239 []
theorem ur1_PartsOf_239_ok : TabOK P ur1_PartsOf_239 := ur1_PartsOf_256_ok.inline hm Tryz.func239 (by kernel_rfl) []
def ur1_PartsOf_193 : Tab := ur1_PartsOf_239.inline P 193 Tryz.f193 []
theorem ur1_PartsOf_193_ok : TabOK P ur1_PartsOf_193 := ur1_PartsOf_239_ok.inline hm Tryz.func193 (by kernel_rfl) []
def ur1_PartsOf_148 : Tab := ur1_PartsOf_193.inline P 148 Tryz.f148 []
theorem ur1_PartsOf_148_ok : TabOK P ur1_PartsOf_148 := ur1_PartsOf_193_ok.inline hm Tryz.func148 (by kernel_rfl) []
def ur1_PartsOf_104 : Tab := ur1_PartsOf_148.inline P 104 Tryz.f104 []
theorem ur1_PartsOf_104_ok : TabOK P ur1_PartsOf_104 := ur1_PartsOf_148_ok.inline hm Tryz.func104 (by kernel_rfl) []
def ur1_PartsOf_132 : Tab := ur1_PartsOf_104.inline P 132 Tryz.f132 []
theorem ur1_PartsOf_132_ok : TabOK P ur1_PartsOf_132 := ur1_PartsOf_104_ok.inline hm Tryz.func132 (by kernel_rfl) []
def ur1_PartsOf_173 : Tab := ur1_PartsOf_132.inline P 173 Tryz.f173 []
theorem ur1_PartsOf_173_ok : TabOK P ur1_PartsOf_173 := ur1_PartsOf_132_ok.inline hm Tryz.func173 (by kernel_rfl) []
def ur1_PartsOf_212 : Tab := ur1_PartsOf_173.inline P 212 Tryz.f212 []
theorem ur1_PartsOf_212_ok : TabOK P ur1_PartsOf_212 := ur1_PartsOf_173_ok.inline hm Tryz.func212 (by kernel_rfl) []
def ur1_PartsOf_174 : Tab := ur1_PartsOf_212.inline P 174 Tryz.f174 []
theorem ur1_PartsOf_174_ok : TabOK P ur1_PartsOf_174 := ur1_PartsOf_212_ok.inline hm Tryz.func174 (by kernel_rfl) []
def ur1_PartsOf_213 : Tab := ur1_PartsOf_174.inline P 213 Tryz.f213 []
theorem ur1_PartsOf_213_ok : TabOK P ur1_PartsOf_213 := ur1_PartsOf_174_ok.inline hm Tryz.func213 (by kernel_rfl) []
def ur1_PartsOf_176 : Tab := ur1_PartsOf_213.inline P 176 Tryz.f176 []
theorem ur1_PartsOf_176_ok : TabOK P ur1_PartsOf_176 := ur1_PartsOf_213_ok.inline hm Tryz.func176 (by kernel_rfl) []
def ur1_PartsOf_247 : Tab := ur1_PartsOf_176.inline P 247 Tryz.f247 []
theorem ur1_PartsOf_247_ok : TabOK P ur1_PartsOf_247 := ur1_PartsOf_176_ok.inline hm Tryz.func247 (by kernel_rfl) []
def ur1_PartsOf_209 : Tab := ur1_PartsOf_247.inline P 209 Tryz.f209 []
theorem ur1_PartsOf_209_ok : TabOK P ur1_PartsOf_209 := ur1_PartsOf_247_ok.inline hm Tryz.func209 (by kernel_rfl) []
def ur1_PartsOf_210 : Tab := ur1_PartsOf_209.inline P 210 Tryz.f210 []
theorem ur1_PartsOf_210_ok : TabOK P ur1_PartsOf_210 := ur1_PartsOf_209_ok.inline hm Tryz.func210 (by kernel_rfl) []
def ur1_PartsOf_168 : Tab := ur1_PartsOf_210.inline P 168 Tryz.f168 []
theorem ur1_PartsOf_168_ok : TabOK P ur1_PartsOf_168 := ur1_PartsOf_210_ok.inline hm Tryz.func168 (by kernel_rfl) []
def ur1_PartsOf_170 : Tab := ur1_PartsOf_168.inline P 170 Tryz.f170 []
theorem ur1_PartsOf_170_ok : TabOK P ur1_PartsOf_170 := ur1_PartsOf_168_ok.inline hm Tryz.func170 (by kernel_rfl) []
def ur1_PartsOf_211 : Tab := ur1_PartsOf_170.inline P 211 Tryz.f211 []
theorem ur1_PartsOf_211_ok : TabOK P ur1_PartsOf_211 := ur1_PartsOf_170_ok.inline hm Tryz.func211 (by kernel_rfl) []
def ur1_PartsOf_171 : Tab := ur1_PartsOf_211.inline P 171 Tryz.f171 []
theorem ur1_PartsOf_171_ok : TabOK P ur1_PartsOf_171 := ur1_PartsOf_211_ok.inline hm Tryz.func171 (by kernel_rfl) []
def ur1_PartsOf_169 : Tab := ur1_PartsOf_171.inline P 169 Tryz.f169 []
theorem ur1_PartsOf_169_ok : TabOK P ur1_PartsOf_169 := ur1_PartsOf_171_ok.inline hm Tryz.func169 (by kernel_rfl) []
def ur1_PartsOf_125 : Tab := ur1_PartsOf_169.inline P 125 Tryz.f125 []
theorem ur1_PartsOf_125_ok : TabOK P ur1_PartsOf_125 := ur1_PartsOf_169_ok.inline hm Tryz.func125 (by kernel_rfl) []
def ur1_PartsOf_124 : Tab := ur1_PartsOf_125.inline P 124 Tryz.f124 []
theorem ur1_PartsOf_124_ok : TabOK P ur1_PartsOf_124 := ur1_PartsOf_125_ok.inline hm Tryz.func124 (by kernel_rfl) []
def ur1_PartsOf_126 : Tab := ur1_PartsOf_124.inline P 126 Tryz.f126 []
theorem ur1_PartsOf_126_ok : TabOK P ur1_PartsOf_126 := ur1_PartsOf_124_ok.inline hm Tryz.func126 (by kernel_rfl) []
def ur1_PartsOf_161 : Tab := ur1_PartsOf_126.inline P 161 Tryz.f161 []
theorem ur1_PartsOf_161_ok : TabOK P ur1_PartsOf_161 := ur1_PartsOf_126_ok.inline hm Tryz.func161 (by kernel_rfl) []
def ur1_PartsOf_127 : Tab := ur1_PartsOf_161.inline P 127 Tryz.f127 []
theorem ur1_PartsOf_127_ok : TabOK P ur1_PartsOf_127 := ur1_PartsOf_161_ok.inline hm Tryz.func127 (by kernel_rfl) []
def tab_r1_PartsOf : List (ByteArray × List G) := [(⟨#[]⟩, [.l [[.s ⟨#[]⟩, .s ⟨#[]⟩, .s ⟨#[]⟩, .i 0, .s ⟨#[]⟩]], .t false]), (⟨#[107, 49]⟩, [.l [[.s ⟨#[]⟩, .s ⟨#[]⟩, .s ⟨#[]⟩, .i 0, .s ⟨#[]⟩]], .t false]), (⟨#[75, 49, 65, 66]⟩, [.l [[.s ⟨#[]⟩, .s ⟨#[]⟩, .s ⟨#[]⟩, .i 0, .s ⟨#[]⟩]], .t false]), (⟨#[107, 49, 97, 98, 47]⟩, [.l [[.s ⟨#[]⟩, .s ⟨#[]⟩, .s ⟨#[]⟩, .i 0, .s ⟨#[]⟩]], .t false]), (⟨#[49, 97]⟩, [.l [[.s ⟨#[]⟩, .s ⟨#[]⟩, .s ⟨#[]⟩, .i 0, .s ⟨#[]⟩]], .t false]), (⟨#[107, 49, 97, 98, 47, 109, 109, 47, 112]⟩, [.l [[.s ⟨#[]⟩, .s ⟨#[]⟩, .s ⟨#[]⟩, .i 0, .s ⟨#[]⟩]], .t false]), (⟨#[107, 49, 97, 98]⟩, [.l [[.s ⟨#[107, 49, 97, 98]⟩, .s ⟨#[107, 49]⟩, .s ⟨#[97, 98]⟩, .i 0, .s ⟨#[]⟩]], .t true]), (⟨#[107, 49, 97, 97]⟩, [.l [[.s ⟨#[107, 49, 97, 97]⟩, .s ⟨#[107, 49]⟩, .s ⟨#[97, 97]⟩, .i 0, .s ⟨#[]⟩]], .t true]), (⟨#[107, 49, 97, 98, 47, 52]⟩, [.l [[.s ⟨#[107, 49, 97, 98]⟩, .s ⟨#[107, 49]⟩, .s ⟨#[97, 98]⟩, .i 2, .s ⟨#[52]⟩]], .t true]), (⟨#[111, 104, 50, 97, 98, 99]⟩, [.l [[.s ⟨#[111, 104, 50, 97, 98, 99]⟩, .s ⟨#[111, 104, 50]⟩, .s ⟨#[97, 98, 99]⟩, .i 0, .s ⟨#[]⟩]], .t true]), (⟨#[111, 104, 50, 97, 98, 100]⟩, [.l [[.s ⟨#[111, 104, 50, 97, 98, 100]⟩, .s ⟨#[111, 104, 50]⟩, .s ⟨#[97, 98, 100]⟩, .i 0, .s ⟨#[]⟩]], .t true]), (⟨#[119, 49, 97, 119]⟩, [.l [[.s ⟨#[119, 49, 97, 119]⟩, .s ⟨#[119, 49]⟩, .s ⟨#[97, 119]⟩, .i 0, .s ⟨#[]⟩]], .t true]), (⟨#[110, 49, 109, 109]⟩, [.l [[.s ⟨#[110, 49, 109, 109]⟩, .s ⟨#[110, 49]⟩, .s ⟨#[109, 109]⟩, .i 0, .s ⟨#[]⟩]], .t true]), (⟨#[103, 51, 120, 121, 122, 47, 112]⟩, [.l [[.s ⟨#[103, 51, 120, 121, 122]⟩, .s ⟨#[103, 51]⟩, .s ⟨#[120, 121, 122]⟩, .i 3, .s ⟨#[]⟩]], .t true])]
def F_r1_PartsOf (d : List G) : Option (List G) := lookS tab_r1_PartsOf (gi d 0).str
def s_r1_PartsOf : FSpec := ⟨84, [.s (.str)], [], [], [.s (.row KParts), .s (.bool)], [], [], [], F_r1_PartsOf⟩
theorem q0_r1_PartsOf : PCall P 84 [aS ⟨#[]⟩] (s_r1_PartsOf.out [.l [[.s ⟨#[]⟩, .s ⟨#[]⟩, .s ⟨#[]⟩, .i 0, .s ⟨#[]⟩]], .t false]) := fn_pure (L := nL0) hm ur1_PartsOf_127_ok [] (fun _ _ => nLk _ _ _) Tryz.func84 rfl (by kernel_rfl) (by kernel_rfl)
theorem q1_r1_PartsOf : PCall P 84 [aS ⟨#[107, 49]⟩] (s_r1_PartsOf.out [.l [[.s ⟨#[]⟩, .s ⟨#[]⟩, .s ⟨#[]⟩, .i 0, .s ⟨#[]⟩]], .t false]) := fn_pure (L := nL0) hm ur1_PartsOf_127_ok [] (fun _ _ => nLk _ _ _) Tryz.func84 rfl (by kernel_rfl) (by kernel_rfl)
theorem q2_r1_PartsOf : PCall P 84 [aS ⟨#[75, 49, 65, 66]⟩] (s_r1_PartsOf.out [.l [[.s ⟨#[]⟩, .s ⟨#[]⟩, .s ⟨#[]⟩, .i 0, .s ⟨#[]⟩]], .t false]) := fn_pure (L := nL0) hm ur1_PartsOf_127_ok [] (fun _ _ => nLk _ _ _) Tryz.func84 rfl (by kernel_rfl) (by kernel_rfl)
theorem q3_r1_PartsOf : PCall P 84 [aS ⟨#[107, 49, 97, 98, 47]⟩] (s_r1_PartsOf.out [.l [[.s ⟨#[]⟩, .s ⟨#[]⟩, .s ⟨#[]⟩, .i 0, .s ⟨#[]⟩]], .t false]) := fn_pure (L := nL0) hm ur1_PartsOf_127_ok [] (fun _ _ => nLk _ _ _) Tryz.func84 rfl (by kernel_rfl) (by kernel_rfl)
theorem q4_r1_PartsOf : PCall P 84 [aS ⟨#[49, 97]⟩] (s_r1_PartsOf.out [.l [[.s ⟨#[]⟩, .s ⟨#[]⟩, .s ⟨#[]⟩, .i 0, .s ⟨#[]⟩]], .t false]) := fn_pure (L := nL0) hm ur1_PartsOf_127_ok [] (fun _ _ => nLk _ _ _) Tryz.func84 rfl (by kernel_rfl) (by kernel_rfl)
theorem q5_r1_PartsOf : PCall P 84 [aS ⟨#[107, 49, 97, 98, 47, 109, 109, 47, 112]⟩] (s_r1_PartsOf.out [.l [[.s ⟨#[]⟩, .s ⟨#[]⟩, .s ⟨#[]⟩, .i 0, .s ⟨#[]⟩]], .t false]) := fn_pure (L := nL0) hm ur1_PartsOf_127_ok [] (fun _ _ => nLk _ _ _) Tryz.func84 rfl (by kernel_rfl) (by kernel_rfl)
theorem q6_r1_PartsOf : PCall P 84 [aS ⟨#[107, 49, 97, 98]⟩] (s_r1_PartsOf.out [.l [[.s ⟨#[107, 49, 97, 98]⟩, .s ⟨#[107, 49]⟩, .s ⟨#[97, 98]⟩, .i 0, .s ⟨#[]⟩]], .t true]) := fn_pure (L := nL0) hm ur1_PartsOf_127_ok [] (fun _ _ => nLk _ _ _) Tryz.func84 rfl (by kernel_rfl) (by kernel_rfl)
theorem q7_r1_PartsOf : PCall P 84 [aS ⟨#[107, 49, 97, 97]⟩] (s_r1_PartsOf.out [.l [[.s ⟨#[107, 49, 97, 97]⟩, .s ⟨#[107, 49]⟩, .s ⟨#[97, 97]⟩, .i 0, .s ⟨#[]⟩]], .t true]) := fn_pure (L := nL0) hm ur1_PartsOf_127_ok [] (fun _ _ => nLk _ _ _) Tryz.func84 rfl (by kernel_rfl) (by kernel_rfl)
theorem q8_r1_PartsOf : PCall P 84 [aS ⟨#[107, 49, 97, 98, 47, 52]⟩] (s_r1_PartsOf.out [.l [[.s ⟨#[107, 49, 97, 98]⟩, .s ⟨#[107, 49]⟩, .s ⟨#[97, 98]⟩, .i 2, .s ⟨#[52]⟩]], .t true]) := fn_pure (L := nL0) hm ur1_PartsOf_127_ok [] (fun _ _ => nLk _ _ _) Tryz.func84 rfl (by kernel_rfl) (by kernel_rfl)
theorem q9_r1_PartsOf : PCall P 84 [aS ⟨#[111, 104, 50, 97, 98, 99]⟩] (s_r1_PartsOf.out [.l [[.s ⟨#[111, 104, 50, 97, 98, 99]⟩, .s ⟨#[111, 104, 50]⟩, .s ⟨#[97, 98, 99]⟩, .i 0, .s ⟨#[]⟩]], .t true]) := fn_pure (L := nL0) hm ur1_PartsOf_127_ok [] (fun _ _ => nLk _ _ _) Tryz.func84 rfl (by kernel_rfl) (by kernel_rfl)
theorem q10_r1_PartsOf : PCall P 84 [aS ⟨#[111, 104, 50, 97, 98, 100]⟩] (s_r1_PartsOf.out [.l [[.s ⟨#[111, 104, 50, 97, 98, 100]⟩, .s ⟨#[111, 104, 50]⟩, .s ⟨#[97, 98, 100]⟩, .i 0, .s ⟨#[]⟩]], .t true]) := fn_pure (L := nL0) hm ur1_PartsOf_127_ok [] (fun _ _ => nLk _ _ _) Tryz.func84 rfl (by kernel_rfl) (by kernel_rfl)
theorem q11_r1_PartsOf : PCall P 84 [aS ⟨#[119, 49, 97, 119]⟩] (s_r1_PartsOf.out [.l [[.s ⟨#[119, 49, 97, 119]⟩, .s ⟨#[119, 49]⟩, .s ⟨#[97, 119]⟩, .i 0, .s ⟨#[]⟩]], .t true]) := fn_pure (L := nL0) hm ur1_PartsOf_127_ok [] (fun _ _ => nLk _ _ _) Tryz.func84 rfl (by kernel_rfl) (by kernel_rfl)
theorem q12_r1_PartsOf : PCall P 84 [aS ⟨#[110, 49, 109, 109]⟩] (s_r1_PartsOf.out [.l [[.s ⟨#[110, 49, 109, 109]⟩, .s ⟨#[110, 49]⟩, .s ⟨#[109, 109]⟩, .i 0, .s ⟨#[]⟩]], .t true]) := fn_pure (L := nL0) hm ur1_PartsOf_127_ok [] (fun _ _ => nLk _ _ _) Tryz.func84 rfl (by kernel_rfl) (by kernel_rfl)
theorem q13_r1_PartsOf : PCall P 84 [aS ⟨#[103, 51, 120, 121, 122, 47, 112]⟩] (s_r1_PartsOf.out [.l [[.s ⟨#[103, 51, 120, 121, 122]⟩, .s ⟨#[103, 51]⟩, .s ⟨#[120, 121, 122]⟩, .i 3, .s ⟨#[]⟩]], .t true]) := fn_pure (L := nL0) hm ur1_PartsOf_127_ok [] (fun _ _ => nLk _ _ _) Tryz.func84 rfl (by kernel_rfl) (by kernel_rfl)
theorem c_r1_PartsOf : ∀ d r, F_r1_PartsOf d = some r → ACallX P 84 (s_r1_PartsOf.args0 d) (denH (s_r1_PartsOf.H0 d)) (s_r1_PartsOf.out r) (denH (s_r1_PartsOf.H1 r)) := fun d r h => by
 have h := lookS_mem h
 have key : PCall P 84 [aS (gi d 0).str] (s_r1_PartsOf.out r) := by
  generalize (gi d 0).str = s at h
  simp only [tab_r1_PartsOf, List.mem_cons, List.not_mem_nil, or_false, Prod.mk.injEq] at h
  rcases h with ⟨rfl, rfl⟩ | ⟨rfl, rfl⟩ | ⟨rfl, rfl⟩ | ⟨rfl, rfl⟩ | ⟨rfl, rfl⟩ | ⟨rfl, rfl⟩ | ⟨rfl, rfl⟩ | ⟨rfl, rfl⟩ | ⟨rfl, rfl⟩ | ⟨rfl, rfl⟩ | ⟨rfl, rfl⟩ | ⟨rfl, rfl⟩ | ⟨rfl, rfl⟩ | ⟨rfl, rfl⟩
  ·exact q0_r1_PartsOf
  ·exact q1_r1_PartsOf
  ·exact q2_r1_PartsOf
  ·exact q3_r1_PartsOf
  ·exact q4_r1_PartsOf
  ·exact q5_r1_PartsOf
  ·exact q6_r1_PartsOf
  ·exact q7_r1_PartsOf
  ·exact q8_r1_PartsOf
  ·exact q9_r1_PartsOf
  ·exact q10_r1_PartsOf
  ·exact q11_r1_PartsOf
  ·exact q12_r1_PartsOf
  ·exact q13_r1_PartsOf
 exact key []
def t7 : Tab := t6.addP s_r1_PartsOf
theorem t7_ok : TabOK P t7 := t6_ok.aP c_r1_PartsOf
end
end Go.Proofs.SYtooejlhignkdgaaGreatDoor
