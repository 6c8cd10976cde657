/- The law latecomerlaw10.BeliefMatchesReference returns true for every input, and each argument reads afterwards as it read before. Part 4 of 14. No condition. -/
import Derived.Test.YtoaaemmchnfilaaLatC
import Derived.Test.YtoaaemmchnfilaaProg
import Derived.KernelRfl
import Derived.WideShapes
set_option linter.unusedVariables false
set_option linter.unusedSimpArgs false
set_option linter.unnecessarySimpa false
namespace Go.Lat
open Go.RowKit Go.Proofs
set_option maxRecDepth 100000
def tt : TT := fun t =>
  if t = 3 then some ⟨.int .i64, 1, 8, [.int .i64 0]⟩ else
  if t = 36 then some ⟨.int .i64, 1, 8, [.int .i64 0]⟩ else
  if t = 73 then some ⟨.int .i64, 1, 8, [.int .i64 0]⟩ else
  if t = 115 then some ⟨.int .u64, 1, 8, [.int .u64 0]⟩ else
  if t = 121 then some ⟨.int .u64, 1, 8, [.int .u64 0]⟩ else
  if t = 4 then some ⟨.bool, 1, 1, [.bool false]⟩ else
  if t = 22 then some ⟨.sl 29, 1, 24, [.nilS]⟩ else
  if t = 23 then some ⟨.sl 3, 1, 24, [.nilS]⟩ else
  if t = 28 then some ⟨.sl 66, 1, 24, [.nilS]⟩ else
  if t = 51 then some ⟨.sl 23, 1, 24, [.nilS]⟩ else
  if t = 57 then some ⟨.sl 61, 1, 24, [.nilS]⟩ else
  if t = 76 then some ⟨.sl 53, 1, 24, [.nilS]⟩ else
  if t = 109 then some ⟨.sl 104, 1, 24, [.nilS]⟩ else
  if t = 33 then some ⟨.sl 27, 1, 24, [.nilS]⟩ else
  if t = 35 then some ⟨.sl 28, 1, 24, [.nilS]⟩ else
  if t = 66 then some ⟨.st [(0, 3), (1, 3), (2, 3), (3, 3)], 4, 32, [.int .i64 0, .int .i64 0, .int .i64 0, .int .i64 0]⟩ else
  if t = 29 then some ⟨.ar 3 3, 3, 24, [.int .i64 0, .int .i64 0, .int .i64 0]⟩ else
  if t = 61 then some ⟨.ar 2 3, 2, 16, [.int .i64 0, .int .i64 0]⟩ else
  if t = 53 then some ⟨.st [(0, 3), (1, 51)], 2, 32, [.int .i64 0, .nilS]⟩ else
  if t = 88 then some ⟨.st [(0, 3), (1, 28)], 2, 32, [.int .i64 0, .nilS]⟩ else
  if t = 27 then some ⟨.st [(0, 23), (1, 3), (2, 3), (3, 23), (4, 23)], 5, 88, [.nilS, .int .i64 0, .int .i64 0, .nilS, .nilS]⟩ else
  if t = 75 then some ⟨.st [(0, 53), (2, 73)], 3, 40, [.int .i64 0, .nilS, .int .i64 0]⟩ else
  if t = 25 then some ⟨.st [(0, 3), (1, 3), (2, 22), (3, 23), (4, 3)], 5, 72, [.int .i64 0, .int .i64 0, .nilS, .nilS, .int .i64 0]⟩ else
  if t = 84 then some ⟨.one, 1, 8, [.nilP]⟩ else
  if t = 104 then some ⟨.ar 24 3, 24, 192, List.replicate 24 (.int .i64 0)⟩ else
  if t = 108 then some ⟨.ar 24 104, 576, 4608, List.replicate 576 (.int .i64 0)⟩ else
  none
theorem tt3 : tt 3 = some ⟨.int .i64, 1, 8, [.int .i64 0]⟩ := by rfl
theorem tt36 : tt 36 = some ⟨.int .i64, 1, 8, [.int .i64 0]⟩ := by rfl
theorem tt73 : tt 73 = some ⟨.int .i64, 1, 8, [.int .i64 0]⟩ := by rfl
theorem tt115 : tt 115 = some ⟨.int .u64, 1, 8, [.int .u64 0]⟩ := by rfl
theorem tt121 : tt 121 = some ⟨.int .u64, 1, 8, [.int .u64 0]⟩ := by rfl
theorem tt4 : tt 4 = some ⟨.bool, 1, 1, [.bool false]⟩ := by rfl
theorem tt22 : tt 22 = some ⟨.sl 29, 1, 24, [.nilS]⟩ := by rfl
theorem tt23 : tt 23 = some ⟨.sl 3, 1, 24, [.nilS]⟩ := by rfl
theorem tt28 : tt 28 = some ⟨.sl 66, 1, 24, [.nilS]⟩ := by rfl
theorem tt51 : tt 51 = some ⟨.sl 23, 1, 24, [.nilS]⟩ := by rfl
theorem tt57 : tt 57 = some ⟨.sl 61, 1, 24, [.nilS]⟩ := by rfl
theorem tt76 : tt 76 = some ⟨.sl 53, 1, 24, [.nilS]⟩ := by rfl
theorem tt109 : tt 109 = some ⟨.sl 104, 1, 24, [.nilS]⟩ := by rfl
theorem tt33 : tt 33 = some ⟨.sl 27, 1, 24, [.nilS]⟩ := by rfl
theorem tt35 : tt 35 = some ⟨.sl 28, 1, 24, [.nilS]⟩ := by rfl
theorem tt66 : tt 66 = some ⟨.st [(0, 3), (1, 3), (2, 3), (3, 3)], 4, 32, [.int .i64 0, .int .i64 0, .int .i64 0, .int .i64 0]⟩ := by rfl
theorem tt29 : tt 29 = some ⟨.ar 3 3, 3, 24, [.int .i64 0, .int .i64 0, .int .i64 0]⟩ := by rfl
theorem tt61 : tt 61 = some ⟨.ar 2 3, 2, 16, [.int .i64 0, .int .i64 0]⟩ := by rfl
theorem tt53 : tt 53 = some ⟨.st [(0, 3), (1, 51)], 2, 32, [.int .i64 0, .nilS]⟩ := by rfl
theorem tt88 : tt 88 = some ⟨.st [(0, 3), (1, 28)], 2, 32, [.int .i64 0, .nilS]⟩ := by rfl
theorem tt27 : tt 27 = some ⟨.st [(0, 23), (1, 3), (2, 3), (3, 23), (4, 23)], 5, 88, [.nilS, .int .i64 0, .int .i64 0, .nilS, .nilS]⟩ := by rfl
theorem tt75 : tt 75 = some ⟨.st [(0, 53), (2, 73)], 3, 40, [.int .i64 0, .nilS, .int .i64 0]⟩ := by rfl
theorem tt25 : tt 25 = some ⟨.st [(0, 3), (1, 3), (2, 22), (3, 23), (4, 3)], 5, 72, [.int .i64 0, .int .i64 0, .nilS, .nilS, .int .i64 0]⟩ := by rfl
theorem tt84 : tt 84 = some ⟨.one, 1, 8, [.nilP]⟩ := by rfl
theorem tt104 : tt 104 = some ⟨.ar 24 3, 24, 192, List.replicate 24 (.int .i64 0)⟩ := by rfl
theorem tt108 : tt 108 = some ⟨.ar 24 104, 576, 4608, List.replicate 576 (.int .i64 0)⟩ := by rfl
theorem tok3 : TOk Try.prog 3 ⟨.int .i64, 1, 8, [.int .i64 0]⟩ where
  info := ⟨Try.t3, _, Try.type3, rfl, rfl, rfl, by simp [Value.cells, VRs, VR], by simp [Value.cells, Value.oneCell'], rfl⟩
  kind := Try.underlying3
  eqs := trivial
theorem tok36 : TOk Try.prog 36 ⟨.int .i64, 1, 8, [.int .i64 0]⟩ where
  info := ⟨Try.t36, _, Try.type36, rfl, rfl, rfl, by simp [Value.cells, VRs, VR], by simp [Value.cells, Value.oneCell'], rfl⟩
  kind := Try.underlying36
  eqs := trivial
theorem tok73 : TOk Try.prog 73 ⟨.int .i64, 1, 8, [.int .i64 0]⟩ where
  info := ⟨Try.t73, _, Try.type73, rfl, rfl, rfl, by simp [Value.cells, VRs, VR], by simp [Value.cells, Value.oneCell'], rfl⟩
  kind := Try.underlying73
  eqs := trivial
theorem tok115 : TOk Try.prog 115 ⟨.int .u64, 1, 8, [.int .u64 0]⟩ where
  info := ⟨Try.t115, _, Try.type115, rfl, rfl, rfl, by simp [Value.cells, VRs, VR], by simp [Value.cells, Value.oneCell'], rfl⟩
  kind := Try.underlying115
  eqs := trivial
theorem tok121 : TOk Try.prog 121 ⟨.int .u64, 1, 8, [.int .u64 0]⟩ where
  info := ⟨Try.t121, _, Try.type121, rfl, rfl, rfl, by simp [Value.cells, VRs, VR], by simp [Value.cells, Value.oneCell'], rfl⟩
  kind := Try.underlying121
  eqs := trivial
theorem tok4 : TOk Try.prog 4 ⟨.bool, 1, 1, [.bool false]⟩ where
  info := ⟨Try.t4, _, Try.type4, rfl, rfl, rfl, by simp [Value.cells, VRs, VR], by simp [Value.cells, Value.oneCell'], rfl⟩
  kind := Try.underlying4
  eqs := trivial
theorem tok22 : TOk Try.prog 22 ⟨.sl 29, 1, 24, [.nilS]⟩ where
  info := ⟨Try.t22, _, Try.type22, rfl, rfl, rfl, by simp [Value.cells, VRs, VR], by simp [Value.cells, Value.oneCell'], rfl⟩
  kind := Try.underlying22
  eqs := trivial
theorem tok23 : TOk Try.prog 23 ⟨.sl 3, 1, 24, [.nilS]⟩ where
  info := ⟨Try.t23, _, Try.type23, rfl, rfl, rfl, by simp [Value.cells, VRs, VR], by simp [Value.cells, Value.oneCell'], rfl⟩
  kind := Try.underlying23
  eqs := trivial
theorem tok28 : TOk Try.prog 28 ⟨.sl 66, 1, 24, [.nilS]⟩ where
  info := ⟨Try.t28, _, Try.type28, rfl, rfl, rfl, by simp [Value.cells, VRs, VR], by simp [Value.cells, Value.oneCell'], rfl⟩
  kind := Try.underlying28
  eqs := trivial
theorem tok51 : TOk Try.prog 51 ⟨.sl 23, 1, 24, [.nilS]⟩ where
  info := ⟨Try.t51, _, Try.type51, rfl, rfl, rfl, by simp [Value.cells, VRs, VR], by simp [Value.cells, Value.oneCell'], rfl⟩
  kind := Try.underlying51
  eqs := trivial
theorem tok57 : TOk Try.prog 57 ⟨.sl 61, 1, 24, [.nilS]⟩ where
  info := ⟨Try.t57, _, Try.type57, rfl, rfl, rfl, by simp [Value.cells, VRs, VR], by simp [Value.cells, Value.oneCell'], rfl⟩
  kind := Try.underlying57
  eqs := trivial
theorem tok76 : TOk Try.prog 76 ⟨.sl 53, 1, 24, [.nilS]⟩ where
  info := ⟨Try.t76, _, Try.type76, rfl, rfl, rfl, by simp [Value.cells, VRs, VR], by simp [Value.cells, Value.oneCell'], rfl⟩
  kind := Try.underlying76
  eqs := trivial
theorem tok109 : TOk Try.prog 109 ⟨.sl 104, 1, 24, [.nilS]⟩ where
  info := ⟨Try.t109, _, Try.type109, rfl, rfl, rfl, by simp [Value.cells, VRs, VR], by simp [Value.cells, Value.oneCell'], rfl⟩
  kind := Try.underlying109
  eqs := trivial
theorem tok33 : TOk Try.prog 33 ⟨.sl 27, 1, 24, [.nilS]⟩ where
  info := ⟨Try.t33, _, Try.type33, rfl, rfl, rfl, by simp [Value.cells, VRs, VR], by simp [Value.cells, Value.oneCell'], rfl⟩
  kind := Try.underlying33
  eqs := trivial
theorem tok35 : TOk Try.prog 35 ⟨.sl 28, 1, 24, [.nilS]⟩ where
  info := ⟨Try.t35, _, Try.type35, rfl, rfl, rfl, by simp [Value.cells, VRs, VR], by simp [Value.cells, Value.oneCell'], rfl⟩
  kind := Try.underlying35
  eqs := trivial
theorem tok66 : TOk Try.prog 66 ⟨.st [(0, 3), (1, 3), (2, 3), (3, 3)], 4, 32, [.int .i64 0, .int .i64 0, .int .i64 0, .int .i64 0]⟩ where
  info := ⟨Try.t66, _, Try.type66, rfl, rfl, rfl, by simp [Value.cells, VRs, VR], by simp [Value.cells, Value.oneCell'], rfl⟩
  kind := ⟨_, Try.underlying66, rfl, by
    intro f hf
    simp only [List.mem_cons, List.not_mem_nil, or_false] at hf
    rcases hf with rfl | rfl | rfl | rfl
    . exact ⟨_, Try.type3⟩
    . exact ⟨_, Try.type3⟩
    . exact ⟨_, Try.type3⟩
    . exact ⟨_, Try.type3⟩⟩
  eqs := ⟨by kernel_rfl, by kernel_rfl, by intro F hF; rw [Try.underlying66] at hF; cases hF; simp⟩
theorem tok29 : TOk Try.prog 29 ⟨.ar 3 3, 3, 24, [.int .i64 0, .int .i64 0, .int .i64 0]⟩ where
  info := ⟨Try.t29, _, Try.type29, rfl, rfl, rfl, by simp [Value.cells, VRs, VR], by simp [Value.cells, Value.oneCell'], rfl⟩
  kind := Try.underlying29
  eqs := trivial
theorem tok61 : TOk Try.prog 61 ⟨.ar 2 3, 2, 16, [.int .i64 0, .int .i64 0]⟩ where
  info := ⟨Try.t61, _, Try.type61, rfl, rfl, rfl, by simp [Value.cells, VRs, VR], by simp [Value.cells, Value.oneCell'], rfl⟩
  kind := Try.underlying61
  eqs := trivial
theorem tok53 : TOk Try.prog 53 ⟨.st [(0, 3), (1, 51)], 2, 32, [.int .i64 0, .nilS]⟩ where
  info := ⟨Try.t53, _, Try.type53, rfl, rfl, rfl, by simp [Value.cells, VRs, VR], by simp [Value.cells, Value.oneCell'], rfl⟩
  kind := ⟨_, Try.underlying53, rfl, by
    intro f hf
    simp only [List.mem_cons, List.not_mem_nil, or_false] at hf
    rcases hf with rfl | rfl
    . exact ⟨_, Try.type3⟩
    . exact ⟨_, Try.type51⟩⟩
  eqs := ⟨by kernel_rfl, by kernel_rfl, by intro F hF; rw [Try.underlying53] at hF; cases hF; simp⟩
theorem tok88 : TOk Try.prog 88 ⟨.st [(0, 3), (1, 28)], 2, 32, [.int .i64 0, .nilS]⟩ where
  info := ⟨Try.t88, _, Try.type88, rfl, rfl, rfl, by simp [Value.cells, VRs, VR], by simp [Value.cells, Value.oneCell'], rfl⟩
  kind := ⟨_, Try.underlying88, rfl, by
    intro f hf
    simp only [List.mem_cons, List.not_mem_nil, or_false] at hf
    rcases hf with rfl | rfl
    . exact ⟨_, Try.type3⟩
    . exact ⟨_, Try.type28⟩⟩
  eqs := ⟨by kernel_rfl, by kernel_rfl, by intro F hF; rw [Try.underlying88] at hF; cases hF; simp⟩
theorem tok27 : TOk Try.prog 27 ⟨.st [(0, 23), (1, 3), (2, 3), (3, 23), (4, 23)], 5, 88, [.nilS, .int .i64 0, .int .i64 0, .nilS, .nilS]⟩ where
  info := ⟨Try.t27, _, Try.type27, rfl, rfl, rfl, by simp [Value.cells, VRs, VR], by simp [Value.cells, Value.oneCell'], rfl⟩
  kind := ⟨_, Try.underlying27, rfl, by
    intro f hf
    simp only [List.mem_cons, List.not_mem_nil, or_false] at hf
    rcases hf with rfl | rfl | rfl | rfl | rfl
    . exact ⟨_, Try.type23⟩
    . exact ⟨_, Try.type3⟩
    . exact ⟨_, Try.type3⟩
    . exact ⟨_, Try.type23⟩
    . exact ⟨_, Try.type23⟩⟩
  eqs := ⟨by kernel_rfl, by kernel_rfl, by intro F hF; rw [Try.underlying27] at hF; cases hF; simp⟩
theorem tok75 : TOk Try.prog 75 ⟨.st [(0, 53), (2, 73)], 3, 40, [.int .i64 0, .nilS, .int .i64 0]⟩ where
  info := ⟨Try.t75, _, Try.type75, rfl, rfl, rfl, by simp [Value.cells, VRs, VR], by simp [Value.cells, Value.oneCell'], rfl⟩
  kind := ⟨_, Try.underlying75, rfl, by
    intro f hf
    simp only [List.mem_cons, List.not_mem_nil, or_false] at hf
    rcases hf with rfl | rfl
    . exact ⟨_, Try.type53⟩
    . exact ⟨_, Try.type73⟩⟩
  eqs := ⟨by kernel_rfl, by kernel_rfl, by intro F hF; rw [Try.underlying75] at hF; cases hF; simp⟩
theorem tok25 : TOk Try.prog 25 ⟨.st [(0, 3), (1, 3), (2, 22), (3, 23), (4, 3)], 5, 72, [.int .i64 0, .int .i64 0, .nilS, .nilS, .int .i64 0]⟩ where
  info := ⟨Try.t25, _, Try.type25, rfl, rfl, rfl, by simp [Value.cells, VRs, VR], by simp [Value.cells, Value.oneCell'], rfl⟩
  kind := ⟨_, Try.underlying25, rfl, by
    intro f hf
    simp only [List.mem_cons, List.not_mem_nil, or_false] at hf
    rcases hf with rfl | rfl | rfl | rfl | rfl
    . exact ⟨_, Try.type3⟩
    . exact ⟨_, Try.type3⟩
    . exact ⟨_, Try.type22⟩
    . exact ⟨_, Try.type23⟩
    . exact ⟨_, Try.type3⟩⟩
  eqs := ⟨by kernel_rfl, by kernel_rfl, by intro F hF; rw [Try.underlying25] at hF; cases hF; simp⟩
theorem tok84 : TOk Try.prog 84 ⟨.one, 1, 8, [.nilP]⟩ where
  info := ⟨Try.t84, _, Try.type84, rfl, rfl, rfl, by simp [Value.cells, VRs, VR], by simp [Value.cells, Value.oneCell'], rfl⟩
  kind := ⟨_, Try.underlying84, by simp, by simp⟩
  eqs := trivial
theorem tok104 : TOk Try.prog 104 ⟨.ar 24 3, 24, 192, List.replicate 24 (.int .i64 0)⟩ where
  info := ⟨Try.t104, .agg (List.replicate 24 (.int .i64 0)).toArray, Try.type104, rfl, rfl, by kernel_rfl, (VRs.replicate (n := 24) (x := .int .i64 0) (v := .int .i64 0) (by simp only [VR])), fun u hu => (by have := List.eq_of_mem_replicate hu; subst this; rfl), List.length_replicate⟩
  kind := Try.underlying104
  eqs := trivial
theorem tok108 : TOk Try.prog 108 ⟨.ar 24 104, 576, 4608, List.replicate 576 (.int .i64 0)⟩ where
  info := ⟨Try.t108, .agg (List.replicate 576 (.int .i64 0)).toArray, Try.type108, rfl, rfl, by kernel_rfl, (VRs.replicate (n := 576) (x := .int .i64 0) (v := .int .i64 0) (by simp only [VR])), fun u hu => (by have := List.eq_of_mem_replicate hu; subst this; rfl), List.length_replicate⟩
  kind := Try.underlying108
  eqs := trivial
theorem ttOk : TsOk Try.prog tt := by
  intro t i h
  by_cases e3 : t = 3
  . subst e3; rw [tt3] at h; cases h; exact tok3
  by_cases e36 : t = 36
  . subst e36; rw [tt36] at h; cases h; exact tok36
  by_cases e73 : t = 73
  . subst e73; rw [tt73] at h; cases h; exact tok73
  by_cases e115 : t = 115
  . subst e115; rw [tt115] at h; cases h; exact tok115
  by_cases e121 : t = 121
  . subst e121; rw [tt121] at h; cases h; exact tok121
  by_cases e4 : t = 4
  . subst e4; rw [tt4] at h; cases h; exact tok4
  by_cases e22 : t = 22
  . subst e22; rw [tt22] at h; cases h; exact tok22
  by_cases e23 : t = 23
  . subst e23; rw [tt23] at h; cases h; exact tok23
  by_cases e28 : t = 28
  . subst e28; rw [tt28] at h; cases h; exact tok28
  by_cases e51 : t = 51
  . subst e51; rw [tt51] at h; cases h; exact tok51
  by_cases e57 : t = 57
  . subst e57; rw [tt57] at h; cases h; exact tok57
  by_cases e76 : t = 76
  . subst e76; rw [tt76] at h; cases h; exact tok76
  by_cases e109 : t = 109
  . subst e109; rw [tt109] at h; cases h; exact tok109
  by_cases e33 : t = 33
  . subst e33; rw [tt33] at h; cases h; exact tok33
  by_cases e35 : t = 35
  . subst e35; rw [tt35] at h; cases h; exact tok35
  by_cases e66 : t = 66
  . subst e66; rw [tt66] at h; cases h; exact tok66
  by_cases e29 : t = 29
  . subst e29; rw [tt29] at h; cases h; exact tok29
  by_cases e61 : t = 61
  . subst e61; rw [tt61] at h; cases h; exact tok61
  by_cases e53 : t = 53
  . subst e53; rw [tt53] at h; cases h; exact tok53
  by_cases e88 : t = 88
  . subst e88; rw [tt88] at h; cases h; exact tok88
  by_cases e27 : t = 27
  . subst e27; rw [tt27] at h; cases h; exact tok27
  by_cases e75 : t = 75
  . subst e75; rw [tt75] at h; cases h; exact tok75
  by_cases e25 : t = 25
  . subst e25; rw [tt25] at h; cases h; exact tok25
  by_cases e84 : t = 84
  . subst e84; rw [tt84] at h; cases h; exact tok84
  by_cases e104 : t = 104
  . subst e104; rw [tt104] at h; cases h; exact tok104
  by_cases e108 : t = 108
  . subst e108; rw [tt108] at h; cases h; exact tok108
  exfalso
  unfold tt at h
  rw [if_neg e3, if_neg e36, if_neg e73, if_neg e115, if_neg e121, if_neg e4, if_neg e22, if_neg e23, if_neg e28, if_neg e51, if_neg e57, if_neg e76, if_neg e109, if_neg e33, if_neg e35, if_neg e66, if_neg e29, if_neg e61, if_neg e53, if_neg e88, if_neg e27, if_neg e75, if_neg e25, if_neg e84, if_neg e104, if_neg e108] at h
  cases h
theorem ttMix : Try.prog.follows .mixedOrders = true := by kernel_rfl
structure Con where
  f : Int
  t : Int
  m : Int
  a : Int
instance : Inhabited Con := ⟨⟨0, 0, 0, 0⟩⟩
def e66 (c : Con) : List AV := [.int .i64 c.f, .int .i64 c.t, .int .i64 c.m, .int .i64 c.a]
theorem enc66 : Enc (fun _ => e66) 4 where
  wd _ _ := rfl
  cv _ _ _ _ := Wks.cons (zZz _ _ _ _) (Wks.cons (zZz _ _ _ _) (Wks.cons (zZz _ _ _ _) (Wks.cons (zZz _ _ _ _) (Wks.refl _))))
  ci _ _ _ := Wks.cons (agI_int _ _ _ _) (Wks.cons (agI_int _ _ _ _) (Wks.cons (agI_int _ _ _ _) (Wks.cons (agI_int _ _ _ _) (Wks.refl _))))
  co _ _ _ := Wks.cons (zY _ _ _ _) (Wks.cons (zY _ _ _ _) (Wks.cons (zY _ _ _ _) (Wks.cons (zY _ _ _ _) (Wks.refl _))))
  sl fl _ := SealVs.cons (SealV.int _ _ _) (SealVs.cons (SealV.int _ _ _) (SealVs.cons (SealV.int _ _ _) (SealVs.cons (SealV.int _ _ _) (SealVs.nil fl))))
  cl _ _ x hx := by
    simp only [e66, List.mem_cons, List.not_mem_nil, or_false] at hx
    rcases hx with rfl | rfl | rfl | rfl <;> rfl
theorem eqf66 : ∀ f ∈ ([(0, 3), (1, 3), (2, 3), (3, 3)] : List (Nat × TypeId)), ∃ s b z, tt f.2 = some ⟨.int .i64, s, b, z⟩ := by
  intro f hf
  simp only [List.mem_cons, List.not_mem_nil, or_false] at hf
  rcases hf with rfl | rfl | rfl | rfl
  . exact ⟨_, _, _, tt3⟩
  . exact ⟨_, _, _, tt3⟩
  . exact ⟨_, _, _, tt3⟩
  . exact ⟨_, _, _, tt3⟩
theorem flat66 (xs : List Con) : ∀ c ∈ zYy e66 xs, flatV c = true := by
  intro c hc
  simp only [zYy, e66, List.mem_flatMap, List.mem_cons, List.not_mem_nil, or_false] at hc
  obtain ⟨x, _, h⟩ := hc
  rcases h with rfl | rfl | rfl | rfl <;> rfl
instance : DecidableEq Con := fun x y => decidable_of_iff (x.f = y.f /\ x.t = y.t /\ x.m = y.m /\ x.a = y.a) (by cases x; cases y; simp)
theorem eq66 (x y : Con) : decide ([x.f, x.t, x.m, x.a] = [y.f, y.t, y.m, y.a]) = decide (x = y) := by
  cases x; cases y; simp
structure A3 where
  x0 : Int
  x1 : Int
  x2 : Int
instance : Inhabited A3 := ⟨⟨0, 0, 0⟩⟩
def e29 (c : A3) : List AV := [.int .i64 c.x0, .int .i64 c.x1, .int .i64 c.x2]
theorem enc29 : Enc (fun _ => e29) 3 where
  wd _ _ := rfl
  cv _ _ _ _ := Wks.cons (zZz _ _ _ _) (Wks.cons (zZz _ _ _ _) (Wks.cons (zZz _ _ _ _) (Wks.refl _)))
  ci _ _ _ := Wks.cons (agI_int _ _ _ _) (Wks.cons (agI_int _ _ _ _) (Wks.cons (agI_int _ _ _ _) (Wks.refl _)))
  co _ _ _ := Wks.cons (zY _ _ _ _) (Wks.cons (zY _ _ _ _) (Wks.cons (zY _ _ _ _) (Wks.refl _)))
  sl fl _ := SealVs.cons (SealV.int _ _ _) (SealVs.cons (SealV.int _ _ _) (SealVs.cons (SealV.int _ _ _) (SealVs.nil fl)))
  cl _ _ x hx := by
    simp only [e29, List.mem_cons, List.not_mem_nil, or_false] at hx
    rcases hx with rfl | rfl | rfl <;> rfl
structure A2 where
  y0 : Int
  y1 : Int
instance : Inhabited A2 := ⟨⟨0, 0⟩⟩
def e61 (c : A2) : List AV := [.int .i64 c.y0, .int .i64 c.y1]
structure Bd where
  n : Int
  most : (List (List Int))
instance : Inhabited Bd := ⟨⟨0, []⟩⟩
def e53 (fl : Bool) (c : Bd) : List AV := [.int .i64 c.n, .lst fl c.most.length (zYy (eSl zYx true) c.most)]
theorem enc53 : Enc e53 2 where
  wd _ _ := rfl
  cv _ _ _ _ := Wks.cons (zZz _ _ _ _) (Wks.cons (zZs _ _ _ _ _) (Wks.refl _))
  ci _ _ _ := Wks.cons (agI_int _ _ _ _) (Wks.cons (agI_lst _ _ _ _) (Wks.refl _))
  co _ _ _ := Wks.cons (zY _ _ _ _) (Wks.cons (rs_lst _ _ _ _) (Wks.refl _))
  sl fl _ := SealVs.cons (SealV.int _ _ _) (SealVs.cons (SealV.lst _ _ _) (SealVs.nil fl))
  cl _ _ x hx := by
    simp only [e53, List.mem_cons, List.not_mem_nil, or_false] at hx
    rcases hx with rfl | rfl <;> rfl
structure Wlk where
  n : Int
  l : (List Con)
instance : Inhabited Wlk := ⟨⟨0, []⟩⟩
def e88 (fl : Bool) (c : Wlk) : List AV := [.int .i64 c.n, .lst fl c.l.length (zYy e66 c.l)]
structure Flt where
  dr : (List Int)
  la : Int
  li : Int
  sv : (List Int)
  tm : (List Int)
instance : Inhabited Flt := ⟨⟨[], 0, 0, [], []⟩⟩
def e27 (fl : Bool) (c : Flt) : List AV := [.lst fl c.dr.length (zYy zYx c.dr), .int .i64 c.la, .int .i64 c.li, .lst fl c.sv.length (zYy zYx c.sv), .lst fl c.tm.length (zYy zYx c.tm)]
theorem enc27 : Enc e27 5 where
  wd _ _ := rfl
  cv _ _ _ _ := Wks.cons (zZs _ _ _ _ _) (Wks.cons (zZz _ _ _ _) (Wks.cons (zZz _ _ _ _) (Wks.cons (zZs _ _ _ _ _) (Wks.cons (zZs _ _ _ _ _) (Wks.refl _)))))
  ci _ _ _ := Wks.cons (agI_lst _ _ _ _) (Wks.cons (agI_int _ _ _ _) (Wks.cons (agI_int _ _ _ _) (Wks.cons (agI_lst _ _ _ _) (Wks.cons (agI_lst _ _ _ _) (Wks.refl _)))))
  co _ _ _ := Wks.cons (rs_lst _ _ _ _) (Wks.cons (zY _ _ _ _) (Wks.cons (zY _ _ _ _) (Wks.cons (rs_lst _ _ _ _) (Wks.cons (rs_lst _ _ _ _) (Wks.refl _)))))
  sl fl _ := SealVs.cons (SealV.lst _ _ _) (SealVs.cons (SealV.int _ _ _) (SealVs.cons (SealV.int _ _ _) (SealVs.cons (SealV.lst _ _ _) (SealVs.cons (SealV.lst _ _ _) (SealVs.nil fl)))))
  cl _ _ x hx := by
    simp only [e27, List.mem_cons, List.not_mem_nil, or_false] at hx
    rcases hx with rfl | rfl | rfl | rfl | rfl <;> rfl
structure Cho where
  b : Bd
  s : Int
instance : Inhabited Cho := ⟨⟨default, 0⟩⟩
def e75 (fl : Bool) (c : Cho) : List AV := [.int .i64 c.b.n, .lst fl c.b.most.length (zYy (eSl zYx true) c.b.most), .int .i64 c.s]
structure Cas where
  fl : Int
  n : Int
  x : (List A3)
  tr : (List Int)
  ho : Int
instance : Inhabited Cas := ⟨⟨0, 0, [], [], 0⟩⟩
def e25 (fl : Bool) (c : Cas) : List AV := [.int .i64 c.fl, .int .i64 c.n, .lst fl c.x.length (zYy e29 c.x), .lst fl c.tr.length (zYy zYx c.tr), .int .i64 c.ho]
def eV24 (v : Vector Int 24) : List AV := zYy zYx v.toList
theorem encV24 : Enc (fun _ => eV24) 24 where
  wd _ a := zXu a
  cv k h fl a := encL_cv zZw k h fl a.toList
  ci k h a := encL_ci zZw k h a.toList
  co k h a := encL_co zZw k h a.toList
  sl fl a := encL_sl zZw fl a.toList
  cl fl a := encL_cl zZw fl a.toList
def eV576 (v : Vector Int 576) : List AV := zYy zYx v.toList
end Go.Lat
namespace Go.Lat

abbrev NB : Int := 1152921504606846976
def zW (a b : Int) : Int := if a = NB \/ b = NB then NB else a + b
def pickM (c n : Int) : Int := (if c < 0 then -(c + 1) else c).tmod n
def possM (n : Int) (c : Con) : Bool := decide (0 <= c.f /\ c.f < n /\ 0 <= c.t /\ c.t < n /\ ¬ c.f = c.t /\ -1125899906842624 <= c.m /\ c.m <= 1125899906842624 /\ 0 <= c.a /\ c.a < 64)
def validM (n : Int) (l : List Con) : Bool := decide (1 <= n /\ n <= 24 /\ l.length <= 2000) && l.all (possM n)
def madeM (n : Int) (x : List A3) : List Con :=
  if 1 < n then (x.take 30).map fun y => ⟨pickM y.x0 n, (pickM y.x0 n + 1 + pickM y.x1 (n - 1)).tmod n, pickM y.x2 20 - 6, 2 ^ (pickM (y.x1.tdiv 30) 6).toNat⟩ else []
def mm (m : Vector Int 576) (i j : Nat) : Int := vat m (i * 24 + j)
def freeM : Vector Int 576 := Vector.ofFn fun k => if k.1 / 24 = k.1 % 24 then 0 else NB
def relaxM (m : Vector Int 576) (f t : Nat) (w : Int) : Vector Int 576 :=
  Vector.ofFn fun k => if mm m (k.1 / 24) f = NB then vat m k.1 else min (vat m k.1) (zW (mm m (k.1 / 24) f + w) (mm m t (k.1 % 24)))
def addM (m : Vector Int 576) (f t w : Int) : Bool × Vector Int 576 :=
  if zW w (mm m t.toNat f.toNat) < 0 then (false, m) else if mm m f.toNat t.toNat <= w then (true, m) else (true, relaxM m f.toNat t.toNat w)
def findIx {α : Type} (p : α -> Bool) (l : List α) : Int := match l.findIdx? p with
  | some i => (i : Int)
  | none => -1
structure AddOk (m : Vector Int 576) (f t w : Int) : Prop where
  f : 0 <= f /\ f < 24
  t : 0 <= t /\ t < 24
  w : -72057594037927936 <= w /\ w <= 72057594037927936
  m : ∀ k, -1152921504606846976 <= vat m k /\ vat m k <= 1152921504606846976
def zYs (m : Vector Int 576) (n : Int) : Bd := ⟨n, (List.range n.toNat).map fun i => (m.toList.drop (i * 24)).take n.toNat⟩
def ofM (b : Bd) : Vector Int 576 := (List.range b.most.length).foldl (fun m i => vput m (i * 24) ((b.most.getD i []).take 24)) freeM
def okX (x : Int) : Bool := decide (x = NB \/ -36028797018963968 <= x /\ x <= 36028797018963968)
def bm (b : Bd) (i j : Nat) : Int := (b.most.getD i []).getD j 0
def validBM (b : Bd) : Bool :=
  decide (1 <= b.n /\ b.n <= 24 /\ (b.most.length : Int) = b.n) &&
  (List.range b.most.length).all (fun i => decide ((((b.most.getD i []).length : Nat) : Int) = b.n /\ bm b i i = 0) && (b.most.getD i []).all okX) &&
  (List.range b.most.length).all fun i => (List.range b.most.length).all fun j => decide (bm b i j = NB) || (List.range b.most.length).all fun k => decide (bm b i k <= zW (bm b i j) (bm b j k))
def sameM (a b : Bd) : Bool := decide (a.n = b.n) && decide (a.most = b.most)
def addAll : Vector Int 576 -> List Con -> Option (Vector Int 576)
  | m, [] => some m
  | m, c :: l => if (addM m c.f c.t c.m).1 = true then addAll (addM m c.f c.t c.m).2 l else none
def longerM (l : List Con) (d : Vector Int 24) (above : Int) : Vector Int 24 :=
  (l.drop (above + 1).toNat).foldl (fun o c => vset o c.f.toNat (min (vat o c.f.toNat) (zW c.m (vat d c.t.toNat)))) (Vector.replicate 24 NB)
structure LongOk (l : List Con) (d : Vector Int 24) (above : Int) : Prop where
  a : 0 <= above + 1 /\ above + 1 <= l.length
  len : l.length <= 2000
  l : ∀ c ∈ l, (0 <= c.f /\ c.f < 24) /\ (0 <= c.t /\ c.t < 24) /\ -1125899906842624 <= c.m /\ c.m <= 1125899906842624
  d : ∀ k, -1152921504606846976 <= vat d k /\ vat d k <= 1152921504606846976
structure TabOk (l : List Con) (to above many : Int) : Prop where
  a : 0 <= above + 1 /\ above + 1 <= l.length
  len : l.length <= 2000
  l : ∀ c ∈ l, (0 <= c.f /\ c.f < 24) /\ (0 <= c.t /\ c.t < 24) /\ -1125899906842624 <= c.m /\ c.m <= 1125899906842624
  t : 0 <= to /\ to < 24
  k : 0 <= many /\ many <= 25
def FirstOk (n : Int) (l : List Con) : Prop := validM n l = true
def tabD (l : List Con) (to above : Int) : Nat -> Vector Int 24
  | 0 => vset (Vector.replicate 24 NB) to.toNat 0
  | k + 1 => longerM l (tabD l to above k) above
def tableM (l : List Con) (to above many : Int) : List (Vector Int 24) := (List.range (many.toNat + 1)).map (tabD l to above)
def sizeAt (n : Int) (l : List Con) (v : Nat) : Option Nat := (List.range (n.toNat + 1)).find? fun r => decide (vat (tabD l v (-1) r) v < 0)
def sizeM (n : Int) (l : List Con) : Int := (List.range n.toNat).foldl (fun s v => match sizeAt n l v with | some r => min s (r : Int) | none => s) (n + 1)
def nextC (l : List Con) (d : Nat -> Vector Int 24) (size : Int) (s len : Nat) (at_ total : Int) : Option Nat :=
  ((List.range l.length).drop (s + 1)).find? fun i => decide ((l.getD i default).f = at_ /\ zW (total + (l.getD i default).m) (vat (d (size - len - 1).toNat) (l.getD i default).t.toNat) < 0)
def chainC (l : List Con) (d : Nat -> Vector Int 24) (size : Int) (s : Nat) : Nat -> List Int -> Int -> Int -> Option (List Int)
  | 0, out, _, _ => some out
  | k + 1, out, at_, total =>
    if (out.length : Int) < size then
      match nextC l d size s out.length at_ total with
      | some i => chainC l d size s k (out ++ [(i : Int)]) (l.getD i default).t (total + (l.getD i default).m)
      | none => none
    else some out
def firstAt (l : List Con) (size : Int) (s : Nat) : Option (List Int) :=
  let c := l.getD s default
  let d := tabD l c.f s
  if 0 <= zW c.m (vat (d (size - 1).toNat) c.t.toNat) then none else chainC l d size s size.toNat [(s : Int)] c.t c.m
def firstM (n : Int) (l : List Con) : List Int := ((List.range l.length).findSome? fun s => firstAt l (sizeM n l) s).getD []
def zWy (n : Int) (l : List Con) : Bd × List Int × Int :=
  if validM n l = true then match addAll freeM l with
    | some m => (zYs m n, [], 0)
    | none => (⟨0, []⟩, firstM n l, 70)
  else (⟨0, []⟩, [], 2)
def addBM (b : Bd) (c : Con) : Bd × Bool × Int :=
  if validBM b = true /\ possM b.n c = true then
    if (addM (ofM b) c.f c.t c.m).1 = true then
      let out := zYs (addM (ofM b) c.f c.t c.m).2 b.n
      if (out.most.all fun r => r.all okX) = true then (out, true, 0) else (⟨0, []⟩, false, 2)
    else (⟨0, []⟩, false, 0)
  else (⟨0, []⟩, false, 2)
def zWz (b : Bd) (f t : Int) : Int × Int × Int :=
  if validBM b = true /\ 0 <= min f t /\ max f t < b.n then (-bm b t.toNat f.toNat, bm b f.toNat t.toNat, 0) else (0, 0, 2)
def pointV (m : Vector Int 576) (f n : Nat) : List Int := (List.range n).map fun j =>
  if mm m f j = NB then (List.range n).foldl (fun o i => if mm m f i = NB /\ ¬ mm m i j = NB then min o (576460752303423488 + mm m i j) else o) 576460752303423488 else mm m f j
def pointM (b : Bd) (f t v : Int) : List Int × Int :=
  let r := zWz b f t
  if r.2.2 = 0 /\ max r.1 (-36028797018963968) <= v /\ v <= min r.2.1 36028797018963968 then
    let m := ofM b
    let m := if f = t then m else (addM (addM m f t v).2 t f (-v)).2
    (pointV m f.toNat b.n.toNat, 0)
  else ([], 2)
def holdsM (l : List Con) (x : List Int) : Bool :=
  validM x.length l && x.all (fun v => decide (-1152921504606846976 <= v /\ v <= 1152921504606846976)) && l.all (fun c => decide (lat x c.t - lat x c.f <= c.m))
def cycStep (l : List Con) (c : List Int) (i : Nat) : Bool :=
  let k := lat c i
  decide (0 <= k /\ k < (l.length : Int)) && (List.range i).all (fun j => decide (¬ (lat l (lat c j)).f = (lat l k).f)) && (decide (i = 0) || decide ((lat l (lat c (i - 1))).t = (lat l k).f))
def cycleM (l : List Con) (c : List Int) : Bool :=
  validM 24 l && decide (1 <= c.length /\ c.length <= 24) && (List.range c.length).all (cycStep l c) && decide ((c.map fun k => (lat l k).m).sum < 0 /\ (lat l (lat c (c.length - 1))).t = (lat l (lat c 0)).f)
def nextFrom (m : Nat) (most : Int) : Nat -> Nat -> List Int -> Bool × List Int
  | 0, _, x => (false, x)
  | k + 1, i, x => if i < m then if x.getD i 0 < most then (true, x.set i (x.getD i 0 + 1)) else nextFrom m most k (i + 1) (x.set i (-most)) else (false, x)
def nextM (x : List Int) (m : Nat) (most : Int) : Bool × List Int := nextFrom m most m 1 x
structure NextOk (x : List Int) (m : Nat) (most : Int) : Prop where
  m : m <= x.length
  most : 0 <= most /\ most <= 1000
  el : ∀ v ∈ x, -1000 <= v /\ v <= 1000
  len : x.length <= 1000
end Go.Lat
namespace Go.Lat

def inM (x lo hi : Int) : Bool := decide (lo <= x /\ x <= hi)
def allM (l : List Int) (lo hi most : Int) : Bool := l.all (fun y => decide (0 <= y /\ y <= most)) && decide (lo <= (l.length : Int) /\ (l.length : Int) <= hi)
def cvalidM (f : Flt) : Bool := allM f.dr 1 6 1000 && decide (0 <= f.la /\ f.la <= 1000000) && decide (0 <= f.li /\ f.li <= 2) && decide (f.li < (f.dr.length : Int)) && allM f.tm 1 8 3 && allM f.sv 1 12 ((f.tm.length : Int) - 1)
def pcM (x : Int) : Int := ((List.range 6).map fun a => x / 2 ^ a % 2).sum
def inSet (c : Con) (s : Int) : Bool := decide (bitI .andNot .i64 c.a s = 0)
def partM (l : List Con) (s : Int) : List Con := l.filter fun c => inSet c s
def conOk (f : Flt) (n : Int) (c : Con) : Bool := decide (0 <= min c.f c.t /\ max c.f c.t < n /\ ¬ c.f = c.t /\ -1125899906842624 <= c.m /\ c.m <= 1125899906842624 /\ 0 <= c.a /\ c.a.fdiv (2 ^ (min f.dr.length 64)) = 0)
def zX (f : Flt) (n : Int) (l : List Con) : Bool := cvalidM f && decide ((zWy n []).2.2 = 0 /\ l.length <= 2000) && l.all (conOk f n)
def choice1 (f : Flt) (n : Int) (l : List Con) (s : Int) : Option Cho :=
  if pcM s = (f.dr.length : Int) - f.li /\ (zWy n (partM l s)).2.2 = 0 then some ⟨(zWy n (partM l s)).1, s⟩ else none
def zYw (f : Flt) (n : Int) (l : List Con) : List Cho := (List.range (2 ^ f.dr.length)).filterMap fun (s : Nat) => choice1 f n l (s : Int)
def chM (f : Flt) (n : Int) (l : List Con) : List Int × Int :=
  if zX f n l = true then (if zYw f n l = [] then ([], 100) else ((zYw f n l).map (·.s), 0)) else ([], 2)
def liM (f : Flt) (n : Int) (l : List Con) : Int × Int :=
  if (chM f n l).2 = 0 then ((chM f n l).1.foldl (fun o s => bitI .andNot .i64 o s) (2 ^ f.dr.length - 1), 0) else (0, (chM f n l).2)
def loM (l : List Cho) (f t : Int) : Int := l.foldl (fun o c => min o (-bm c.b t.toNat f.toNat)) NB
def hiM (l : List Cho) (f t : Int) : Int := l.foldl (fun o c => max o (bm c.b f.toNat t.toNat)) (-NB)
def zYv (f : Flt) (n : Int) (l : List Con) (a b : Int) : Int × Int × Int :=
  if zX f n l = true /\ 0 <= min a b /\ max a b < n then
    (if hiM (zYw f n l) a b < loM (zYw f n l) a b then (0, 0, 100) else (loM (zYw f n l) a b, hiM (zYw f n l) a b, 0))
  else (0, 0, 2)
def witM (f : Flt) (n : Int) (l : List Con) (a b v : Int) : List Int × Int × Int :=
  if (zYv f n l a b).2.2 = 0 then
    match (zYw f n l).find? (fun c => decide ((pointM c.b a b v).2 = 0)) with
    | some c => ((pointM c.b a b v).1, c.s, 0)
    | none => ([], 0, 100)
  else ([], 0, (zYv f n l a b).2.2)
def PossOk (f : Flt) (l : List Con) : Prop := f.dr.length <= 6 /\ l.length <= 1073741824 /\ 0 <= f.li /\ f.li <= 2
def zYt (n : Int) : Flt :=
  let dr := (List.range ((pickM n 5).toNat + 1)).map fun (a : Nat) => pickM (n.tdiv 7 + a) 40
  ⟨dr, pickM (n.tdiv 30) 5, min (pickM (n.tdiv 5) 3) ((dr.length : Int) - 1), [0], [0]⟩
def bmade1 (f : Flt) (honest : Int) (truth : List Int) (c : Con) (y : A3) : Con :=
  let a := bitI .or .i64 (2 ^ (pickM (y.x1.tdiv 30) f.dr.length).toNat) (2 ^ (pickM (y.x1.tdiv 200) f.dr.length).toNat)
  if bitI .and .i64 a honest = a then ⟨c.f, c.t, lat truth c.t - lat truth c.f + max c.m 0, a⟩ else ⟨c.f, c.t, c.m, a⟩
def bmadeM (f : Flt) (n : Int) (x : List A3) (honest : Int) (truth : List Int) : List Con :=
  List.zipWith (bmade1 f honest truth) (madeM n (x.take 24)) (x.take 24)
def honStep (ho : Int) (hl : Int × Int) (a : Nat) : Int × Int :=
  if 0 < hl.2 /\ pickM ho 64 / 2 ^ a % 2 = 0 then (bitI .andNot .i64 hl.1 (2 ^ a), hl.2 - 1) else hl
def honM (f : Flt) (ho : Int) : Int := ((List.range f.dr.length).foldl (honStep ho) (2 ^ f.dr.length - 1, f.li)).1
def truthM (n : Int) (tr : List Int) : List Int := (List.range n.toNat).map fun i => if i < tr.length then pickM (tr.getD i 0) 60 else 0
def mkM (c : Cas) : Flt × Int × List Con × List Int × Int :=
  let f := zYt c.fl
  let n := 1 + pickM c.n 6
  let honest := honM f c.ho
  let truth := truthM n c.tr
  (f, n, bmadeM f n c.x honest truth, truth, honest)
def BMadeOk (f : Flt) (n : Int) (x : List A3) (_honest : Int) (truth : List Int) : Prop :=
  (1 <= f.dr.length /\ f.dr.length <= 6) /\ (1 <= n /\ n <= 24) /\ (∀ y ∈ x, inI y.x0 /\ inI y.x1 /\ inI y.x2) /\ truth.length = n.toNat /\ ∀ v ∈ truth, 0 <= v /\ v <= 1000
def CasOk (c : Cas) : Prop := inI c.fl /\ inI c.n /\ inI c.ho /\ (∀ y ∈ c.x, inI y.x0 /\ inI y.x1 /\ inI y.x2) /\ ∀ v ∈ c.tr, inI v
def RgsOk (f : Flt) (n : Int) (l : List Con) : Prop := (f.dr.length <= 9223372036854775807 /\ f.sv.length <= 9223372036854775807 /\ f.tm.length <= 9223372036854775807) /\ l.length <= 1073741824 /\ (0 <= n /\ n <= 24) /\ ∀ i j : Nat, (i : Int) < n -> (j : Int) < n -> (zYv f n l i j).2.2 = 0
def rangesM (f : Flt) (n : Int) (l : List Con) : List A2 × Int :=
  ((List.range n.toNat).flatMap fun (i : Nat) => (List.range n.toNat).map fun (j : Nat) => (⟨(zYv f n l i j).1, (zYv f n l i j).2.1⟩ : A2), 0)
end Go.Lat
namespace Go.Lat
open Go.ChangeShapes Go.WideShapes Go.ChangeAt Go.RowKit
open Go.Proofs
section
variable {H : Type} {enc : TypeId × Value -> H} {w : World} {base : Nat} {spare : Nat -> Bool} {held : Bool}
theorem c10_3 : Try.prog.cellsOf 3 = 1 := by kernel_rfl
theorem c10_22 : Try.prog.cellsOf 22 = 1 := by kernel_rfl
theorem c10_23 : Try.prog.cellsOf 23 = 1 := by kernel_rfl
theorem c10_29 : Try.prog.cellsOf 29 = 3 := by kernel_rfl
theorem c10_25 : Try.prog.cellsOf 25 = 5 := by kernel_rfl
theorem cells_slice {t e : TypeId} {fuel : Nat} {cs : List Value} {x : DataW H × List MemPlace} (ht : Try.prog.underlying t = some (.slice e)) (h : DataW.trod enc Try.prog w base spare held fuel t cs = some x) :
    ∃ v, cs = [v] /\ (∃ a len cap, v = .slice a len cap) /\ DataW.Trod enc Try.prog w base spare held t v x.1 x.2 := by
  rcases Go.Deep.open_slice ht h with ⟨rfl, rfl⟩ | ⟨a, len, cap, m, n, D, Pl, rfl, _, _, _, _, rfl, _⟩
  . exact ⟨_, rfl, ⟨_, _, _, rfl⟩, fuel, h⟩
  . exact ⟨_, rfl, ⟨_, _, _, rfl⟩, fuel, h⟩
theorem open_ints10 {v : Value} {d : DataW H} {ps : List MemPlace} (hv : ∃ a len cap, v = .slice a len cap) (h : DataW.Trod enc Try.prog w base spare held 23 v d ps) :
    ∃ x : List Int, (∀ z ∈ x, inI z) /\ VR [] (nest (memOf w)) (.lst true x.length (zYy zYx x)) v := by
  obtain ⟨L, h1, h2⟩ := open_flat Try.underlying23 c10_3 (by omega) hv (intCells_int Try.underlying3) h
  refine ⟨L.map fun r => r.getD 0 0, fun z hz => ?_, ?_⟩
  . rw [List.mem_map] at hz
    obtain ⟨r, hr, rfl⟩ := hz
    obtain ⟨a, b⟩ := h1 r hr
    match r, a with
    | [y], _ => exact b y (by simp)
  . have e : zYy zYx (L.map fun r => r.getD 0 0) = L.flatten.map fun z => AV.int .i64 z := by
      clear h2
      induction L with
      | nil => rfl
      | cons r L ih =>
        obtain ⟨a, -⟩ := h1 r (by simp)
        match r, a with
        | [y], _ =>
          rw [List.map_cons, List.flatten_cons, List.map_append, <- ih (fun r hr => h1 r (by simp [hr]))]
          rfl
    rw [List.length_map, e]; exact h2
theorem open_a3s10 {v : Value} {d : DataW H} {ps : List MemPlace} (hv : ∃ a len cap, v = .slice a len cap) (h : DataW.Trod enc Try.prog w base spare held 22 v d ps) :
    ∃ x : List A3, (∀ y ∈ x, inI y.x0 /\ inI y.x1 /\ inI y.x2) /\ VR [] (nest (memOf w)) (.lst true x.length (zYy e29 x)) v := by
  obtain ⟨L, h1, h2⟩ := open_flat Try.underlying22 c10_29 (by omega) hv (intCells_arr Try.underlying29 Try.underlying3 c10_3 c10_29) h
  refine ⟨L.map fun r => ⟨r.getD 0 0, r.getD 1 0, r.getD 2 0⟩, fun z hz => ?_, ?_⟩
  . rw [List.mem_map] at hz
    obtain ⟨r, hr, rfl⟩ := hz
    obtain ⟨a, b⟩ := h1 r hr
    match r, a with
    | [y0, y1, y2], _ => exact ⟨b y0 (by simp), b y1 (by simp), b y2 (by simp)⟩
  . have e : zYy e29 (L.map fun r => (⟨r.getD 0 0, r.getD 1 0, r.getD 2 0⟩ : A3)) = L.flatten.map fun z => AV.int .i64 z := by
      clear h2
      induction L with
      | nil => rfl
      | cons r L ih =>
        obtain ⟨a, -⟩ := h1 r (by simp)
        match r, a with
        | [y0, y1, y2], _ =>
          rw [List.map_cons, List.flatten_cons, List.map_append, <- ih (fun r hr => h1 r (by simp [hr]))]
          rfl
    rw [List.length_map, e]; exact h2
theorem fld {fs : Array Field} {Q : Field -> Prop} {i t o : Nat} (h : ∀ f, fs[i]? = some f -> Q f) (hf : ∃ f, fs[i]? = some f /\ f.type = t /\ f.offset = o) : ∃ f, f.type = t /\ f.offset = o /\ Q f := by
  obtain ⟨f, h1, h2, h3⟩ := hf
  exact ⟨f, h2, h3, h f h1⟩
theorem open_cas {v : Value} {d : DataW H} {ps : List MemPlace} (hv : ∃ cs, v = .agg cs) (h : DataW.Trod enc Try.prog w base spare held 25 v d ps) :
    ∃ c : Cas, CasOk c /\ VR [] (nest (memOf w)) (.agg (e25 true c)) v := by
  obtain ⟨fuel, hf⟩ := h
  obtain ⟨cs, rfl⟩ := hv
  obtain ⟨xs, m, -, -, hl, hx, hi⟩ := DataW.trod_struct Try.underlying25 hf
  rw [c10_25] at hl
  have hl5 : cs.toList.length = 5 := hl
  generalize hcs : cs.toList = l at *
  match l, hl5 with
  | [u0, u1, u2, u3, u4], _ =>
    have xl : xs.length = 5 := hx
    match xs, xl with
    | [y0, y1, y2, y3, y4], _ =>
      obtain ⟨f0, b0, g0, i0⟩ := fld (t := 3) (o := 0) (hi 0) ⟨_, rfl, rfl, rfl⟩
      rw [b0, g0] at i0
      obtain ⟨f1, b1, g1, i1⟩ := fld (t := 3) (o := 1) (hi 1) ⟨_, rfl, rfl, rfl⟩
      rw [b1, g1] at i1
      obtain ⟨f2, b2, g2, i2⟩ := fld (t := 22) (o := 2) (hi 2) ⟨_, rfl, rfl, rfl⟩
      rw [b2, g2] at i2
      obtain ⟨f3, b3, g3, i3⟩ := fld (t := 23) (o := 3) (hi 3) ⟨_, rfl, rfl, rfl⟩
      rw [b3, g3] at i3
      obtain ⟨f4, b4, g4, i4⟩ := fld (t := 3) (o := 4) (hi 4) ⟨_, rfl, rfl, rfl⟩
      rw [b4, g4] at i4
      obtain ⟨z0, e0, -, w0⟩ := DataW.trod_int Try.underlying3 i0
      obtain ⟨z1, e1, -, w1⟩ := DataW.trod_int Try.underlying3 i1
      obtain ⟨v2, e2, s2, t2⟩ := cells_slice Try.underlying22 i2
      obtain ⟨v3, e3, s3, t3⟩ := cells_slice Try.underlying23 i3
      obtain ⟨z4, e4, -, w4⟩ := DataW.trod_int Try.underlying3 i4
      obtain ⟨x, px, hx2⟩ := open_a3s10 s2 t2
      obtain ⟨tr, ptr, htr⟩ := open_ints10 s3 t3
      rw [c10_3] at e0 e1 e4
      rw [c10_22] at e2
      rw [c10_23] at e3
      have ecell : (Value.agg cs).cells.toList = [u0, u1, u2, u3, u4] := hcs
      rw [ecell] at e0 e1 e2 e3 e4
      have f0 : u0 = .int .i64 z0 := by simpa using e0
      have f1 : u1 = .int .i64 z1 := by simpa using e1
      have f2 : u2 = v2 := by simpa using e2
      have f3 : u3 = v3 := by simpa using e3
      have f4 : u4 = .int .i64 z4 := by simpa using e4
      subst f0 f1 f2 f3 f4
      refine ⟨⟨z0, z1, x, tr, z4⟩, ⟨inI_of_wf w0, inI_of_wf w1, inI_of_wf w4, px, ptr⟩, cs, rfl, fun u hu => ?_, ?_⟩
      . rw [hcs] at hu
        simp only [List.mem_cons, List.not_mem_nil, or_false] at hu
        obtain ⟨a2, b2, c2, rfl⟩ := s2
        obtain ⟨a3, b3, c3, rfl⟩ := s3
        rcases hu with rfl | rfl | rfl | rfl | rfl <;> rfl
      . rw [hcs]
        exact ⟨_, _, rfl, rfl, _, _, rfl, rfl, _, _, rfl, hx2, _, _, rfl, htr, _, _, rfl, rfl, rfl⟩
end
end Go.Lat
namespace Go.Lat
open Go.ChangeShapes Go.WideShapes Go.ChangeAt Go.RowKit
open Go.Proofs
section
variable {H : Type} {enc : TypeId × Value -> H} {w : World} {base : Nat} {spare : Nat -> Bool} {held : Bool}
theorem c10_66 : Try.prog.cellsOf 66 = 4 := by kernel_rfl
theorem c10_27 : Try.prog.cellsOf 27 = 5 := by kernel_rfl
theorem open_cons10 {v : Value} {d : DataW H} {ps : List MemPlace} (hv : ∃ a len cap, v = .slice a len cap) (h : DataW.Trod enc Try.prog w base spare held 28 v d ps) :
    ∃ x : List Con, (∀ y ∈ x, inI y.f /\ inI y.t /\ inI y.m /\ inI y.a) /\ VR [] (nest (memOf w)) (.lst true x.length (zYy e66 x)) v := by
  obtain ⟨L, h1, h2⟩ := open_flat Try.underlying28 c10_66 (by omega) hv (intCells_st Try.underlying66 Try.underlying3 c10_3 c10_66 rfl (fun i hi => by
    match i, hi with
    | 0, _ => exact ⟨_, rfl, rfl, rfl⟩
    | 1, _ => exact ⟨_, rfl, rfl, rfl⟩
    | 2, _ => exact ⟨_, rfl, rfl, rfl⟩
    | 3, _ => exact ⟨_, rfl, rfl, rfl⟩)) h
  refine ⟨L.map fun r => ⟨r.getD 0 0, r.getD 1 0, r.getD 2 0, r.getD 3 0⟩, fun z hz => ?_, ?_⟩
  . rw [List.mem_map] at hz
    obtain ⟨r, hr, rfl⟩ := hz
    obtain ⟨a, b⟩ := h1 r hr
    match r, a with
    | [y0, y1, y2, y3], _ => exact ⟨b y0 (by simp), b y1 (by simp), b y2 (by simp), b y3 (by simp)⟩
  . have e : zYy e66 (L.map fun r => (⟨r.getD 0 0, r.getD 1 0, r.getD 2 0, r.getD 3 0⟩ : Con)) = L.flatten.map fun z => AV.int .i64 z := by
      clear h2
      induction L with
      | nil => rfl
      | cons r L ih =>
        obtain ⟨a, -⟩ := h1 r (by simp)
        match r, a with
        | [y0, y1, y2, y3], _ =>
          rw [List.map_cons, List.flatten_cons, List.map_append, <- ih (fun r hr => h1 r (by simp [hr]))]
          rfl
    rw [List.length_map, e]; exact h2
theorem open_a310 {v : Value} {d : DataW H} {ps : List MemPlace} (hv : ∃ cs, v = .agg cs) (h : DataW.Trod enc Try.prog w base spare held 29 v d ps) :
    ∃ y : A3, (inI y.x0 /\ inI y.x1 /\ inI y.x2) /\ VR [] (nest (memOf w)) (.agg (e29 y)) v := by
  obtain ⟨zs, h1, h2, h3⟩ := open_cells hv (intCells_arr Try.underlying29 Try.underlying3 c10_3 c10_29) h
  match zs, h1 with
  | [y0, y1, y2], _ => exact ⟨⟨y0, y1, y2⟩, ⟨h2 y0 (by simp), h2 y1 (by simp), h2 y2 (by simp)⟩, h3⟩
theorem slice_le {t e : TypeId} {v : Value} {d : DataW H} {ps : List MemPlace} {n : Nat} {cs : List AV} {m : MM} (ht : Try.prog.underlying t = some (.slice e)) (h : DataW.Trod enc Try.prog w base spare held t v d ps) (hv : VR [] m (.lst true n cs) v) : n <= 9223372036854775807 := by
  obtain ⟨fuel, hf⟩ := h
  simp only [VR] at hv
  rcases hv with ⟨rfl, -⟩ | ⟨a, cap, vs, hle, rfl, -⟩
  . omega
  . rcases Go.Deep.open_slice ht hf with ⟨hcs, -⟩ | ⟨a', len, cap', k, q, D, Pl, hcs, hb, hl, hm, -⟩
    . simp [Value.cells] at hcs
    . simp [Value.cells] at hcs
      obtain ⟨-, rfl, rfl⟩ := hcs
      unfold maxLen at hm
      omega
theorem open_ints10' {v : Value} {d : DataW H} {ps : List MemPlace} (hv : ∃ a len cap, v = .slice a len cap) (h : DataW.Trod enc Try.prog w base spare held 23 v d ps) :
    ∃ x : List Int, x.length <= 9223372036854775807 /\ VR [] (nest (memOf w)) (.lst true x.length (zYy zYx x)) v := by
  obtain ⟨x, -, hx⟩ := open_ints10 hv h
  exact ⟨x, slice_le Try.underlying23 h hx, hx⟩
theorem open_flt {v : Value} {d : DataW H} {ps : List MemPlace} (hv : ∃ cs, v = .agg cs) (h : DataW.Trod enc Try.prog w base spare held 27 v d ps) :
    ∃ c : Flt, (c.dr.length <= 9223372036854775807 /\ c.sv.length <= 9223372036854775807 /\ c.tm.length <= 9223372036854775807) /\ VR [] (nest (memOf w)) (.agg (e27 true c)) v := by
  obtain ⟨fuel, hf⟩ := h
  obtain ⟨cs, rfl⟩ := hv
  obtain ⟨xs, m, -, -, hl, hx, hi⟩ := DataW.trod_struct Try.underlying27 hf
  rw [c10_27] at hl
  have hl5 : cs.toList.length = 5 := hl
  generalize hcs : cs.toList = l at *
  match l, hl5 with
  | [u0, u1, u2, u3, u4], _ =>
    have xl : xs.length = 5 := hx
    match xs, xl with
    | [y0, y1, y2, y3, y4], _ =>
      obtain ⟨f0, b0, g0, i0⟩ := fld (t := 23) (o := 0) (hi 0) ⟨_, rfl, rfl, rfl⟩
      rw [b0, g0] at i0
      obtain ⟨f1, b1, g1, i1⟩ := fld (t := 3) (o := 1) (hi 1) ⟨_, rfl, rfl, rfl⟩
      rw [b1, g1] at i1
      obtain ⟨f2, b2, g2, i2⟩ := fld (t := 3) (o := 2) (hi 2) ⟨_, rfl, rfl, rfl⟩
      rw [b2, g2] at i2
      obtain ⟨f3, b3, g3, i3⟩ := fld (t := 23) (o := 3) (hi 3) ⟨_, rfl, rfl, rfl⟩
      rw [b3, g3] at i3
      obtain ⟨f4, b4, g4, i4⟩ := fld (t := 23) (o := 4) (hi 4) ⟨_, rfl, rfl, rfl⟩
      rw [b4, g4] at i4
      obtain ⟨v0, e0, s0, t0⟩ := cells_slice Try.underlying23 i0
      obtain ⟨z1, e1, -, w1⟩ := DataW.trod_int Try.underlying3 i1
      obtain ⟨z2, e2, -, w2⟩ := DataW.trod_int Try.underlying3 i2
      obtain ⟨v3, e3, s3, t3⟩ := cells_slice Try.underlying23 i3
      obtain ⟨v4, e4, s4, t4⟩ := cells_slice Try.underlying23 i4
      obtain ⟨dr, p0, h0⟩ := open_ints10' s0 t0
      obtain ⟨sv, p3, h3⟩ := open_ints10' s3 t3
      obtain ⟨tm, p4, h4⟩ := open_ints10' s4 t4
      rw [c10_3] at e1 e2
      rw [c10_23] at e0 e3 e4
      have ecell : (Value.agg cs).cells.toList = [u0, u1, u2, u3, u4] := hcs
      rw [ecell] at e0 e1 e2 e3 e4
      have f0 : u0 = v0 := by simpa using e0
      have f1 : u1 = .int .i64 z1 := by simpa using e1
      have f2 : u2 = .int .i64 z2 := by simpa using e2
      have f3 : u3 = v3 := by simpa using e3
      have f4 : u4 = v4 := by simpa using e4
      subst f0 f1 f2 f3 f4
      refine ⟨⟨dr, z1, z2, sv, tm⟩, ⟨p0, p3, p4⟩, cs, rfl, fun u hu => ?_, ?_⟩
      . rw [hcs] at hu
        simp only [List.mem_cons, List.not_mem_nil, or_false] at hu
        obtain ⟨a0, b0, c0, rfl⟩ := s0
        obtain ⟨a3, b3, c3, rfl⟩ := s3
        obtain ⟨a4, b4, c4, rfl⟩ := s4
        rcases hu with rfl | rfl | rfl | rfl | rfl <;> rfl
      . rw [hcs]
        exact ⟨_, _, rfl, h0, _, _, rfl, rfl, _, _, rfl, rfl, _, _, rfl, h3, _, _, rfl, h4, rfl⟩
end
end Go.Lat
namespace Go.Lat
theorem lat_nat {α : Type} [Inhabited α] (xs : List α) (i : Nat) : lat xs (i : Int) = xs.getD i default := by simp [lat]
theorem lat_get {α : Type} [Inhabited α] {xs : List α} {i : Nat} (h : i < xs.length) : lat xs (i : Int) = xs[i] := by simp [lat, h]
theorem lat_mem {α : Type} [Inhabited α] {xs : List α} {i : Int} (h : 0 <= i /\ i < xs.length) : lat xs i ∈ xs := by
  have : i.toNat < xs.length := by omega
  simp [lat, this]
theorem vat_lt {n : Nat} {M : Vector Int n} {k : Nat} (h : k < n) : vat M k = M[k] := by simp [vat, h]
theorem vat_ge {n : Nat} {M : Vector Int n} {k : Nat} (h : n <= k) : vat M k = 0 := by
  have : M.toList.length = n := by simp
  unfold vat
  rw [List.getD_eq_getElem?_getD, List.getElem?_eq_none (by omega)]; rfl
theorem vat_vset {n : Nat} {M : Vector Int n} {k j : Nat} {v : Int} (h : k < n) : vat (vset M k v) j = if j = k then v else vat M j := by
  rcases Nat.lt_or_ge j n with hj | hj
  . rw [vat_lt hj, vat_lt hj]
    simp only [vset, Vector.getElem_setIfInBounds hj]
    by_cases e : k = j
    . subst e; simp
    . have : ¬ j = k := fun x => e x.symm
      simp [e, this]
  . rw [vat_ge hj, vat_ge hj, if_neg (by omega)]
theorem vec_ext {n : Nat} {a b : Vector Int n} (h : ∀ k, k < n -> vat a k = vat b k) : a = b := by
  apply Vector.ext
  intro i hi
  have := h i hi
  rw [vat_lt hi, vat_lt hi] at this
  exact this
theorem vat_ofFn {n : Nat} {f : Fin n -> Int} {k : Nat} (h : k < n) : vat (Vector.ofFn f) k = f ⟨k, h⟩ := by rw [vat_lt h]; simp
theorem vat_rep {n : Nat} {v : Int} {k : Nat} (h : k < n) : vat (Vector.replicate n v) k = v := by rw [vat_lt h]; simp
theorem vat_vput {n : Nat} {M : Vector Int n} {off k : Nat} {xs : List Int} (h : off + xs.length <= n) : vat (vput M off xs) k = if off <= k /\ k < off + xs.length then xs.getD (k - off) 0 else vat M k := by
  have hl : M.toList.length = n := by simp
  unfold vat
  rw [vput_toList _ _ _ h]
  simp only [List.getD_eq_getElem?_getD]
  rcases Nat.lt_or_ge k off with h1 | h1
  . rw [if_neg (by omega), List.append_assoc, List.getElem?_append_left (by simp; omega), List.getElem?_take_of_lt h1]
  . rcases Nat.lt_or_ge k (off + xs.length) with h2 | h2
    . rw [if_pos ⟨h1, h2⟩, List.append_assoc, List.getElem?_append_right (by simp; omega), List.getElem?_append_left (by simp; omega)]
      simp only [List.length_take, hl]
      rw [show min off n = off by omega]
    . rw [if_neg (by omega), List.getElem?_append_right (by simp; omega), List.getElem?_drop]
      simp only [List.length_append, List.length_take, hl]
      rw [show off + xs.length + (k - (min off n + xs.length)) = k by omega]
theorem zXt {c n : Int} (h : 1 <= n) : 0 <= pickM c n /\ pickM c n < n := by
  unfold pickM
  have h0 : 0 <= (if c < 0 then -(c + 1) else c) := by split <;> omega
  exact ⟨Int.tmod_nonneg _ h0, Int.tmod_lt_of_pos _ (by omega)⟩
theorem vat_relax {m : Vector Int 576} {f t : Nat} {w : Int} {k : Nat} (h : k < 576) : vat (relaxM m f t w) k = if vat m (k / 24 * 24 + f) = NB then vat m k else min (vat m k) (zW (vat m (k / 24 * 24 + f) + w) (vat m (t * 24 + k % 24))) := by
  unfold relaxM
  rw [vat_ofFn h]
  rfl
theorem addM_neg {m : Vector Int 576} {f t : Nat} {w : Int} (h : zW w (vat m (t * 24 + f)) < 0) : addM m f t w = (false, m) := by
  have e1 : zW w (mm m (t : Int).toNat (f : Int).toNat) < 0 := h
  unfold addM
  rw [if_pos e1]
theorem addM_le {m : Vector Int 576} {f t : Nat} {w : Int} (h : ¬ zW w (vat m (t * 24 + f)) < 0) (h2 : vat m (f * 24 + t) <= w) : addM m f t w = (true, m) := by
  have e1 : ¬ zW w (mm m (t : Int).toNat (f : Int).toNat) < 0 := h
  have e2 : mm m (f : Int).toNat (t : Int).toNat <= w := h2
  unfold addM
  rw [if_neg e1, if_pos e2]
theorem addM_relax {m : Vector Int 576} {f t : Nat} {w : Int} (h : ¬ zW w (vat m (t * 24 + f)) < 0) (h2 : ¬ vat m (f * 24 + t) <= w) : addM m f t w = (true, relaxM m f t w) := by
  have e1 : ¬ zW w (mm m (t : Int).toNat (f : Int).toNat) < 0 := h
  have e2 : ¬ mm m (f : Int).toNat (t : Int).toNat <= w := h2
  unfold addM
  rw [if_neg e1, if_neg e2]
  rfl
end Go.Lat
namespace Go.Lat
theorem findIx_lt {α : Type} [Inhabited α] {p : α -> Bool} {s : List α} {i : Nat} (h : i < s.length) (hp : p (lat s i) = true) (hn : ∀ j : Nat, j < i -> ¬ p (lat s j) = true) : findIx p s = i := by
  unfold findIx
  have : s.findIdx? p = some i := by
    rw [List.findIdx?_eq_some_iff_getElem]
    refine ⟨h, by rw [lat_get h] at hp; exact hp, fun j hj => ?_⟩
    have := hn j hj
    rwa [lat_get (by omega)] at this
  rw [this]
theorem findIx_none {α : Type} [Inhabited α] {p : α -> Bool} {s : List α} (hn : ∀ j : Nat, j < s.length -> ¬ p (lat s j) = true) : findIx p s = -1 := by
  unfold findIx
  have : s.findIdx? p = none := by
    rw [List.findIdx?_eq_none_iff]
    intro x hx
    obtain ⟨j, hj, rfl⟩ := List.getElem_of_mem hx
    have := hn j hj
    rw [lat_get hj] at this
    simpa using this
  rw [this]
theorem findIx_nonneg {α : Type} {p : α -> Bool} {s : List α} : decide ((0 : Int) <= findIx (fun x => !(p x)) s) = !(s.all p) := by
  unfold findIx
  rcases h : s.findIdx? (fun x => !(p x)) with _ | i
  . rw [List.findIdx?_eq_none_iff] at h
    have : s.all p = true := by
      rw [List.all_eq_true]; intro x hx; have := h x hx; simpa using this
    rw [this]; rfl
  . rw [List.findIdx?_eq_some_iff_getElem] at h
    obtain ⟨h1, h2, -⟩ := h
    have : s.all p = false := by
      rw [List.all_eq_false]; exact ⟨s[i], List.getElem_mem h1, by simpa using h2⟩
    rw [this]
    simp
end Go.Lat
namespace Go.Lat
theorem possM_iff {n : Int} {c : Con} : possM n c = true ↔ 0 <= c.f /\ c.f < n /\ 0 <= c.t /\ c.t < n /\ ¬ c.f = c.t /\ -1125899906842624 <= c.m /\ c.m <= 1125899906842624 /\ 0 <= c.a /\ c.a < 64 := by
  unfold possM; exact decide_eq_true_iff
theorem validM_iff {n : Int} {l : List Con} : validM n l = true ↔ (1 <= n /\ n <= 24 /\ l.length <= 2000) /\ ∀ c ∈ l, possM n c = true := by
  unfold validM; rw [Bool.and_eq_true, decide_eq_true_iff, List.all_eq_true]
theorem holdsM_iff {l : List Con} {x : List Int} : holdsM l x = true ↔ (validM x.length l = true /\ ∀ v ∈ x, -1152921504606846976 <= v /\ v <= 1152921504606846976) /\ ∀ c ∈ l, lat x c.t - lat x c.f <= c.m := by
  unfold holdsM
  simp only [Bool.and_eq_true, List.all_eq_true, decide_eq_true_iff]
end Go.Lat
namespace Go.Lat
theorem hNB : NB = 1152921504606846976 := rfl
theorem lat_lat (b : Bd) (i j : Nat) : lat (lat b.most (i : Int)) (j : Int) = bm b i j := by rw [lat_nat, lat_nat]; rfl
theorem okX_iff {x : Int} : okX x = true ↔ x = NB \/ -36028797018963968 <= x /\ x <= 36028797018963968 := by unfold okX; exact decide_eq_true_iff
theorem all_getD {p : Int -> Bool} {l : List Int} : l.all p = true ↔ ∀ j, j < l.length -> p (l.getD j 0) = true := by
  rw [List.all_eq_true]
  constructor
  . intro h j hj
    have := h l[j] (List.getElem_mem hj)
    simpa [hj] using this
  . intro h x hx
    obtain ⟨j, hj, rfl⟩ := List.getElem_of_mem hx
    have := h j hj
    simpa [hj] using this
structure VB (b : Bd) : Prop where
  n : 1 <= b.n /\ b.n <= 24 /\ (b.most.length : Int) = b.n
  row : ∀ i, i < b.most.length -> (b.most.getD i []).length = b.most.length
  diag : ∀ i, i < b.most.length -> bm b i i = 0
  ok : ∀ i j, i < b.most.length -> j < b.most.length -> bm b i j = NB \/ -36028797018963968 <= bm b i j /\ bm b i j <= 36028797018963968
  tri : ∀ i j k, i < b.most.length -> j < b.most.length -> k < b.most.length -> bm b i j = NB \/ bm b i k <= zW (bm b i j) (bm b j k)
theorem validBM_iff {b : Bd} : validBM b = true ↔ VB b := by
  unfold validBM
  simp only [Bool.and_eq_true, Bool.or_eq_true, List.all_eq_true, List.mem_range, decide_eq_true_iff]
  constructor
  . rintro ⟨⟨h1, h2⟩, h3⟩
    have hr : ∀ i, i < b.most.length -> (b.most.getD i []).length = b.most.length := fun i hi => by have := (h2 i hi).1.1; omega
    refine ⟨h1, hr, fun i hi => (h2 i hi).1.2, fun i j hi hj => ?_, fun i j k hi hj hk => ?_⟩
    . have := (h2 i hi).2
      have h4 := all_getD.mp (List.all_eq_true.mpr this) j (by rw [hr i hi]; exact hj)
      exact okX_iff.mp h4
    . rcases h3 i hi j hj with h | h
      . exact .inl h
      . exact .inr (h k hk)
  . rintro ⟨h1, h2, h3, h4, h5⟩
    refine ⟨⟨h1, fun i hi => ⟨⟨by rw [h2 i hi]; exact h1.2.2, h3 i hi⟩, ?_⟩⟩, fun i hi j hj => ?_⟩
    . refine List.all_eq_true.mp (all_getD.mpr fun j hj => ?_)
      rw [h2 i hi] at hj
      exact okX_iff.mpr (h4 i j hi hj)
    . by_cases e : bm b i j = NB
      . exact .inl e
      . exact .inr fun k hk => (h5 i j k hi hj hk).resolve_left e
theorem plusM_nb {a b : Int} (ha : ¬ a = NB) (hb : ¬ b = NB) : zW a b = a + b := by unfold zW; rw [if_neg (by omega)]
theorem plusM_inf {a b : Int} (h : a = NB \/ b = NB) : zW a b = NB := by unfold zW; rw [if_pos h]
theorem rep_ext {n : Nat} {m : Vector Int n} {v : Int} (h : ∀ k, k < n -> vat m k = v) : m = Vector.replicate n v := vec_ext fun k hk => by rw [h k hk, vat_rep hk]
def relStep (d : Vector Int 24) (o : Vector Int 24) (c : Con) : Vector Int 24 := vset o c.f.toNat (min (vat o c.f.toNat) (zW c.m (vat d c.t.toNat)))
theorem longerM_eq {l : List Con} {d : Vector Int 24} {above : Int} : longerM l d above = (l.drop (above + 1).toNat).foldl (relStep d) (Vector.replicate 24 NB) := rfl
theorem relStep_bd {d o : Vector Int 24} {c : Con} {B : Int} (hc : 0 <= c.f /\ c.f < 24) (hm : -1125899906842624 <= c.m) (hd : ∀ k, -B <= vat d k /\ vat d k <= NB)
    (ho : ∀ k, -(B + 1125899906842624) <= vat o k /\ vat o k <= NB) : ∀ k, -(B + 1125899906842624) <= vat (relStep d o c) k /\ vat (relStep d o c) k <= NB := by
  intro k
  unfold relStep
  rw [vat_vset (by omega)]
  split
  . have h1 := ho c.f.toNat
    have h2 := hd c.t.toNat
    have h4 := hNB
    have h3 : -(B + 1125899906842624) <= zW c.m (vat d c.t.toNat) := by
      unfold zW; split <;> omega
    omega
  . exact ho k
theorem foldl_bd {d : Vector Int 24} {l : List Con} {B : Int} (hl : ∀ c ∈ l, (0 <= c.f /\ c.f < 24) /\ -1125899906842624 <= c.m) (hd : ∀ k, -B <= vat d k /\ vat d k <= NB) :
    ∀ o : Vector Int 24, (∀ k, -(B + 1125899906842624) <= vat o k /\ vat o k <= NB) -> ∀ k, -(B + 1125899906842624) <= vat (l.foldl (relStep d) o) k /\ vat (l.foldl (relStep d) o) k <= NB := by
  induction l with
  | nil => exact fun o ho => ho
  | cons c l ih =>
    intro o ho
    have hc := hl c (by simp)
    exact ih (fun c' h' => hl c' (by simp [h'])) _ (relStep_bd hc.1 hc.2 hd ho)
theorem rep_bd {B : Int} (hB : 0 <= B) : ∀ k, -B <= vat (Vector.replicate 24 NB) k /\ vat (Vector.replicate 24 NB) k <= NB := by
  intro k
  have := hNB
  rcases Nat.lt_or_ge k 24 with h | h
  . rw [vat_rep h]; omega
  . rw [vat_ge h]; omega
theorem tabD_bd {l : List Con} {to above : Int} (hl : ∀ c ∈ l, (0 <= c.f /\ c.f < 24) /\ -1125899906842624 <= c.m) (ht : 0 <= to /\ to < 24) (n : Nat) :
    ∀ k, -((n : Int) * 1125899906842624) <= vat (tabD l to above n) k /\ vat (tabD l to above n) k <= NB := by
  induction n with
  | zero =>
    intro k
    have h1 := rep_bd (B := 0) (by omega) k
    have := hNB
    show _ <= vat (vset _ _ _) k /\ vat (vset _ _ _) k <= _
    rw [vat_vset (by omega)]
    split <;> omega
  | succ n ih =>
    intro k
    show _ <= vat (longerM _ _ _) k /\ vat (longerM _ _ _) k <= _
    rw [longerM_eq]
    have := foldl_bd (d := tabD l to above n) (l := l.drop (above + 1).toNat) (B := (n : Int) * 1125899906842624) (fun c hc => hl c (List.mem_of_mem_drop hc)) ih _ (rep_bd (by omega)) k
    omega
end Go.Lat
namespace Go.Lat
theorem find_drop_some {n a i : Nat} {p : Nat -> Bool} (h : a <= i /\ i < n) (hp : p i = true) (hn : ∀ j, a <= j -> j < i -> ¬ p j = true) : ((List.range n).drop a).find? p = some i := by
  rw [List.range_eq_range', List.drop_range', List.find?_range'_eq_some]
  refine ⟨hp, ?_, fun j h1 h2 => ?_⟩
  . rw [List.mem_range'_1]; omega
  . have := hn j (by omega) h2
    simpa using this
theorem find_drop_none {n a : Nat} {p : Nat -> Bool} (hn : ∀ j, a <= j -> j < n -> ¬ p j = true) : ((List.range n).drop a).find? p = none := by
  rw [List.range_eq_range', List.drop_range', List.find?_range'_eq_none]
  intro j h1 h2
  have := hn j (by omega) (by omega)
  simpa using this
theorem findSome_range_some {α : Type} {n i : Nat} {p : Nat -> Option α} {x : α} (h : i < n) (hp : p i = some x) (hn : ∀ j, j < i -> p j = none) : (List.range n).findSome? p = some x := by
  have e : List.range n = List.range i ++ i :: (List.range' (i + 1) (n - i - 1)) := by
    have : List.range' 0 n = List.range' 0 i ++ List.range' i (n - i) := by
      have := (List.range'_append (s := 0) (m := i) (n := n - i) (step := 1)).symm
      rw [show i + (n - i) = n by omega, show 0 + 1 * i = i by omega] at this
      exact this
    rw [List.range_eq_range', this, <- List.range_eq_range']
    congr 1
    rw [show n - i = (n - i - 1) + 1 by omega, List.range'_succ]
    simp
  rw [e, List.findSome?_append]
  have : (List.range i).findSome? p = none := by
    rw [List.findSome?_eq_none_iff]; intro j hj; exact hn j (List.mem_range.mp hj)
  rw [this]
  simp [hp]
theorem findSome_range_none {α : Type} {n : Nat} {p : Nat -> Option α} (hn : ∀ j, j < n -> p j = none) : (List.range n).findSome? p = none := by
  rw [List.findSome?_eq_none_iff]; intro j hj; exact hn j (List.mem_range.mp hj)
theorem tableM_len {l : List Con} {to above many : Int} : (tableM l to above many).length = many.toNat + 1 := by unfold tableM; simp
theorem tableM_at {l : List Con} {to above many : Int} {k : Int} (h : 0 <= k /\ k <= many) : lat (tableM l to above many) k = tabD l to above k.toNat := by
  have : k.toNat < (List.range (many.toNat + 1)).length := by simp; omega
  unfold tableM lat
  rw [List.getD_eq_getElem?_getD, List.getElem?_map, List.getElem?_eq_getElem this]
  simp
def sizeStep (n : Int) (l : List Con) (s : Int) (v : Nat) : Int := match sizeAt n l v with | some r => min s (r : Int) | none => s
theorem sizeM_eq {n : Int} {l : List Con} : sizeM n l = (List.range n.toNat).foldl (sizeStep n l) (n + 1) := rfl
theorem sizeAt_pos {n : Int} {l : List Con} {v r : Nat} (hv : v < 24) (h : sizeAt n l v = some r) : 1 <= r /\ (r : Int) <= max n 0 := by
  unfold sizeAt at h
  have h2 := List.mem_of_find?_eq_some h
  rw [List.mem_range] at h2
  have h3 := List.find?_some h
  have h4 := of_decide_eq_true h3
  refine ⟨?_, by omega⟩
  rcases r with _ | r
  . exfalso
    have e : vat (tabD l v (-1) 0) v = 0 := by
      show vat (vset _ _ _) _ = _
      rw [vat_vset (by simpa using hv)]; simp
    rw [e] at h4; omega
  . omega
theorem sizeM_bd {n : Int} {l : List Con} (hn : 1 <= n /\ n <= 24) : ∀ k : Nat, k <= n -> 1 <= (List.range k).foldl (sizeStep n l) (n + 1) /\ (List.range k).foldl (sizeStep n l) (n + 1) <= n + 1 := by
  intro k
  induction k with
  | zero => intro _; simp; omega
  | succ k ih =>
    intro hk
    have := ih (by omega)
    rw [List.range_succ, List.foldl_append]
    simp only [List.foldl_cons, List.foldl_nil]
    generalize (List.range k).foldl (sizeStep n l) (n + 1) = s at this
    unfold sizeStep
    rcases h : sizeAt n l k with _ | r
    . exact this
    . have := sizeAt_pos (by omega) h
      dsimp only
      omega
theorem chain_done {l : List Con} {d : Nat -> Vector Int 24} {size : Int} {s k : Nat} {out : List Int} {a t : Int} (h : ¬ (out.length : Int) < size) : chainC l d size s k out a t = some out := by
  cases k with
  | zero => rfl
  | succ k => show (if (out.length : Int) < size then _ else _) = _; rw [if_neg h]
theorem chain_some {l : List Con} {d : Nat -> Vector Int 24} {size : Int} {s k i : Nat} {out : List Int} {a t : Int} (h : (out.length : Int) < size) (h2 : nextC l d size s out.length a t = some i) :
    chainC l d size s (k + 1) out a t = chainC l d size s k (out ++ [(i : Int)]) (l.getD i default).t (t + (l.getD i default).m) := by
  show (if (out.length : Int) < size then _ else _) = _; rw [if_pos h, h2]
theorem chain_none {l : List Con} {d : Nat -> Vector Int 24} {size : Int} {s k : Nat} {out : List Int} {a t : Int} (h : (out.length : Int) < size) (h2 : nextC l d size s out.length a t = none) :
    chainC l d size s (k + 1) out a t = none := by
  show (if (out.length : Int) < size then _ else _) = _; rw [if_pos h, h2]
theorem firstAt_none {l : List Con} {size : Int} {s : Nat} (h : 0 <= zW (l.getD s default).m (vat (tabD l (l.getD s default).f s (size - 1).toNat) (l.getD s default).t.toNat)) : firstAt l size s = none := by
  unfold firstAt; simp only []; rw [if_pos h]
theorem firstAt_some {l : List Con} {size : Int} {s : Nat} (h : ¬ 0 <= zW (l.getD s default).m (vat (tabD l (l.getD s default).f s (size - 1).toNat) (l.getD s default).t.toNat)) :
    firstAt l size s = chainC l (tabD l (l.getD s default).f s) size s size.toNat [(s : Int)] (l.getD s default).t (l.getD s default).m := by
  unfold firstAt; simp only []; rw [if_neg h]
end Go.Lat
namespace Go.Lat
structure Cl (n : Nat) (m : Vector Int 576) (B : Int) : Prop where
  n24 : n <= 24
  diag : ∀ i, i < n -> mm m i i = 0
  tri : ∀ i j k, i < n -> j < n -> k < n -> ¬ mm m i j = NB -> ¬ mm m j k = NB -> mm m i k <= mm m i j + mm m j k
  bd : ∀ i j, i < n -> j < n -> mm m i j = NB \/ -B <= mm m i j /\ mm m i j <= B
def Sol (n : Nat) (m : Vector Int 576) (x : Nat -> Int) : Prop := ∀ i j, i < n -> j < n -> ¬ mm m i j = NB -> x j - x i <= mm m i j
theorem Cl.fin {n : Nat} {m : Vector Int 576} {B : Int} (h : Cl n m B) (hB : B <= 288230376151711744) {i j k : Nat} (hi : i < n) (hj : j < n) (hk : k < n) (h1 : ¬ mm m i j = NB) (h2 : ¬ mm m j k = NB) : ¬ mm m i k = NB := by
  have a := h.tri i j k hi hj hk h1 h2
  have b := h.bd i j hi hj
  have c := h.bd j k hj hk
  have := hNB
  omega
theorem Cl.mono {n : Nat} {m : Vector Int 576} {B C : Int} (h : Cl n m B) (hc : B <= C) : Cl n m C :=
  ⟨h.n24, h.diag, h.tri, fun i j hi hj => by have := h.bd i j hi hj; omega⟩
structure Rel (n : Nat) (m m' : Vector Int 576) (f t : Nat) (w : Int) : Prop where
  le : ∀ i j, i < n -> j < n -> mm m' i j <= mm m i j
  via : ∀ i j, i < n -> j < n -> ¬ mm m i f = NB -> ¬ mm m t j = NB -> mm m' i j <= mm m i f + w + mm m t j
  one : ∀ i j, i < n -> j < n -> mm m' i j = mm m i j \/ (¬ mm m i f = NB /\ ¬ mm m t j = NB /\ mm m' i j = mm m i f + w + mm m t j)
theorem mm_relax {m : Vector Int 576} {f t : Nat} {w : Int} {i j : Nat} (hi : i < 24) (hj : j < 24) : mm (relaxM m f t w) i j = if mm m i f = NB then mm m i j else min (mm m i j) (zW (mm m i f + w) (mm m t j)) := by
  show vat _ _ = _
  rw [vat_relax (by omega), show (i * 24 + j) / 24 = i by omega, show (i * 24 + j) % 24 = j by omega]
  rfl
theorem Cl.rel {n : Nat} {m : Vector Int 576} {B : Int} {f t : Nat} {w : Int} (h : Cl n m B) (hB : B <= 288230376151711744) (hf : f < n) (ht : t < n) (hw : -72057594037927936 <= w /\ w <= 72057594037927936)
    (hs : (addM m f t w).1 = true) : Rel n m (addM m f t w).2 f t w := by
  have hnb := hNB
  have hn := h.n24
  by_cases h1 : zW w (vat m (t * 24 + f)) < 0
  . rw [addM_neg h1] at hs; cases hs
  by_cases h2 : vat m (f * 24 + t) <= w
  . rw [addM_le h1 h2]
    change mm m f t <= w at h2
    refine ⟨fun i j _ _ => Int.le_refl _, fun i j hi hj a b => ?_, fun i j _ _ => .inl rfl⟩
    show mm m i j <= _
    have b0 := h.bd f t hf ht
    have h3 : ¬ mm m f t = NB := by omega
    have b1 := h.tri i f t hi hf ht a h3
    have b2 := h.tri i t j hi ht hj (h.fin hB hi hf ht a h3) b
    omega
  . rw [addM_relax h1 h2]
    have e : ∀ i j, i < n -> j < n -> mm (relaxM m f t w) i j = if mm m i f = NB then mm m i j else min (mm m i j) (zW (mm m i f + w) (mm m t j)) := fun i j hi hj => mm_relax (by omega) (by omega)
    refine ⟨fun i j hi hj => ?_, fun i j hi hj a b => ?_, fun i j hi hj => ?_⟩
    . show mm (relaxM m f t w) i j <= _
      rw [e i j hi hj]; split
      . exact Int.le_refl _
      . omega
    . show mm (relaxM m f t w) i j <= _
      rw [e i j hi hj, if_neg a, plusM_nb (by have := h.bd i f hi hf; omega) b]
      omega
    . show mm (relaxM m f t w) i j = _ \/ _ /\ _ /\ mm (relaxM m f t w) i j = _
      rw [e i j hi hj]
      by_cases a : mm m i f = NB
      . rw [if_pos a]; exact .inl rfl
      . rw [if_neg a]
        have b0 := h.bd i f hi hf
        by_cases b : mm m t j = NB
        . rw [plusM_inf (.inr b)]
          have := h.bd i j hi hj
          exact .inl (by omega)
        . rw [plusM_nb (by omega) b]
          rcases Int.le_total (mm m i j) (mm m i f + w + mm m t j) with h3 | h3
          . exact .inl (by omega)
          . exact .inr ⟨a, b, by omega⟩
theorem Cl.ok_pos {n : Nat} {m : Vector Int 576} {B : Int} {f t : Nat} {w : Int} (h : Cl n m B) (hB : B <= 288230376151711744) (hf : f < n) (ht : t < n) (hw : -72057594037927936 <= w /\ w <= 72057594037927936)
    (hs : (addM m f t w).1 = true) : mm m t f = NB \/ 0 <= w + mm m t f := by
  have hnb := hNB
  by_cases h1 : zW w (vat m (t * 24 + f)) < 0
  . rw [addM_neg h1] at hs; cases hs
  change ¬ zW w (mm m t f) < 0 at h1
  by_cases h2 : mm m t f = NB
  . exact .inl h2
  . rw [plusM_nb (by omega) h2] at h1; exact .inr (by omega)
theorem Cl.bad {n : Nat} {m : Vector Int 576} {B : Int} {f t : Nat} {w : Int} (h : Cl n m B) (hf : f < n) (ht : t < n) (hw : -72057594037927936 <= w /\ w <= 72057594037927936)
    (hs : ¬ (addM m f t w).1 = true) : ¬ mm m t f = NB /\ w + mm m t f < 0 := by
  have hnb := hNB
  by_cases h1 : zW w (vat m (t * 24 + f)) < 0
  . change zW w (mm m t f) < 0 at h1
    by_cases h2 : mm m t f = NB
    . rw [plusM_inf (.inr h2)] at h1; omega
    . rw [plusM_nb (by omega) h2] at h1; exact ⟨h2, h1⟩
  . exfalso
    by_cases h2 : vat m (f * 24 + t) <= w
    . exact hs (by rw [addM_le h1 h2])
    . exact hs (by rw [addM_relax h1 h2])
theorem Cl.step {n : Nat} {m m' : Vector Int 576} {B : Int} {f t : Nat} {w : Int} (h : Cl n m B) (hB : 0 <= B /\ B <= 144115188075855872) (hf : f < n) (ht : t < n) (hw : -72057594037927936 <= w /\ w <= 72057594037927936)
    (hr : Rel n m m' f t w) (hp : mm m t f = NB \/ 0 <= w + mm m t f) : Cl n m' (2 * B + 72057594037927936) := by
  have hnb := hNB
  have F := fun {i j k : Nat} => h.fin (i := i) (j := j) (k := k) (by omega)
  refine ⟨h.n24, fun i hi => ?_, fun i j k hi hj hk a b => ?_, fun i j hi hj => ?_⟩
  . have d := h.diag i hi
    rcases hr.one i i hi hi with e | ⟨a, b, e⟩
    . rw [e, d]
    . have h1 := hr.le i i hi hi
      have h2 := h.tri t i f ht hi hf b a
      have h3 := F ht hi hf b a
      omega
  . rcases hr.one i j hi hj with e | ⟨a1, a2, e⟩ <;> rcases hr.one j k hj hk with e' | ⟨b1, b2, e'⟩
    . have h1 := hr.le i k hi hk
      have h2 := h.tri i j k hi hj hk (by rwa [<- e]) (by rwa [<- e'])
      omega
    . have h0 := F hi hj hf (by rwa [<- e]) b1
      have h1 := hr.via i k hi hk h0 b2
      have h2 := h.tri i j f hi hj hf (by rwa [<- e]) b1
      omega
    . have h0 := F ht hj hk a2 (by rwa [<- e'])
      have h1 := hr.via i k hi hk a1 h0
      have h2 := h.tri t j k ht hj hk a2 (by rwa [<- e'])
      omega
    . have h1 := hr.via i k hi hk a1 b2
      have h2 := h.tri t j f ht hj hf a2 b1
      have h3 := F ht hj hf a2 b1
      omega
  . have h0 := h.bd i j hi hj
    rcases hr.one i j hi hj with e | ⟨a1, a2, e⟩
    . rw [e]; omega
    . have h1 := h.bd i f hi hf
      have h2 := h.bd t j ht hj
      omega
theorem Rel.sol {n : Nat} {m m' : Vector Int 576} {B : Int} {f t : Nat} {w : Int} (h : Cl n m B) (hB : B <= 288230376151711744) (hf : f < n) (ht : t < n) (hw : w <= 72057594037927936)
    (hr : Rel n m m' f t w) (x : Nat -> Int) : Sol n m' x ↔ Sol n m x /\ x t - x f <= w := by
  have hnb := hNB
  constructor
  . intro hx
    refine ⟨fun i j hi hj a => ?_, ?_⟩
    . have h1 := hr.le i j hi hj
      have h2 := h.bd i j hi hj
      have h3 := hx i j hi hj (by omega)
      omega
    . have d1 := h.diag f hf
      have d2 := h.diag t ht
      have h1 := hr.via f t hf ht (by omega) (by omega)
      have h3 := hx f t hf ht (by omega)
      omega
  . rintro ⟨hx, hw⟩ i j hi hj a
    rcases hr.one i j hi hj with e | ⟨a1, a2, e⟩
    . have := hx i j hi hj (by rwa [<- e]); omega
    . have h1 := hx i f hi hf a1
      have h2 := hx t j ht hj a2
      omega
def ptF (m : Vector Int 576) (f n : Nat) (j : Nat) : Int :=
  if mm m f j = NB then (List.range n).foldl (fun o i => if mm m f i = NB /\ ¬ mm m i j = NB then min o (576460752303423488 + mm m i j) else o) 576460752303423488 else mm m f j
theorem pointV_eq {m : Vector Int 576} {f n : Nat} : pointV m f n = (List.range n).map (ptF m f n) := rfl
theorem foldMin {p : Nat -> Prop} [DecidablePred p] {g : Nat -> Int} {s : Int} (n : Nat) :
    let r := (List.range n).foldl (fun o i => if p i then min o (g i) else o) s
    (r <= s /\ ∀ i, i < n -> p i -> r <= g i) /\ (r = s \/ ∃ i, i < n /\ p i /\ r = g i) := by
  induction n with
  | zero => exact ⟨⟨Int.le_refl _, by omega⟩, .inl rfl⟩
  | succ n ih =>
    rw [List.range_succ, List.foldl_append]
    simp only [List.foldl_cons, List.foldl_nil] at ih ⊢
    generalize (List.range n).foldl (fun o i => if p i then min o (g i) else o) s = r at ih ⊢
    obtain ⟨⟨h1, h2⟩, h3⟩ := ih
    by_cases hp : p n
    . rw [if_pos hp]
      refine ⟨⟨by omega, fun i hi hpi => ?_⟩, ?_⟩
      . rcases Nat.lt_or_ge i n with h | h
        . have := h2 i h hpi; omega
        . have : i = n := by omega
          subst this; omega
      . rcases Int.le_total r (g n) with h | h
        . rw [show min r (g n) = r by omega]
          rcases h3 with h3 | ⟨i, hi, h4⟩
          . exact .inl h3
          . exact .inr ⟨i, by omega, h4⟩
        . exact .inr ⟨n, by omega, hp, by omega⟩
    . rw [if_neg hp]
      refine ⟨⟨h1, fun i hi hpi => ?_⟩, ?_⟩
      . rcases Nat.lt_or_ge i n with h | h
        . exact h2 i h hpi
        . have : i = n := by omega
          subst this; exact (hp hpi).elim
      . rcases h3 with h3 | ⟨i, hi, h4⟩
        . exact .inl h3
        . exact .inr ⟨i, by omega, h4⟩
structure PtOk (n : Nat) (m : Vector Int 576) (f : Nat) (B : Int) (x : Nat -> Int) : Prop where
  fin : ∀ j, j < n -> ¬ mm m f j = NB -> x j = mm m f j
  inf : ∀ j, j < n -> mm m f j = NB -> 576460752303423488 - B <= x j /\ x j <= 576460752303423488
  sol : Sol n m x
theorem Cl.pt {n : Nat} {m : Vector Int 576} {B : Int} {f : Nat} (h : Cl n m B) (hB : 0 <= B /\ B <= 144115188075855872) (hf : f < n) : PtOk n m f B (ptF m f n) := by
  have hnb := hNB
  have P := fun j => foldMin (p := fun i => mm m f i = NB /\ ¬ mm m i j = NB) (g := fun i => 576460752303423488 + mm m i j) (s := 576460752303423488) n
  have e1 : ∀ j, ¬ mm m f j = NB -> ptF m f n j = mm m f j := fun j a => by unfold ptF; rw [if_neg a]
  have e2 : ∀ j, mm m f j = NB -> ptF m f n j = (List.range n).foldl (fun o i => if mm m f i = NB /\ ¬ mm m i j = NB then min o (576460752303423488 + mm m i j) else o) 576460752303423488 := fun j a => by unfold ptF; rw [if_pos a]
  have I : ∀ j, j < n -> mm m f j = NB -> 576460752303423488 - B <= ptF m f n j /\ ptF m f n j <= 576460752303423488 := fun j hj a => by
    rw [e2 j a]
    obtain ⟨⟨p1, -⟩, p3⟩ := P j
    refine ⟨?_, p1⟩
    rcases p3 with p3 | ⟨i, hi, ⟨-, q2⟩, q⟩
    . rw [p3]; omega
    . rw [q]; have := h.bd i j hi hj; omega
  refine ⟨fun j _ a => e1 j a, I, fun a b ha hb hab => ?_⟩
  have bab := h.bd a b ha hb
  by_cases fa : mm m f a = NB
  . have ia := I a ha fa
    by_cases fb : mm m f b = NB
    . obtain ⟨⟨p1, p2⟩, -⟩ := P b
      obtain ⟨-, q3⟩ := P a
      rw [<- e2 b fb] at p1 p2
      rw [<- e2 a fa] at q3
      rcases q3 with q3 | ⟨i, hi, ⟨i1, i2⟩, q⟩
      . have := p2 a ha ⟨fa, hab⟩; omega
      . have t := h.tri i a b hi ha hb i2 hab
        have := p2 i hi ⟨i1, h.fin (by omega) hi ha hb i2 hab⟩
        omega
    . rw [e1 b fb]
      have := h.bd f b hf hb
      omega
  . have fb := h.fin (by omega) hf ha hb fa hab
    rw [e1 a fa, e1 b fb]
    have := h.tri f a b hf ha hb fa hab
    omega
theorem Cl.le_of_sol {n : Nat} {m1 m2 : Vector Int 576} {B : Int} (h1 : Cl n m1 B) (h2 : Cl n m2 B) (hB : 0 <= B /\ B <= 144115188075855872) (hs : ∀ x, Sol n m1 x -> Sol n m2 x) {i j : Nat} (hi : i < n) (hj : j < n) : mm m1 i j <= mm m2 i j := by
  have hnb := hNB
  obtain ⟨p1, p2, p3⟩ := h1.pt hB hi
  have b1 := h1.bd i j hi hj
  have b2 := h2.bd i j hi hj
  by_cases e : mm m2 i j = NB
  . omega
  have d := h1.diag i hi
  have := hs _ p3 i j hi hj e
  rw [p1 i hi (by omega), d] at this
  by_cases f : mm m1 i j = NB
  . have := p2 j hj f; omega
  . rw [p1 j hj f] at this; omega
theorem Cl.eq_of_sol {n : Nat} {m1 m2 : Vector Int 576} {B : Int} (h1 : Cl n m1 B) (h2 : Cl n m2 B) (hB : 0 <= B /\ B <= 144115188075855872) (hs : ∀ x, Sol n m1 x ↔ Sol n m2 x) {i j : Nat} (hi : i < n) (hj : j < n) : mm m1 i j = mm m2 i j :=
  Int.le_antisymm (h1.le_of_sol h2 hB (fun x => (hs x).mp) hi hj) (h2.le_of_sol h1 hB (fun x => (hs x).mpr) hi hj)
theorem countP_lt {l : List Nat} {p q : Nat -> Bool} (h : ∀ r ∈ l, p r = true -> q r = true) (r : Nat) (hr : r ∈ l) (h1 : q r = true) (h2 : ¬ p r = true) : l.countP p + 1 <= l.countP q := by
  induction l with
  | nil => cases hr
  | cons a l ih =>
    have hm : l.countP p <= l.countP q := List.countP_mono_left fun r hr => h r (by simp [hr])
    simp only [List.countP_cons]
    rcases List.mem_cons.mp hr with rfl | hr'
    . simp only [h1, h2]; simp; omega
    . have := ih (fun r hr => h r (by simp [hr])) hr'
      have h3 := h a (by simp)
      split <;> split <;> first | omega | (exfalso; simp_all)
theorem gap {n : Nat} (hn : n <= 24) {P : Nat -> Nat -> Prop} [∀ k r, Decidable (P k r)] (hm : ∀ k r, P k r -> P (k + 1) r) (i j : Nat) (hi : i < n) (hj : j < n) (h0 : P 0 i) (h1 : ¬ P 23 j) :
    ∃ k, k < 23 /\ ∀ r, r < n -> P (k + 1) r -> P k r := by
  apply Classical.byContradiction
  intro hno
  have hk : ∀ k, k <= 23 -> k + 1 <= (List.range n).countP fun r => decide (P k r) := by
    intro k
    induction k with
    | zero =>
      intro _
      have : 0 < (List.range n).countP fun r => decide (P 0 r) := List.countP_pos_iff.mpr ⟨i, List.mem_range.mpr hi, decide_eq_true h0⟩
      omega
    | succ k ih =>
      intro hk
      have h2 := ih (by omega)
      have h3 : ¬ ∀ r, r < n -> P (k + 1) r -> P k r := fun h => hno ⟨k, by omega, h⟩
      simp only [Classical.not_forall] at h3
      obtain ⟨r, hr, h4, h5⟩ := h3
      have := countP_lt (l := List.range n) (p := fun r => decide (P k r)) (q := fun r => decide (P (k + 1) r)) (fun r _ h => decide_eq_true (hm k r (of_decide_eq_true h))) r (List.mem_range.mpr hr) (decide_eq_true h4) (fun h => h5 (of_decide_eq_true h))
      omega
  have h2 := hk 23 (by omega)
  have h3 := countP_lt (l := List.range n) (p := fun r => decide (P 23 r)) (q := fun _ => true) (fun _ _ _ => rfl) j (List.mem_range.mpr hj) rfl (fun h => h1 (of_decide_eq_true h))
  have h4 : (List.range n).countP (fun _ => true) <= n := by
    have := List.countP_le_length (p := fun _ => true) (l := List.range n)
    simpa using this
  omega
def SolL (l : List Con) (x : Nat -> Int) : Prop := ∀ c ∈ l, x c.t.toNat - x c.f.toNat <= c.m
def Good (n : Nat) (l : List Con) : Prop := ∀ c ∈ l, (0 <= c.f /\ c.f < n) /\ (0 <= c.t /\ c.t < n) /\ -1125899906842624 <= c.m /\ c.m <= 1125899906842624
theorem Cl.small {n : Nat} {m : Vector Int 576} {B : Int} {l : List Con} (h : Cl n m B) (hB : 0 <= B /\ B <= 144115188075855872) (hl : Good n l) (hs : ∀ x, Sol n m x ↔ SolL l x) : Cl n m 25895697857380352 := by
  have hnb := hNB
  refine ⟨h.n24, h.diag, h.tri, fun i j hi hj => ?_⟩
  by_cases fin : mm m i j = NB
  . exact .inl fin
  refine .inr ?_
  obtain ⟨p1, p2, p3⟩ := h.pt hB hi
  have hL := (hs _).mp p3
  have d := h.diag i hi
  have hno : ∀ U : Nat -> Prop, [DecidablePred U] -> ¬ U i -> U j -> ¬ SolL l (fun r => ptF m i n r + if U r then 1 else 0) := by
    intro U _ hUi hUj hS
    have := (hs _).mpr hS i j hi hj fin
    rw [if_pos hUj, if_neg hUi, p1 i hi (by omega), p1 j hj fin] at this
    omega
  constructor
  . apply Classical.byContradiction
    intro hlt
    obtain ⟨k, hk, hg⟩ := gap h.n24 (P := fun k r => ¬ mm m i r = NB /\ -(k * 1125899906842624 : Int) <= mm m i r) (fun k r hp => ⟨hp.1, by have := hp.2; omega⟩) i j hi hj ⟨by omega, by omega⟩ (fun hp => by have := hp.2; omega)
    refine hno (fun r => ¬ mm m i r = NB /\ mm m i r < -(k * 1125899906842624 : Int)) (by omega) ⟨fin, by omega⟩ fun c hc => ?_
    obtain ⟨c1, c2, c3, c4⟩ := hl c hc
    have h1 := hL c hc
    dsimp only
    split
    . rename_i hb
      split
      . omega
      . rename_i ha
        have hg' := hg c.t.toNat (by omega)
        rw [p1 c.t.toNat (by omega) hb.1] at h1 ⊢
        by_cases fa : mm m i c.f.toNat = NB
        . have := p2 _ (by omega) fa; omega
        . rw [p1 c.f.toNat (by omega) fa] at h1 ⊢; omega
    . split <;> omega
  . apply Classical.byContradiction
    intro hlt
    obtain ⟨k, hk, hg⟩ := gap h.n24 (P := fun k r => ¬ mm m i r = NB /\ mm m i r <= (k * 1125899906842624 : Int)) (fun k r hp => ⟨hp.1, by have := hp.2; omega⟩) i j hi hj ⟨by omega, by omega⟩ (fun hp => by have := hp.2; omega)
    refine hno (fun r => ¬ mm m i r = NB /\ (k * 1125899906842624 : Int) < mm m i r) (by omega) ⟨fin, by omega⟩ fun c hc => ?_
    obtain ⟨c1, c2, c3, c4⟩ := hl c hc
    have h1 := hL c hc
    dsimp only
    split
    . rename_i hb
      split
      . omega
      . rename_i ha
        have hg' := hg c.t.toNat (by omega)
        rw [p1 c.t.toNat (by omega) hb.1] at h1 ⊢
        by_cases fa : mm m i c.f.toNat = NB
        . have := p2 _ (by omega) fa
          have := h.bd i c.t.toNat hi (by omega)
          omega
        . rw [p1 c.f.toNat (by omega) fa] at h1 ⊢; omega
    . split <;> omega
end Go.Lat
namespace Go.Lat
abbrev B0 : Int := 25895697857380352
theorem hB0 : B0 = 25895697857380352 := rfl
theorem Cl.addOk {m : Vector Int 576} {B : Int} {f t w : Int} (h : Cl 24 m B) (hB : B <= 288230376151711744) (hf : 0 <= f /\ f < 24) (ht : 0 <= t /\ t < 24) (hw : -72057594037927936 <= w /\ w <= 72057594037927936) : AddOk m f t w := by
  have hnb := hNB
  refine ⟨hf, ht, hw, fun k => ?_⟩
  rcases Nat.lt_or_ge k 576 with hk | hk
  . have := h.bd (k / 24) (k % 24) (by omega) (by omega)
    have e : mm m (k / 24) (k % 24) = vat m k := by unfold mm; rw [show k / 24 * 24 + k % 24 = k by omega]
    rw [e] at this; omega
  . rw [vat_ge hk]; omega
theorem mm_free {i j : Nat} (hi : i < 24) (hj : j < 24) : mm freeM i j = if i = j then 0 else NB := by
  unfold mm freeM
  rw [vat_ofFn (by omega)]
  dsimp only
  rw [show (i * 24 + j) / 24 = i by omega, show (i * 24 + j) % 24 = j by omega]
theorem free_cl : Cl 24 freeM 0 := by
  have hnb := hNB
  refine ⟨by omega, fun i hi => by rw [mm_free hi hi, if_pos rfl], fun i j k hi hj hk a b => ?_, fun i j hi hj => ?_⟩
  . rw [mm_free hi hj] at a ⊢
    rw [mm_free hj hk] at b ⊢
    rw [mm_free hi hk]
    split at a
    . rename_i e
      subst e
      rw [if_pos rfl]; omega
    . exact (a rfl).elim
  . rw [mm_free hi hj]
    split
    . exact .inr (by omega)
    . exact .inl rfl
theorem free_sol (x : Nat -> Int) : Sol 24 freeM x := by
  intro i j hi hj a
  rw [mm_free hi hj] at a ⊢
  split at a
  . rename_i e
    subst e
    rw [if_pos rfl]; omega
  . exact (a rfl).elim
theorem Cl.add {m : Vector Int 576} {B : Int} {f t w : Int} (h : Cl 24 m B) (hB : 0 <= B /\ B <= 36028797018963968) (hf : 0 <= f /\ f < 24) (ht : 0 <= t /\ t < 24) (hw : -36028797018963968 <= w /\ w <= 36028797018963968) :
    ((addM m f t w).1 = true -> Cl 24 (addM m f t w).2 144115188075855872 /\ ∀ x, Sol 24 (addM m f t w).2 x ↔ Sol 24 m x /\ x t.toNat - x f.toNat <= w) ∧
    (¬ (addM m f t w).1 = true -> ∀ x, ¬ (Sol 24 m x /\ x t.toNat - x f.toNat <= w)) ∧
    ((addM m f t w).1 = true ↔ mm m t.toNat f.toNat = NB \/ 0 <= w + mm m t.toNat f.toNat) := by
  obtain ⟨f, rfl⟩ : ∃ k : Nat, f = k := ⟨f.toNat, by omega⟩
  obtain ⟨t, rfl⟩ : ∃ k : Nat, t = k := ⟨t.toNat, by omega⟩
  simp only [Int.toNat_natCast]
  refine ⟨fun hs => ?_, fun hs => ?_, fun hs => ?_, fun hs => ?_⟩
  . have r := h.rel (by omega) (by omega) (by omega) (by omega) hs
    have p := h.ok_pos (by omega) (by omega) (by omega) (by omega) hs
    exact ⟨(h.step (by omega) (by omega) (by omega) (by omega) r p).mono (by omega), fun x => r.sol h (by omega) (by omega) (by omega) (by omega) x⟩
  . intro x ⟨hx, hx2⟩
    obtain ⟨b1, b2⟩ := h.bad (by omega) (by omega) (by omega) hs
    have := hx t f (by omega) (by omega) b1
    omega
  . exact h.ok_pos (by omega) (by omega) (by omega) (by omega) hs
  . apply Classical.byContradiction
    intro hn
    obtain ⟨b1, b2⟩ := h.bad (by omega) (by omega) (by omega) hn
    omega
theorem SolL_append {a b : List Con} {x : Nat -> Int} : SolL (a ++ b) x ↔ SolL a x /\ SolL b x := by
  unfold SolL
  simp only [List.mem_append]
  exact ⟨fun h => ⟨fun c hc => h c (.inl hc), fun c hc => h c (.inr hc)⟩, fun h c hc => hc.elim (h.1 c) (h.2 c)⟩
theorem SolL_one {c : Con} {x : Nat -> Int} : SolL [c] x ↔ x c.t.toNat - x c.f.toNat <= c.m := by unfold SolL; simp
theorem Good.append {n : Nat} {a b : List Con} (ha : Good n a) (hb : Good n b) : Good n (a ++ b) := fun c hc => (List.mem_append.mp hc).elim (ha c) (hb c)
structure CM (m : Vector Int 576) (l : List Con) : Prop where
  cl : Cl 24 m B0
  sol : ∀ x, Sol 24 m x ↔ SolL l x
theorem CM.free : CM freeM [] := ⟨free_cl.mono (by rw [hB0]; omega), fun x => ⟨fun _ _ h => (by cases h), fun _ => free_sol x⟩⟩
theorem CM.addOk {m : Vector Int 576} {p : List Con} {c : Con} (h : CM m p) (hc : Good 24 [c]) : AddOk m c.f c.t c.m := by
  have := hB0
  obtain ⟨c1, c2, c3⟩ := hc c (by simp)
  exact h.cl.addOk (by omega) c1 c2 (by omega)
theorem CM.step {m : Vector Int 576} {p : List Con} {c : Con} (h : CM m p) (hp : Good 24 p) (hc : Good 24 [c]) (hs : (addM m c.f c.t c.m).1 = true) : CM (addM m c.f c.t c.m).2 (p ++ [c]) := by
  have := hB0
  obtain ⟨c1, c2, c3⟩ := hc c (by simp)
  obtain ⟨a, -, -⟩ := h.cl.add (f := c.f) (t := c.t) (w := c.m) (by omega) c1 c2 (by omega)
  obtain ⟨a1, a2⟩ := a hs
  have hsol : ∀ x, Sol 24 (addM m c.f c.t c.m).2 x ↔ SolL (p ++ [c]) x := fun x => by rw [a2, h.sol, SolL_append, SolL_one]
  exact ⟨a1.small (by omega) (hp.append hc) hsol, hsol⟩
theorem CM.stop {m : Vector Int 576} {p : List Con} {c : Con} (h : CM m p) (hc : Good 24 [c]) (hs : ¬ (addM m c.f c.t c.m).1 = true) (x : Nat -> Int) : ¬ SolL (p ++ [c]) x := by
  have := hB0
  obtain ⟨c1, c2, c3⟩ := hc c (by simp)
  obtain ⟨-, a, -⟩ := h.cl.add (f := c.f) (t := c.t) (w := c.m) (by omega) c1 c2 (by omega)
  have := a hs x
  rwa [h.sol, <- SolL_one, <- SolL_append] at this
theorem addAll_spec {l : List Con} : ∀ {m : Vector Int 576} {p : List Con}, CM m p -> Good 24 p -> Good 24 l -> (∀ m', addAll m l = some m' -> CM m' (p ++ l)) /\ (addAll m l = none -> ∀ x, ¬ SolL (p ++ l) x) := by
  induction l with
  | nil =>
    intro m p h _ _
    refine ⟨fun m' e => ?_, fun e => by cases e⟩
    cases e; simpa using h
  | cons c l ih =>
    intro m p h hp hl
    have hc : Good 24 [c] := fun c' h' => hl c' (by simp at h'; simp [h'])
    have hl' : Good 24 l := fun c' h' => hl c' (by simp [h'])
    by_cases hs : (addM m c.f c.t c.m).1 = true
    . have := ih (h.step hp hc hs) (hp.append hc) hl'
      have e : addAll m (c :: l) = addAll (addM m c.f c.t c.m).2 l := by show (if _ then _ else _) = _; rw [if_pos hs]
      rw [e]
      simpa using this
    . have e : addAll m (c :: l) = none := by show (if _ then _ else _) = _; rw [if_neg hs]
      rw [e]
      refine ⟨fun m' e => (by cases e), fun _ x hx => h.stop hc hs x ?_⟩
      rw [show p ++ c :: l = (p ++ [c]) ++ l by simp, SolL_append] at hx
      exact hx.1
theorem close_spec {l : List Con} (hl : Good 24 l) : (∀ m, addAll freeM l = some m -> CM m l) /\ (addAll freeM l = none -> ∀ x, ¬ SolL l x) := by
  simpa using addAll_spec (l := l) CM.free (fun _ h => by cases h) hl
theorem validM_good {n : Int} {l : List Con} (h : validM n l = true) : Good 24 l := fun c hc => by
  obtain ⟨⟨a, b, -⟩, hp⟩ := validM_iff.mp h
  have := possM_iff.mp (hp c hc); omega
theorem bounds_len {m : Vector Int 576} {n : Int} : (zYs m n).most.length = n.toNat := by unfold zYs; simp
theorem bounds_row {m : Vector Int 576} {n : Int} (hn : n <= 24) {i : Nat} (hi : i < n.toNat) : ((zYs m n).most.getD i []).length = n.toNat := by
  unfold zYs
  simp only [List.getD_eq_getElem?_getD, List.getElem?_map, List.getElem?_range hi]
  simp; omega
theorem bm_bounds {m : Vector Int 576} {n : Int} {i j : Nat} (hi : i < n.toNat) (hj : j < n.toNat) : bm (zYs m n) i j = mm m i j := by
  have hl : m.toList.length = 576 := by simp
  unfold zYs bm mm vat
  simp only [List.getD_eq_getElem?_getD, List.getElem?_map, List.getElem?_range hi]
  simp only [Option.map_some, Option.getD_some]
  rw [List.getElem?_take_of_lt hj, List.getElem?_drop]
theorem Cl.vb {m : Vector Int 576} {B : Int} (h : Cl 24 m B) (hB : B <= 36028797018963968) {n : Int} (hn : 1 <= n /\ n <= 24) : VB (zYs m n) := by
  have hnb := hNB
  have e : (zYs m n).n = n := rfl
  have E := fun {i j : Nat} => bm_bounds (m := m) (n := n) (i := i) (j := j)
  refine ⟨by rw [e, bounds_len]; omega, fun i hi => ?_, fun i hi => ?_, fun i j hi hj => ?_, fun i j k hi hj hk => ?_⟩ <;> rw [bounds_len] at *
  . exact bounds_row hn.2 hi
  . rw [E hi hi]; exact h.diag i (by omega)
  . rw [E hi hj]; have := h.bd i j (by omega) (by omega); omega
  . rw [E hi hj, E hj hk, E hi hk]
    by_cases e1 : mm m i j = NB
    . exact .inl e1
    . refine .inr ?_
      by_cases e2 : mm m j k = NB
      . rw [plusM_inf (.inr e2)]
        have := h.bd i k (by omega) (by omega); omega
      . rw [plusM_nb e1 e2]; exact h.tri i j k (by omega) (by omega) (by omega) e1 e2
theorem of_at {b : Bd} (v : VB b) {i j : Nat} (hi : i < 24) (hj : j < 24) : mm (ofM b) i j = if i < b.n.toNat /\ j < b.n.toNat then bm b i j else if i = j then 0 else NB := by
  have hn := v.n
  have K : ∀ k : Nat, k <= b.most.length -> mm ((List.range k).foldl (fun m i => vput m (i * 24) ((b.most.getD i []).take 24)) freeM) i j = if i < k /\ j < b.n.toNat then bm b i j else if i = j then 0 else NB := by
    intro k
    induction k with
    | zero => intro _; rw [if_neg (by omega)]; exact mm_free hi hj
    | succ k ih =>
      intro hk
      have ih := ih (by omega)
      rw [List.range_succ, List.foldl_append]
      simp only [List.foldl_cons, List.foldl_nil]
      generalize (List.range k).foldl (fun m i => vput m (i * 24) ((b.most.getD i []).take 24)) freeM = m at ih
      have hr := v.row k (by omega)
      have hl : ((b.most.getD k []).take 24).length = b.most.length := by rw [List.length_take, hr]; omega
      unfold mm at ih ⊢
      rw [vat_vput (by omega), hl]
      by_cases h1 : i = k
      . subst h1
        by_cases h2 : j < b.n.toNat
        . rw [if_pos (by omega), if_pos (by omega)]
          unfold bm
          rw [show i * 24 + j - i * 24 = j by omega, List.take_of_length_le (by omega)]
        . rw [if_neg (by omega), ih]
          have e1 : ¬ (i < i /\ j < b.n.toNat) := by omega
          have e2 : ¬ (i < i + 1 /\ j < b.n.toNat) := by omega
          rw [if_neg e1, if_neg e2]
      . rw [if_neg (by omega), ih]
        have e1 : (i < k /\ j < b.n.toNat) ↔ (i < k + 1 /\ j < b.n.toNat) := by omega
        simp only [e1]
  have := K b.most.length (by omega)
  unfold ofM
  rw [this]
  have e1 : (i < b.most.length /\ j < b.n.toNat) ↔ (i < b.n.toNat /\ j < b.n.toNat) := by omega
  simp only [e1]
theorem VB.cl {b : Bd} (v : VB b) : Cl 24 (ofM b) 36028797018963968 := by
  have hnb := hNB
  have hn := v.n
  refine ⟨by omega, fun i hi => ?_, fun i j k hi hj hk a c => ?_, fun i j hi hj => ?_⟩
  . rw [of_at v hi hi]
    split
    . exact v.diag i (by omega)
    . rw [if_pos rfl]
  . rw [of_at v hi hj] at a ⊢
    rw [of_at v hj hk] at c ⊢
    rw [of_at v hi hk]
    by_cases h1 : i < b.n.toNat /\ j < b.n.toNat
    . rw [if_pos h1] at a ⊢
      by_cases h2 : k < b.n.toNat
      . rw [if_pos (by omega)] at c ⊢
        rw [if_pos (by omega)]
        have := (v.tri i j k (by omega) (by omega) (by omega)).resolve_left a
        rwa [plusM_nb a c] at this
      . rw [if_neg (by omega), if_neg (by omega)] at c
        exact (c rfl).elim
    . rw [if_neg h1] at a ⊢
      split at a
      . rename_i e
        subst e
        rw [if_pos rfl]; omega
      . exact (a rfl).elim
  . rw [of_at v hi hj]
    split
    . have := v.ok i j (by omega) (by omega); omega
    . split
      . exact .inr (by omega)
      . exact .inl rfl
end Go.Lat
namespace Go.Lat
theorem addAll_cons {m : Vector Int 576} {c : Con} {l : List Con} : addAll m (c :: l) = if (addM m c.f c.t c.m).1 = true then addAll (addM m c.f c.t c.m).2 l else none := rfl
theorem close_inv {n : Int} {l : List Con} (h : ¬ validM n l = true) : zWy n l = (⟨0, []⟩, [], 2) := by unfold zWy; rw [if_neg h]
theorem close_none {n : Int} {l : List Con} (h : validM n l = true) (e : addAll freeM l = none) : zWy n l = (⟨0, []⟩, firstM n l, 70) := by unfold zWy; rw [if_pos h, e]
theorem close_some {n : Int} {l : List Con} {m : Vector Int 576} (h : validM n l = true) (e : addAll freeM l = some m) : zWy n l = (zYs m n, [], 0) := by unfold zWy; rw [if_pos h, e]
theorem range_pos {b : Bd} {f t : Nat} (h : validBM b = true) (hf : f < b.n) (ht : t < b.n) : zWz b f t = (-bm b t f, bm b f t, 0) := by unfold zWz; rw [if_pos ⟨h, by omega, by omega⟩]; rfl
theorem range_neg {b : Bd} {f t : Int} (h : ¬ (validBM b = true /\ 0 <= min f t /\ max f t < b.n)) : zWz b f t = (0, 0, 2) := by unfold zWz; rw [if_neg h]
theorem range_ok {b : Bd} {f t : Int} (h : (zWz b f t).2.2 = 0) : validBM b = true /\ (0 <= f /\ f < b.n) /\ (0 <= t /\ t < b.n) := by
  by_cases e : validBM b = true /\ 0 <= min f t /\ max f t < b.n
  . exact ⟨e.1, by omega, by omega⟩
  . rw [range_neg e] at h; cases h
def ptM (b : Bd) (f t v : Int) : Vector Int 576 := if f = t then ofM b else (addM (addM (ofM b) f t v).2 t f (-v)).2
theorem point_pos {b : Bd} {f t v : Int} (h : (zWz b f t).2.2 = 0 /\ max (zWz b f t).1 (-36028797018963968) <= v /\ v <= min (zWz b f t).2.1 36028797018963968) : pointM b f t v = (pointV (ptM b f t v) f.toNat b.n.toNat, 0) := by
  unfold pointM; simp only []; rw [if_pos h]; rfl
theorem point_neg {b : Bd} {f t v : Int} (h : ¬ ((zWz b f t).2.2 = 0 /\ max (zWz b f t).1 (-36028797018963968) <= v /\ v <= min (zWz b f t).2.1 36028797018963968)) : pointM b f t v = ([], 2) := by
  unfold pointM; simp only []; rw [if_neg h]
theorem lat_map {n : Nat} {g : Nat -> Int} {i : Nat} (h : i < n) : lat ((List.range n).map g) i = g i := by rw [lat_nat]; simp [List.getD_eq_getElem?_getD, List.getElem?_map, List.getElem?_range h]
theorem map_set {n : Nat} {g : Nat -> Int} {i : Nat} {v : Int} : ((List.range n).map g).set i v = (List.range n).map fun k => if k = i then v else g k := by
  apply List.ext_getElem?
  intro k
  rw [List.getElem?_set]
  rcases Nat.lt_or_ge k n with h | h
  . simp only [List.getElem?_map, List.getElem?_range h, List.length_map, List.length_range, Option.map_some]
    by_cases e : i = k
    . subst e; simp [h]
    . have : ¬ k = i := fun x => e x.symm
      simp [e, this]
  . rw [List.getElem?_eq_none (by simp; omega), List.getElem?_eq_none (by simp; omega)]
    split
    . split
      . rename_i h1 h2; simp at h2; omega
      . rfl
    . rfl
theorem row_map {m : Vector Int 576} {f n : Nat} (hf : f < 24) (hn : n <= 24) : (m.toList.drop (f * 24)).take n = (List.range n).map (mm m f) := by
  have hl : m.toList.length = 576 := by simp
  apply List.ext_getElem?
  intro k
  rcases Nat.lt_or_ge k n with h | h
  . rw [List.getElem?_take_of_lt h, List.getElem?_drop, List.getElem?_map, List.getElem?_range h]
    have hk : f * 24 + k < m.toList.length := by omega
    unfold mm vat
    rw [List.getElem?_eq_getElem hk]
    simp only [Option.map_some, List.getD_eq_getElem?_getD, List.getElem?_eq_getElem hk, Option.getD_some]
  . rw [List.getElem?_eq_none (by simp; omega), List.getElem?_eq_none (by simp; omega)]
structure Two (m m2 : Vector Int 576) (f t : Nat) (v : Int) : Prop where
  cl : Cl 24 m2 108086391056891904
  sol : ∀ x, Sol 24 m2 x ↔ Sol 24 m x /\ x t - x f = v
theorem Cl.two {m : Vector Int 576} {f t : Nat} {v : Int} (h : Cl 24 m 36028797018963968) (hf : f < 24) (ht : t < 24) (hw : -36028797018963968 <= v /\ v <= 36028797018963968)
    (h1 : mm m t f = NB \/ -mm m t f <= v) (h2 : v <= mm m f t) :
    AddOk m f t v /\ AddOk (addM m f t v).2 t f (-v) /\ Two m (addM (addM m f t v).2 t f (-v)).2 f t v := by
  have hnb := hNB
  obtain ⟨a1, -, a3⟩ := h.add (f := f) (t := t) (w := v) (by omega) (by omega) (by omega) hw
  simp only [Int.toNat_natCast] at a1 a3
  have ok1 : (addM m f t v).1 = true := a3.mpr (by omega)
  obtain ⟨c1, s1⟩ := a1 ok1
  have r1 := h.rel (f := f) (t := t) (w := v) (by omega) (by omega) (by omega) (by omega) ok1
  refine ⟨h.addOk (by omega) (by omega) (by omega) (by omega), c1.addOk (by omega) (by omega) (by omega) (by omega), ?_⟩
  generalize (addM m f t v).2 = m1 at c1 s1 r1
  have dF := h.diag f hf
  have dT := h.diag t ht
  have ok2 : (addM m1 t f (-v)).1 = true := by
    apply Classical.byContradiction
    intro hn
    obtain ⟨b1, b2⟩ := c1.bad (f := t) (t := f) (by omega) (by omega) (by omega) hn
    rcases r1.one f t hf ht with e | ⟨-, -, e⟩ <;> omega
  have r2 := c1.rel (f := t) (t := f) (w := -v) (by omega) (by omega) (by omega) (by omega) ok2
  have p2 := c1.ok_pos (f := t) (t := f) (w := -v) (by omega) (by omega) (by omega) (by omega) ok2
  generalize (addM m1 t f (-v)).2 = m2 at r2
  have c2 := c1.step (by omega) (by omega) (by omega) (by omega) r2 p2
  refine ⟨⟨c2.n24, c2.diag, c2.tri, fun i j hi hj => ?_⟩, fun x => ?_⟩
  . have b0 := h.bd i j hi hj
    have b1 := h.bd i f hi hf
    have b2 := h.bd i t hi ht
    have b3 := h.bd f j hf hj
    have b4 := h.bd t j ht hj
    rcases r2.one i j hi hj with e | ⟨q1, q2, e⟩
    . rcases r1.one i j hi hj with e' | ⟨q1, q2, e'⟩ <;> omega
    . rcases r1.one i t hi ht with e1 | ⟨q3, q4, e1⟩ <;> rcases r1.one f j hf hj with e2 | ⟨q5, q6, e2⟩ <;> omega
  . rw [r2.sol c1 (by omega) (by omega) (by omega) (by omega), s1]
    constructor
    . rintro ⟨⟨q1, q2⟩, q3⟩; exact ⟨q1, by omega⟩
    . rintro ⟨q1, q2⟩; exact ⟨⟨q1, by omega⟩, by omega⟩
theorem ptM_spec {b : Bd} {f t : Nat} {v : Int} (hv : validBM b = true) (hf : (f : Int) < b.n) (ht : (t : Int) < b.n)
    (hr : max (-bm b t f) (-36028797018963968) <= v /\ v <= min (bm b f t) 36028797018963968) :
    (¬ f = t -> AddOk (ofM b) f t v /\ AddOk (addM (ofM b) f t v).2 t f (-v)) /\ Two (ofM b) (ptM b f t v) f t v := by
  have vb := validBM_iff.mp hv
  have hn := vb.n
  have cl := vb.cl
  have r1 := of_at vb (i := t) (j := f) (by omega) (by omega)
  have r2 := of_at vb (i := f) (j := t) (by omega) (by omega)
  rw [if_pos (by omega)] at r1 r2
  obtain ⟨w1, w2, w3⟩ := cl.two (f := f) (t := t) (v := v) (by omega) (by omega) (by omega) (by omega) (by omega)
  refine ⟨fun _ => ⟨w1, w2⟩, ?_⟩
  unfold ptM
  by_cases e : f = t
  . subst e
    rw [if_pos rfl]
    have d := cl.diag f (by omega)
    refine ⟨cl.mono (by omega), fun x => ?_⟩
    constructor
    . intro hx; exact ⟨hx, by omega⟩
    . exact fun hx => hx.1
  . rw [if_neg (by omega)]; exact w3
end Go.Lat
namespace Go.Lat
theorem tmod_wrap {a n : Int} (ha : 0 <= a) (h2 : a < 2 * n) : a.tmod n = if a < n then a else a - n := by
  split
  . rename_i h; exact Int.tmod_eq_of_lt ha h
  . rename_i h
    have h1 : a.tmod n = a % n := Int.tmod_eq_emod_of_nonneg ha
    rw [h1, show a = (a - n) + n by omega, Int.add_emod_right, Int.emod_eq_of_lt (by omega) (by omega)]
    omega
theorem two_pow_lt {q : Nat} (h : q < 6) : (0 : Int) <= 2 ^ q /\ (2 : Int) ^ q <= 32 := by
  match q, h with
  | 0, _ => decide
  | 1, _ => decide
  | 2, _ => decide
  | 3, _ => decide
  | 4, _ => decide
  | 5, _ => decide
theorem made_poss {n : Int} {x : List A3} : ∀ c ∈ madeM n x, (possM n c = true) /\ -6 <= c.m /\ c.m <= 13 := by
  intro c hc
  unfold madeM at hc
  split at hc
  . rename_i h1
    rw [List.mem_map] at hc
    obtain ⟨y, -, rfl⟩ := hc
    have p1 := zXt (c := y.x0) (n := n) (by omega)
    have p2 := zXt (c := y.x1) (n := n - 1) (by omega)
    have p3 := zXt (c := y.x2) (n := 20) (by omega)
    have p4 := zXt (c := y.x1.tdiv 30) (n := 6) (by omega)
    have p5 := two_pow_lt (q := (pickM (y.x1.tdiv 30) 6).toNat) (by omega)
    have p6 := tmod_wrap (a := pickM y.x0 n + 1 + pickM y.x1 (n - 1)) (n := n) (by omega) (by omega)
    refine ⟨possM_iff.mpr ⟨p1.1, p1.2, ?_⟩, by dsimp only; omega, by dsimp only; omega⟩
    dsimp only
    rw [p6]
    split <;> omega
  . cases hc
theorem close_cases {n : Int} {l : List Con} (h : validM n l = true) : (∃ m, CM m l /\ zWy n l = (zYs m n, [], 0)) \/ ((∀ x, ¬ SolL l x) /\ zWy n l = (⟨0, []⟩, firstM n l, 70)) := by
  obtain ⟨h1, h2⟩ := close_spec (validM_good h)
  rcases e : addAll freeM l with _ | m
  . exact .inr ⟨h2 e, close_none h e⟩
  . exact .inl ⟨m, h1 m e, close_some h e⟩
theorem CM.sol_ex {m : Vector Int 576} {l : List Con} (h : CM m l) : ∃ x, SolL l x := by
  have := hB0
  obtain ⟨-, -, s⟩ := h.cl.pt (f := 0) (by omega) (by omega)
  exact ⟨_, (h.sol _).mp s⟩
theorem CM.le {m : Vector Int 576} {l : List Con} (h : CM m l) (hg : Good 24 l) {c : Con} (hc : c ∈ l) : mm m c.f.toNat c.t.toNat <= c.m := by
  have := hB0
  have hnb := hNB
  obtain ⟨c1, c2, c3⟩ := hg c hc
  obtain ⟨p1, p2, s⟩ := h.cl.pt (f := c.f.toNat) (by omega) (by omega)
  have s := (h.sol _).mp s c hc
  have d := h.cl.diag c.f.toNat (by omega)
  rw [p1 c.f.toNat (by omega) (by omega), d] at s
  by_cases e : mm m c.f.toNat c.t.toNat = NB
  . have := p2 c.t.toNat (by omega) e
    omega
  . rw [p1 _ (by omega) e] at s; omega
theorem CM.congr {m m' : Vector Int 576} {l l' : List Con} (h : CM m l) (h' : CM m' l') (hs : ∀ x, SolL l x ↔ SolL l' x) {i j : Nat} (hi : i < 24) (hj : j < 24) : mm m i j = mm m' i j := by
  have := hB0
  exact h.cl.eq_of_sol h'.cl (by omega) (fun x => by rw [h.sol, h'.sol, hs]) hi hj
theorem CM.vb {m : Vector Int 576} {l : List Con} (h : CM m l) {n : Int} (hn : 1 <= n /\ n <= 24) : VB (zYs m n) := h.cl.vb (by have := hB0; omega) hn
theorem take_succ_lat {α : Type} [Inhabited α] {l : List α} {i : Nat} (h : i < l.length) : l.take (i + 1) = l.take i ++ [lat l (i : Int)] := by
  rw [lat_get h, List.take_add_one, List.getElem?_eq_getElem h]; rfl
theorem bounds_most_len {m : Vector Int 576} {n : Int} (hn : n <= 24) : (zYs m n).most.length <= 1073741824 /\ ∀ r ∈ (zYs m n).most, r.length <= 1073741824 := by
  refine ⟨by rw [bounds_len]; omega, fun r hr => ?_⟩
  obtain ⟨i, hi, rfl⟩ := List.getElem_of_mem hr
  have hi' := hi
  rw [bounds_len] at hi
  have h2 := bounds_row (m := m) hn hi
  have h3 : (zYs m n).most[i] = (zYs m n).most.getD i [] := by simp [hi']
  rw [h3, h2]; omega
end Go.Lat
namespace Go.Lat
theorem close_ok {n : Int} {l : List Con} (h : (zWy n l).2.2 = 0) : validM n l = true /\ ∃ m, CM m l /\ zWy n l = (zYs m n, [], 0) := by
  by_cases hv : validM n l = true
  . refine ⟨hv, ?_⟩
    rcases close_cases hv with h1 | ⟨-, e⟩
    . exact h1
    . rw [e] at h; cases h
  . rw [close_inv hv] at h; cases h
theorem CM.range {m : Vector Int 576} {l : List Con} (h : CM m l) {n : Int} (hn : 1 <= n /\ n <= 24) {f t : Nat} (hf : (f : Int) < n) (ht : (t : Int) < n) : zWz (zYs m n) f t = (-mm m t f, mm m f t, 0) := by
  rw [range_pos (validBM_iff.mpr (h.vb hn)) hf ht, bm_bounds (by omega) (by omega), bm_bounds (by omega) (by omega)]
theorem CM.low_high {m : Vector Int 576} {l : List Con} (h : CM m l) {f t : Nat} (hf : f < 24) (ht : t < 24) : -mm m t f <= mm m f t := by
  have hnb := hNB
  have hb := hB0
  have b1 := h.cl.bd t f ht hf
  have b2 := h.cl.bd f t hf ht
  by_cases e1 : mm m t f = NB
  . omega
  . by_cases e2 : mm m f t = NB
    . omega
    . have := h.cl.tri f t f hf ht hf e2 e1
      have := h.cl.diag f hf
      omega
structure PtSpec (m : Vector Int 576) (l : List Con) (n : Nat) (f t : Nat) (w : Int) (a : List Int) : Prop where
  len : a.length = n
  f : lat a f = 0
  t : lat a t = w
  bd : ∀ v ∈ a, -1152921504606846976 <= v /\ v <= 1152921504606846976
  sol : ∀ c ∈ l, lat a c.t - lat a c.f <= c.m
theorem PtSpec.holds {m : Vector Int 576} {l : List Con} {n : Int} {f t : Nat} {w : Int} {a : List Int} (h : PtSpec m l n.toNat f t w a) (hv : validM n l = true) (hn : 1 <= n) : holdsM l a = true :=
  holdsM_iff.mpr ⟨⟨by rw [h.len, show ((n.toNat : Nat) : Int) = n by omega]; exact hv, h.bd⟩, h.sol⟩
end Go.Lat
namespace Go.Lat
def renC (n k : Int) (c : Con) : Con := ⟨(c.f + k).tmod n, (c.t + k).tmod n, c.m, c.a⟩
def sg (n k i : Nat) : Nat := if i + k < n then i + k else i + k - n
section
variable {n k : Nat}
def sgi (n k j : Nat) : Nat := if k <= j then j - k else j + n - k
def Rl (n k : Nat) (d d' : Vector Int 24) : Prop := ∀ e, e < n -> vat d' (sg n k e) = vat d e
end
end Go.Lat
namespace Go.Lat
open Go.RowKit
theorem fin64 {x : Int} (h : 0 <= x /\ x < 64) : ∃ n : Fin 64, x = ((n.1 : Nat) : Int) := ⟨⟨x.toNat, by omega⟩, by simp only; omega⟩
theorem wrapU {x : Int} (h : 0 <= x /\ x < 64) : IntKind.u64.wrap x = x := by
  obtain ⟨n, rfl⟩ := fin64 h
  clear h; revert n; decide +kernel
theorem bitOf {x : Int} (h : 0 <= x /\ x < 64) {i : Nat} (hi : i < 6) : (x.fdiv (2 ^ (min ((i : Nat) : Int).toNat 64))).tmod (2 : Int) = x / 2 ^ i % 2 := by
  obtain ⟨n, rfl⟩ := fin64 h
  clear h
  have : ∀ (n : Fin 64) (i : Fin 6), (((n.1 : Nat) : Int).fdiv (2 ^ (min ((i.1 : Nat) : Int).toNat 64))).tmod (2 : Int) = ((n.1 : Nat) : Int) / 2 ^ i.1 % 2 := by decide +kernel
  exact this n ⟨i, hi⟩
theorem bit01 (x : Int) (i : Nat) : 0 <= x / 2 ^ i % 2 /\ x / 2 ^ i % 2 < 2 := by omega
end Go.Lat
namespace Go.Lat
open Go.RowKit
theorem allM_iff {l : List Int} {lo hi most : Int} : allM l lo hi most = true ↔ (∀ y ∈ l, 0 <= y /\ y <= most) /\ lo <= (l.length : Int) /\ (l.length : Int) <= hi := by
  unfold allM
  simp only [Bool.and_eq_true, List.all_eq_true, decide_eq_true_eq]
structure FOk (f : Flt) : Prop where
  len : 1 <= f.dr.length /\ f.dr.length <= 6
  li : 0 <= f.li /\ f.li <= 2
  lt : f.li < (f.dr.length : Int)
theorem cvalid_ok {f : Flt} (h : cvalidM f = true) : FOk f := by
  unfold cvalidM at h
  simp only [Bool.and_eq_true, decide_eq_true_eq, allM_iff] at h
  obtain ⟨⟨⟨⟨⟨⟨_, h1⟩, _⟩, h3⟩, h4⟩, _⟩, _⟩ := h
  exact ⟨by omega, h3, h4⟩
theorem valid_nil {n : Int} : validM n [] = true ↔ 1 <= n /\ n <= 24 := by
  rw [validM_iff]
  exact ⟨fun h => ⟨h.1.1, h.1.2.1⟩, fun h => ⟨⟨h.1, h.2, by simp⟩, fun c hc => by cases hc⟩⟩
theorem close_nil {n : Int} : (zWy n []).2.2 = 0 ↔ 1 <= n /\ n <= 24 := by
  rw [<- valid_nil]
  constructor
  . exact fun h => (close_ok h).1
  . intro h
    rcases close_cases h with ⟨m, _, e⟩ | ⟨h2, _⟩
    . rw [e]
    . exact absurd (fun c hc => by cases hc) (h2 fun _ => 0)
structure BOk (f : Flt) (n : Int) (l : List Con) : Prop where
  fo : FOk f
  no : 1 <= n /\ n <= 24
  len : l.length <= 2000
  con : ∀ c ∈ l, conOk f n c = true
theorem bvalid_iff {f : Flt} {n : Int} {l : List Con} : zX f n l = true ↔ cvalidM f = true /\ (1 <= n /\ n <= 24) /\ l.length <= 2000 /\ ∀ c ∈ l, conOk f n c = true := by
  unfold zX
  simp only [Bool.and_eq_true, decide_eq_true_eq, List.all_eq_true, close_nil, and_assoc]
theorem bvalid_ok {f : Flt} {n : Int} {l : List Con} (h : zX f n l = true) : BOk f n l := by
  obtain ⟨h1, h2, h3, h4⟩ := bvalid_iff.1 h
  exact ⟨cvalid_ok h1, h2, h3, h4⟩
theorem pow_le64 {k : Nat} (h : k <= 6) : 2 ^ k <= 64 := by
  have := Nat.pow_le_pow_right (n := 2) (by omega) h
  omega
theorem BOk.poss {f : Flt} {n : Int} {l : List Con} (h : BOk f n l) : PossOk f l := ⟨h.fo.len.2, by have := h.len; omega, h.fo.li⟩
theorem partM_len {l : List Con} {s : Int} : (partM l s).length <= l.length := by unfold partM; exact List.length_filter_le _ _
theorem partM_mem {l : List Con} {s : Int} {c : Con} : c ∈ partM l s ↔ c ∈ l /\ inSet c s = true := by unfold partM; simp [List.mem_filter]
theorem choices_mem {f : Flt} {n : Int} {l : List Con} {c : Cho} : c ∈ zYw f n l ↔ ∃ s : Nat, s < 2 ^ f.dr.length /\ pcM s = (f.dr.length : Int) - f.li /\ (zWy n (partM l s)).2.2 = 0 /\ c = ⟨(zWy n (partM l s)).1, s⟩ := by
  unfold zYw
  simp only [List.mem_filterMap, List.mem_range, choice1]
  constructor
  . rintro ⟨s, h1, h2⟩
    split at h2
    . rename_i h3
      cases h2
      exact ⟨s, h1, h3.1, h3.2, rfl⟩
    . cases h2
  . rintro ⟨s, h1, h2, h3, rfl⟩
    exact ⟨s, h1, by rw [if_pos ⟨h2, h3⟩]⟩
structure ChOk (f : Flt) (n : Int) (l : List Con) (c : Cho) (s : Nat) (m : Vector Int 576) : Prop where
  lt : s < 2 ^ f.dr.length
  pc : pcM s = (f.dr.length : Int) - f.li
  valid : validM n (partM l s) = true
  cm : CM m (partM l s)
  b : c.b = zYs m n
  s : c.s = s
theorem choices_ok {f : Flt} {n : Int} {l : List Con} {c : Cho} (h : c ∈ zYw f n l) : ∃ s m, ChOk f n l c s m := by
  obtain ⟨s, h1, h2, h3, rfl⟩ := choices_mem.1 h
  obtain ⟨hv, m, hc, e⟩ := close_ok h3
  exact ⟨s, m, h1, h2, hv, hc, by rw [e], rfl⟩
theorem ChOk.n {f : Flt} {n : Int} {l : List Con} {c : Cho} {s : Nat} {m : Vector Int 576} (h : ChOk f n l c s m) : 1 <= n /\ n <= 24 := by
  have := (validM_iff.1 h.valid).1
  exact ⟨this.1, this.2.1⟩
def prefC (f : Flt) (n : Int) (l : List Con) (s : Nat) : List Cho := (List.range s).filterMap fun (k : Nat) => choice1 f n l (k : Int)
theorem pref_step {f : Flt} {n : Int} {l : List Con} {s : Nat} {c : Cho} (hs : s < 2 ^ f.dr.length) (hc : choice1 f n l (s : Int) = some c) : (zYw f n l)[(prefC f n l s).length]? = some c := by
  obtain ⟨b, hb⟩ : ∃ b, 2 ^ f.dr.length = s + (b + 1) := ⟨2 ^ f.dr.length - s - 1, by omega⟩
  unfold zYw
  rw [hb, List.range_add, List.filterMap_append, List.range_succ_eq_map, List.map_cons, List.filterMap_cons]
  simp only [Nat.add_zero, hc]
  rw [List.getElem?_append_right (by unfold prefC; exact Nat.le_refl _)]
  simp [prefC]
theorem pref_succ {f : Flt} {n : Int} {l : List Con} {s : Nat} : prefC f n l (s + 1) = prefC f n l s ++ (choice1 f n l (s : Int)).toList := by
  unfold prefC
  rw [List.range_succ, List.filterMap_append]
  rcases h : choice1 f n l (s : Int) with _ | c <;> simp [h]
theorem pow_eq {k : Nat} (h : k <= 6) : (1 : Int) * 2 ^ (min ((k : Nat) : Int).toNat 64) = ((2 ^ k : Nat) : Int) := by
  rw [Int.toNat_natCast, Nat.min_eq_left (by omega), Int.one_mul]
  simp
theorem take_succ_nat {α : Type} {l : List α} {i : Nat} {c : α} (h : l[i]? = some c) : l.take (i + 1) = l.take i ++ [c] := by
  rw [List.take_add_one, h]; rfl
theorem bm_lat {b : Bd} {i j : Int} : lat (lat b.most i) j = bm b i.toNat j.toNat := rfl
theorem tdiv_parts (n k : Int) (h : 0 < k) : n = k * n.tdiv k + n.tmod k /\ n.tmod k < k /\ -k < n.tmod k := ⟨(Int.mul_tdiv_add_tmod _ _).symm, Int.tmod_lt_of_pos n h, Int.lt_tmod_of_pos n h⟩
theorem inI_tdiv30 {n : Int} (h : inI n) : inI (n.tdiv 30) := by have := tdiv_parts n 30 (by omega); unfold inI at *; omega
theorem inI_tdiv200 {n : Int} (h : inI n) : inI (n.tdiv 200) := by have := tdiv_parts n 200 (by omega); unfold inI at *; omega
theorem inI_tdiv5 {n : Int} (h : inI n) : inI (n.tdiv 5) := by have := tdiv_parts n 5 (by omega); unfold inI at *; omega
theorem inI_tdiv7 {n : Int} (h : inI n) : -2000000000000000000 <= n.tdiv 7 /\ n.tdiv 7 <= 2000000000000000000 := by have := tdiv_parts n 7 (by omega); unfold inI at *; omega
theorem lat_set_self {α : Type} [Inhabited α] {l : List α} {i : Nat} {x : α} (h : i < l.length) : lat (l.set i x) (i : Int) = x := by
  rw [lat_get (by simpa using h)]; simp
theorem map_range_succ {α : Type} {g : Nat -> α} {i : Nat} : (List.range (i + 1)).map g = (List.range i).map g ++ [g i] := by rw [List.range_succ, List.map_append]; rfl
structure FleetOk (f : Flt) : Prop where
  ok : FOk f
  five : f.dr.length <= 5
  cv : cvalidM f = true
  sv : f.sv = [0]
  tm : f.tm = [0]
theorem fleet_ok (n : Int) : FleetOk (zYt n) := by
  have h5 := zXt (c := n) (n := 5) (by omega)
  have hla := zXt (c := n.tdiv 30) (n := 5) (by omega)
  have hli := zXt (c := n.tdiv 5) (n := 3) (by omega)
  have hlen : (zYt n).dr.length = (pickM n 5).toNat + 1 := by unfold zYt; simp
  have hl : (zYt n).li = min (pickM (n.tdiv 5) 3) (((zYt n).dr.length : Int) - 1) := rfl
  have hla' : (zYt n).la = pickM (n.tdiv 30) 5 := rfl
  have hdr : ∀ y ∈ (zYt n).dr, 0 <= y /\ y <= 1000 := by
    intro y hy
    unfold zYt at hy
    simp only [List.mem_map, List.mem_range] at hy
    obtain ⟨a, _, rfl⟩ := hy
    have := zXt (c := n.tdiv 7 + a) (n := 40) (by omega)
    omega
  refine ⟨⟨by omega, by omega, by omega⟩, by omega, ?_, rfl, rfl⟩
  unfold cvalidM
  simp only [Bool.and_eq_true, decide_eq_true_eq, allM_iff]
  refine ⟨⟨⟨⟨⟨⟨hdr, by omega, by omega⟩, by omega⟩, by omega⟩, by omega⟩, ?_⟩, ?_⟩
  . exact ⟨fun y hy => by have : y = 0 := by simpa [zYt] using hy
                          omega, by simp [zYt], by simp [zYt]⟩
  . exact ⟨fun y hy => by have : y = 0 := by simpa [zYt] using hy
                          simp [zYt, this], by simp [zYt], by simp [zYt]⟩
end Go.Lat
namespace Go.Lat
open Go.RowKit
def bt (x a : Nat) : Bool := x / 2 ^ a % 2 == 1
def sub (x y : Nat) : Bool := (List.range 6).all fun a => !bt x a || bt y a
def pcN (x : Nat) : Nat := ((List.range 6).map fun a => x / 2 ^ a % 2).sum
theorem sub_iff {x y : Nat} : sub x y = true ↔ ∀ a, a < 6 -> bt x a = true -> bt y a = true := by
  unfold sub
  simp only [List.all_eq_true, List.mem_range, Bool.or_eq_true, Bool.not_eq_true']
  constructor
  . intro h a ha hx
    rcases h a ha with h1 | h1
    . rw [hx] at h1; cases h1
    . exact h1
  . intro h a ha
    cases hx : bt x a
    . exact .inl rfl
    . exact .inr (h a ha hx)
theorem sub_trans {x y z : Nat} (h : sub x y = true) (k : sub y z = true) : sub x z = true := sub_iff.2 fun a ha hx => sub_iff.1 k a ha (sub_iff.1 h a ha hx)
theorem pc_nat (s : Fin 64) : pcM ((s.1 : Nat) : Int) = (pcN s.1 : Nat) := by revert s; decide +kernel
theorem pcM_nat {s : Nat} (h : s < 64) : pcM (s : Int) = (pcN s : Nat) := pc_nat ⟨s, h⟩
theorem anN_sub' : ∀ x y : Fin 64, decide (bitI .andNot .i64 ((x.1 : Nat) : Int) ((y.1 : Nat) : Int) = 0) = sub x.1 y.1 := by decide +kernel
theorem anN_sub {x y : Nat} (hx : x < 64) (hy : y < 64) : bitI .andNot .i64 (x : Int) (y : Int) = 0 ↔ sub x y = true := by
  have := anN_sub' ⟨x, hx⟩ ⟨y, hy⟩
  rw [<- this, decide_eq_true_eq]
theorem and_sub' : ∀ x y : Fin 64, decide (bitI .and .i64 ((x.1 : Nat) : Int) ((y.1 : Nat) : Int) = x.1) = sub x.1 y.1 := by decide +kernel
theorem and_sub {x y : Nat} (hx : x < 64) (hy : y < 64) : bitI .and .i64 (x : Int) (y : Int) = x ↔ sub x y = true := by
  have := and_sub' ⟨x, hx⟩ ⟨y, hy⟩
  rw [<- this, decide_eq_true_eq]
theorem and_zero' : ∀ x y : Fin 64, decide (bitI .and .i64 ((x.1 : Nat) : Int) ((y.1 : Nat) : Int) = 0) = (List.range 6).all fun a => !(bt x.1 a && bt y.1 a) := by decide +kernel
theorem and_zero {x y : Nat} (hx : x < 64) (hy : y < 64) : bitI .and .i64 (x : Int) (y : Int) = 0 ↔ ∀ a, a < 6 -> ¬ (bt x a = true /\ bt y a = true) := by
  have := and_zero' ⟨x, hx⟩ ⟨y, hy⟩
  rw [<- decide_eq_true_eq (p := bitI .and .i64 (x : Int) (y : Int) = 0), this]
  simp only [List.all_eq_true, List.mem_range, Bool.not_eq_true', Bool.and_eq_false_iff]
  constructor
  . rintro h a ha ⟨h1, h2⟩
    rcases h a ha with h3 | h3
    . rw [h1] at h3; cases h3
    . rw [h2] at h3; cases h3
  . intro h a ha
    cases h1 : bt x a
    . exact .inl rfl
    . cases h2 : bt y a
      . exact .inr rfl
      . exact absurd ⟨h1, h2⟩ (h a ha)
theorem anN_bits' : ∀ x y : Fin 64, (decide (0 <= bitI .andNot .i64 ((x.1 : Nat) : Int) ((y.1 : Nat) : Int)) && decide ((bitI .andNot .i64 ((x.1 : Nat) : Int) ((y.1 : Nat) : Int)).toNat <= x.1) && (List.range 6).all fun a => bt (bitI .andNot .i64 ((x.1 : Nat) : Int) ((y.1 : Nat) : Int)).toNat a == (bt x.1 a && !bt y.1 a)) = true := by decide +kernel
theorem anN_bits {x y : Nat} (hx : x < 64) (hy : y < 64) : ∃ z : Nat, bitI .andNot .i64 (x : Int) (y : Int) = z /\ z <= x /\ ∀ a, a < 6 -> (bt z a = true ↔ bt x a = true /\ ¬ bt y a = true) := by
  have := anN_bits' ⟨x, hx⟩ ⟨y, hy⟩
  simp only [Bool.and_eq_true, decide_eq_true_eq, List.all_eq_true, List.mem_range, beq_iff_eq] at this
  obtain ⟨⟨h1, h2⟩, h3⟩ := this
  refine ⟨(bitI .andNot .i64 (x : Int) (y : Int)).toNat, by omega, h2, fun a ha => ?_⟩
  rw [h3 a ha]
  simp
theorem sub_le' : ∀ x y : Fin 64, (!sub x.1 y.1 || decide (x.1 <= y.1)) = true := by decide +kernel
theorem sub_le {x y : Nat} (hx : x < 64) (hy : y < 64) (h : sub x y = true) : x <= y := by
  have := sub_le' ⟨x, hx⟩ ⟨y, hy⟩
  simp only [Bool.or_eq_true, Bool.not_eq_true', decide_eq_true_eq, h] at this
  rcases this with h1 | h1
  . cases h1
  . exact h1
def pick1 (y k a : Nat) : Bool := (List.range 64).any fun x => sub x y && (pcN x == k) && bt x a
theorem pick1_all : ((List.range 32).all fun y => (List.range 6).all fun k => (List.range 6).all fun a => !(bt y a && decide (1 <= k /\ k <= pcN y)) || pick1 y k a) = true := by decide +kernel
theorem pick_sub {y k a : Nat} (hy : y < 32) (ha : a < 6) (hb : bt y a = true) (hk : 1 <= k) (hk2 : k <= pcN y) : ∃ x, x <= y /\ sub x y = true /\ pcN x = k /\ bt x a = true := by
  have h5 : pcN y <= 5 := by
    have : ((List.range 32).all fun y => decide (pcN y <= 5)) = true := by decide +kernel
    simp only [List.all_eq_true, List.mem_range, decide_eq_true_eq] at this
    exact this y hy
  have h := pick1_all
  simp only [List.all_eq_true, List.mem_range] at h
  have h := h y hy k (by omega) a ha
  simp only [hb, Bool.true_and, Bool.or_eq_true, Bool.not_eq_true', decide_eq_false_iff_not] at h
  rcases h with h | h
  . exact absurd ⟨hk, hk2⟩ h
  . unfold pick1 at h
    simp only [List.any_eq_true, List.mem_range, Bool.and_eq_true, beq_iff_eq] at h
    obtain ⟨x, hx, ⟨h1, h2⟩, h3⟩ := h
    exact ⟨x, sub_le hx (by omega) h1, h1, h2, h3⟩
theorem pc_pos {y : Nat} (hy : y < 64) (h : 1 <= pcN y) : ∃ a, a < 6 /\ bt y a = true := by
  have : ((List.range 64).all fun y => !decide (1 <= pcN y) || (List.range 6).any fun a => bt y a) = true := by decide +kernel
  simp only [List.all_eq_true, List.mem_range, Bool.or_eq_true, Bool.not_eq_true', decide_eq_false_iff_not, List.any_eq_true] at this
  rcases this y hy with h1 | ⟨a, h1, h2⟩
  . exact absurd h h1
  . exact ⟨a, h1, h2⟩
theorem full_bits {k : Nat} (hk : k <= 6) {a : Nat} (ha : a < 6) : bt (2 ^ k - 1) a = true ↔ a < k := by
  have : ((List.range 7).all fun k => (List.range 6).all fun a => bt (2 ^ k - 1) a == decide (a < k)) = true := by decide +kernel
  simp only [List.all_eq_true, List.mem_range, beq_iff_eq] at this
  rw [this k (by omega) a ha, decide_eq_true_eq]
theorem pc_full {k x : Nat} (hk : k <= 6) (hx : x < 2 ^ k) : pcN x = k ↔ x = 2 ^ k - 1 := by
  have h64 := pow_le64 hk
  have : ((List.range 64).all fun x => (List.range 7).all fun k => !decide (x < 2 ^ k) || (decide (pcN x = k) == decide (x = 2 ^ k - 1))) = true := by decide +kernel
  simp only [List.all_eq_true, List.mem_range, Bool.or_eq_true, Bool.not_eq_true', decide_eq_false_iff_not, beq_iff_eq] at this
  rcases this x (by omega) k (by omega) with h | h
  . exact absurd hx h
  . exact decide_eq_decide.1 h
end Go.Lat
namespace Go.Lat
open Go.RowKit
structure Bel (f : Flt) (n : Int) (l : List Con) (tr : List Int) (ho : Nat) : Prop where
  fo : FOk f
  cv : cvalidM f = true
  five : f.dr.length <= 5
  no : 1 <= n /\ n <= 24
  len : l.length <= 2000
  con : ∀ c ∈ l, (0 <= c.f /\ c.f < n) /\ (0 <= c.t /\ c.t < n) /\ ¬ c.f = c.t /\ (-1125899906842624 <= c.m /\ c.m <= 1125899906842624) /\ ∃ a : Nat, c.a = a /\ a < 2 ^ f.dr.length
  hl : ho < 2 ^ f.dr.length
  hp : (f.dr.length : Int) - f.li <= pcN ho
  tl : tr.length = n.toNat
  tb : ∀ v ∈ tr, 0 <= v /\ v <= 1000
  hs : ∀ c ∈ l, inSet c ho = true -> lat tr c.t - lat tr c.f <= c.m
theorem pow_le32 {k : Nat} (h : k <= 5) : 2 ^ k <= 32 := by
  have := Nat.pow_le_pow_right (n := 2) (by omega) h
  omega
theorem pow_fdiv {a k : Nat} (hk : k <= 6) (h : a < 2 ^ k) : ((a : Nat) : Int).fdiv (2 ^ (min k 64)) = 0 := by
  have h64 := pow_le64 hk
  have : ((List.range 64).all fun a => (List.range 7).all fun k => !decide (a < 2 ^ k) || decide (((a : Nat) : Int).fdiv (2 ^ (min k 64)) = 0)) = true := by decide +kernel
  simp only [List.all_eq_true, List.mem_range, Bool.or_eq_true, Bool.not_eq_true', decide_eq_true_eq, decide_eq_false_iff_not] at this
  rcases this a (by omega) k (by omega) with h1 | h1
  . exact absurd h h1
  . exact h1
section
variable {f : Flt} {n : Int} {l : List Con} {tr : List Int} {ho : Nat}
theorem Bel.bv (h : Bel f n l tr ho) : zX f n l = true := by
  refine bvalid_iff.2 ⟨h.cv, h.no, h.len, fun c hc => ?_⟩
  obtain ⟨k1, k2, k3, k4, a, k5, k6⟩ := h.con c hc
  unfold conOk
  rw [decide_eq_true_eq]
  exact ⟨by omega, by omega, k3, k4.1, k4.2, by omega, by rw [k5]; exact pow_fdiv (by have := h.five; omega) k6⟩
theorem Bel.poss (h : Bel f n l tr ho) {c : Con} (hc : c ∈ l) : possM n c = true := by
  obtain ⟨k1, k2, k3, k4, a, k5, k6⟩ := h.con c hc
  have := pow_le32 h.five
  exact possM_iff.2 ⟨k1.1, k1.2, k2.1, k2.2, k3, k4.1, k4.2, by omega, by omega⟩
theorem Bel.valid (h : Bel f n l tr ho) (s : Int) : validM n (partM l s) = true :=
  validM_iff.2 ⟨⟨h.no.1, h.no.2, Nat.le_trans partM_len h.len⟩, fun _ hc => h.poss (partM_mem.1 hc).1⟩
theorem Bel.in_iff (h : Bel f n l tr ho) {c : Con} (hc : c ∈ l) : ∃ a : Nat, a < 2 ^ f.dr.length /\ ∀ s : Nat, s < 64 -> (inSet c s = true ↔ sub a s = true) := by
  obtain ⟨_, _, _, _, a, k5, k6⟩ := h.con c hc
  have := pow_le32 h.five
  refine ⟨a, k6, fun s hs => ?_⟩
  unfold inSet
  rw [decide_eq_true_eq, k5, anN_sub (by omega) hs]
theorem Bel.part_sub (h : Bel f n l tr ho) {x y : Nat} (hx : x < 64) (hy : y < 64) (hs : sub x y = true) {d : Con} (hc : d ∈ partM l x) : d ∈ partM l y := by
  obtain ⟨h1, h2⟩ := partM_mem.1 hc
  obtain ⟨a, _, hi⟩ := h.in_iff h1
  exact partM_mem.2 ⟨h1, (hi y hy).2 (sub_trans ((hi x hx).1 h2) hs)⟩
theorem Bel.sol_sub (h : Bel f n l tr ho) {x y : Nat} (hx : x < 64) (hy : y < 64) (hs : sub x y = true) {z : Nat -> Int} (hz : SolL (partM l y) z) : SolL (partM l x) z := fun c hc => hz c (h.part_sub hx hy hs hc)
theorem close_of_sol {l : List Con} (hv : validM n l = true) {z : Nat -> Int} (hz : SolL l z) : (zWy n l).2.2 = 0 := by
  rcases close_cases hv with ⟨m, _, e⟩ | ⟨h2, _⟩
  . rw [e]
  . exact absurd hz (h2 z)
theorem sol_of_close {l : List Con} (h : (zWy n l).2.2 = 0) : ∃ z, SolL l z := by
  obtain ⟨_, m, hc, _⟩ := close_ok h
  exact hc.sol_ex
theorem Bel.close_sub (h : Bel f n l tr ho) {x y : Nat} (hx : x < 64) (hy : y < 64) (hs : sub x y = true) (hc : (zWy n (partM l y)).2.2 = 0) : (zWy n (partM l x)).2.2 = 0 := by
  obtain ⟨z, hz⟩ := sol_of_close hc
  exact close_of_sol (h.valid x) (h.sol_sub hx hy hs hz)
theorem Bel.truth (h : Bel f n l tr ho) : SolL (partM l ho) (fun i => tr.getD i 0) := fun c hc => by
  obtain ⟨h1, h2⟩ := partM_mem.1 hc
  exact h.hs c h1 h2
def kk (f : Flt) : Nat := ((f.dr.length : Int) - f.li).toNat
theorem kk_eq (h : FOk f) : ((kk f : Nat) : Int) = (f.dr.length : Int) - f.li /\ 1 <= kk f /\ kk f <= f.dr.length := by
  have := h.lt; have := h.li; unfold kk; omega
theorem Bel.choice (h : Bel f n l tr ho) {s : Nat} (hs : s < 2 ^ f.dr.length) (hp : pcN s = kk f) (hc : (zWy n (partM l s)).2.2 = 0) : (⟨(zWy n (partM l s)).1, s⟩ : Cho) ∈ zYw f n l := by
  have := pow_le32 h.five
  exact choices_mem.2 ⟨s, hs, by rw [pcM_nat (by omega), hp, (kk_eq h.fo).1], hc, rfl⟩
theorem Bel.ch (h : Bel f n l tr ho) {c : Cho} (hc : c ∈ zYw f n l) : ∃ s m, ChOk f n l c s m /\ s < 32 /\ pcN s = kk f /\ (zWy n (partM l s)).2.2 = 0 := by
  obtain ⟨s, h1, h2, h3, e⟩ := choices_mem.1 hc
  obtain ⟨hv, m, hm, e2⟩ := close_ok h3
  have := pow_le32 h.five
  rw [pcM_nat (by omega)] at h2
  have := (kk_eq h.fo).1
  refine ⟨s, m, ⟨h1, by rw [pcM_nat (by omega)]; omega, hv, hm, by rw [e, e2], by rw [e]⟩, by omega, by omega, h3⟩
theorem Bel.sub_choice (h : Bel f n l tr ho) {y a : Nat} (hy : y < 2 ^ f.dr.length) (hp : kk f <= pcN y) (ha : a < 6) (hb : bt y a = true) (hc : (zWy n (partM l y)).2.2 = 0) :
    ∃ s, s < 2 ^ f.dr.length /\ sub s y = true /\ bt s a = true /\ (⟨(zWy n (partM l s)).1, s⟩ : Cho) ∈ zYw f n l := by
  have h32 := pow_le32 h.five
  obtain ⟨s, h1, h2, h3, h4⟩ := pick_sub (y := y) (k := kk f) (by omega) ha hb (kk_eq h.fo).2.1 hp
  exact ⟨s, by omega, h2, h4, h.choice (by omega) h3 (h.close_sub (by omega) (by omega) h2 hc)⟩
theorem Bel.hpN (h : Bel f n l tr ho) : kk f <= pcN ho := by have := h.hp; have := (kk_eq h.fo).1; omega
theorem Bel.honest_choice (h : Bel f n l tr ho) {a : Nat} (ha : a < 6) (hb : bt ho a = true) : ∃ s, s < 2 ^ f.dr.length /\ sub s ho = true /\ bt s a = true /\ (⟨(zWy n (partM l s)).1, s⟩ : Cho) ∈ zYw f n l :=
  h.sub_choice h.hl h.hpN ha hb (close_of_sol (h.valid ho) h.truth)
theorem Bel.ex (h : Bel f n l tr ho) : ∃ s, s < 2 ^ f.dr.length /\ sub s ho = true /\ (⟨(zWy n (partM l s)).1, s⟩ : Cho) ∈ zYw f n l := by
  have h32 := pow_le32 h.five
  have := h.hl
  obtain ⟨a, ha, hb⟩ := pc_pos (y := ho) (by omega) (Nat.le_trans (kk_eq h.fo).2.1 h.hpN)
  obtain ⟨s, h1, h2, _, h4⟩ := h.honest_choice ha hb
  exact ⟨s, h1, h2, h4⟩
theorem Bel.ne (h : Bel f n l tr ho) : ¬ zYw f n l = [] := fun e => by
  obtain ⟨s, _, _, hs⟩ := h.ex
  rw [e] at hs; cases hs
theorem ch_ok (hb : zX f n l = true) (hne : ¬ zYw f n l = []) : chM f n l = ((zYw f n l).map (·.s), 0) := by
  unfold chM; rw [if_pos hb, if_neg hne]
theorem lo_spec (a b : Int) : ∀ (cs : List Cho) (o : Int), (cs.foldl (fun o c => min o (-bm c.b b.toNat a.toNat)) o <= o) /\ (∀ c ∈ cs, cs.foldl (fun o c => min o (-bm c.b b.toNat a.toNat)) o <= -bm c.b b.toNat a.toNat) ∧
    (cs.foldl (fun o c => min o (-bm c.b b.toNat a.toNat)) o = o \/ ∃ c ∈ cs, cs.foldl (fun o c => min o (-bm c.b b.toNat a.toNat)) o = -bm c.b b.toNat a.toNat)
  | [], o => ⟨Int.le_refl _, fun c hc => (by cases hc), .inl rfl⟩
  | d :: cs, o => by
    obtain ⟨h1, h2, h3⟩ := lo_spec a b cs (min o (-bm d.b b.toNat a.toNat))
    simp only [List.foldl_cons]
    refine ⟨by omega, fun c hc => ?_, ?_⟩
    . rcases List.mem_cons.1 hc with rfl | hc
      . omega
      . exact h2 c hc
    . rcases h3 with h3 | ⟨c, hc, h3⟩
      . rcases Int.le_total o (-bm d.b b.toNat a.toNat) with h4 | h4
        . exact .inl (by omega)
        . exact .inr ⟨d, by simp, by omega⟩
      . exact .inr ⟨c, by simp [hc], h3⟩
theorem hi_spec (a b : Int) : ∀ (cs : List Cho) (o : Int), (o <= cs.foldl (fun o c => max o (bm c.b a.toNat b.toNat)) o) /\ (∀ c ∈ cs, bm c.b a.toNat b.toNat <= cs.foldl (fun o c => max o (bm c.b a.toNat b.toNat)) o) ∧
    (cs.foldl (fun o c => max o (bm c.b a.toNat b.toNat)) o = o \/ ∃ c ∈ cs, cs.foldl (fun o c => max o (bm c.b a.toNat b.toNat)) o = bm c.b a.toNat b.toNat)
  | [], o => ⟨Int.le_refl _, fun c hc => (by cases hc), .inl rfl⟩
  | d :: cs, o => by
    obtain ⟨h1, h2, h3⟩ := hi_spec a b cs (max o (bm d.b a.toNat b.toNat))
    simp only [List.foldl_cons]
    refine ⟨by omega, fun c hc => ?_, ?_⟩
    . rcases List.mem_cons.1 hc with rfl | hc
      . omega
      . exact h2 c hc
    . rcases h3 with h3 | ⟨c, hc, h3⟩
      . rcases Int.le_total (bm d.b a.toNat b.toNat) o with h4 | h4
        . exact .inl (by omega)
        . exact .inr ⟨d, by simp, by omega⟩
      . exact .inr ⟨c, by simp [hc], h3⟩
theorem ChOk.bm {c : Cho} {s : Nat} {m : Vector Int 576} (h : ChOk f n l c s m) {i j : Nat} (hi : (i : Int) < n) (hj : (j : Int) < n) : Go.Lat.bm c.b i j = mm m i j := by
  have := h.n
  rw [h.b]; exact bm_bounds (by omega) (by omega)
theorem ChOk.bd {c : Cho} {s : Nat} {m : Vector Int 576} (h : ChOk f n l c s m) {i j : Nat} (hi : (i : Int) < n) (hj : (j : Int) < n) : -1152921504606846976 <= mm m i j /\ mm m i j <= 1152921504606846976 := by
  have := h.n
  have := h.cm.cl.bd i j (by omega) (by omega)
  have := hB0
  have := hNB
  omega
structure RgOk (f : Flt) (n : Int) (l : List Con) (a b : Nat) (lo hi : Int) : Prop where
  eq : zYv f n l a b = (lo, hi, 0)
  loL : ∀ c ∈ zYw f n l, lo <= -bm c.b b a
  hiL : ∀ c ∈ zYw f n l, bm c.b a b <= hi
  loA : ∃ c ∈ zYw f n l, lo = -bm c.b b a
  hiA : ∃ c ∈ zYw f n l, hi = bm c.b a b
theorem rg_ok (hb : zX f n l = true) (hne : ¬ zYw f n l = []) {a b : Nat} (ha : (a : Int) < n) (hb' : (b : Int) < n) : ∃ lo hi, RgOk f n l a b lo hi := by
  obtain ⟨l1, l2, l3⟩ := lo_spec a b (zYw f n l) NB
  obtain ⟨h1, h2, h3⟩ := hi_spec a b (zYw f n l) (-NB)
  obtain ⟨c, hc⟩ := List.exists_mem_of_ne_nil _ hne
  obtain ⟨s, m, ck⟩ := choices_ok hc
  have hn := ck.n
  have q1 := ck.bm hb' ha
  have q2 := ck.bm ha hb'
  have b1 := ck.bd hb' ha
  have b2 := ck.bd ha hb'
  have lh := ck.cm.low_high (f := a) (t := b) (by omega) (by omega)
  have p1 := l2 c hc
  have p2 := h2 c hc
  simp only [Int.toNat_natCast] at l1 l2 l3 h1 h2 h3 p1 p2
  have hnb := hNB
  refine ⟨loM (zYw f n l) a b, hiM (zYw f n l) a b, ⟨?_, l2, h2, ?_, ?_⟩⟩
  . have e1 : loM (zYw f n l) a b = (zYw f n l).foldl (fun o c => min o (-Go.Lat.bm c.b b a)) NB := rfl
    have e2 : hiM (zYw f n l) a b = (zYw f n l).foldl (fun o c => max o (Go.Lat.bm c.b a b)) (-NB) := rfl
    unfold zYv
    rw [if_pos ⟨hb, by omega, by omega⟩, if_neg (by omega)]
  . rcases l3 with l3 | h
    . refine ⟨c, hc, ?_⟩
      have e1 : loM (zYw f n l) a b = (zYw f n l).foldl (fun o c => min o (-Go.Lat.bm c.b b a)) NB := rfl
      omega
    . exact h
  . rcases h3 with h3 | h
    . refine ⟨c, hc, ?_⟩
      have e2 : hiM (zYw f n l) a b = (zYw f n l).foldl (fun o c => max o (Go.Lat.bm c.b a b)) (-NB) := rfl
      omega
    . exact h
theorem li_fold : ∀ (ss : List Nat) (x : Nat), x < 64 -> (∀ s ∈ ss, s < 64) -> ∃ z : Nat, (ss.map fun (s : Nat) => (s : Int)).foldl (fun o s => bitI .andNot .i64 o s) (x : Int) = z /\ z <= x /\ ∀ a, a < 6 -> (bt z a = true ↔ bt x a = true /\ ∀ s ∈ ss, ¬ bt s a = true)
  | [], x, _, _ => ⟨x, rfl, Nat.le_refl _, fun a _ => by simp⟩
  | s :: ss, x, hx, hs => by
    obtain ⟨y, e, hy, hyb⟩ := anN_bits hx (hs s (by simp))
    obtain ⟨z, e2, hz, hzb⟩ := li_fold ss y (by omega) (fun t ht => hs t (by simp [ht]))
    refine ⟨z, ?_, by omega, fun a ha => ?_⟩
    . simp only [List.map_cons, List.foldl_cons]
      rw [e]; exact e2
    . rw [hzb a ha, hyb a ha]
      simp only [List.mem_cons, forall_eq_or_imp, and_assoc]
theorem li_ok (hb : zX f n l = true) (hne : ¬ zYw f n l = []) : ∃ z : Nat, liM f n l = ((z : Int), 0) /\ z < 2 ^ f.dr.length /\ ∀ a, a < 6 -> (bt z a = true ↔ a < f.dr.length /\ ∀ s : Nat, ((s : Int) ∈ (chM f n l).1) -> ¬ bt s a = true) := by
  have hbk := bvalid_ok hb
  have h64 := pow_le64 hbk.fo.len.2
  have hpos : 0 < 2 ^ f.dr.length := Nat.pow_pos (by omega)
  have hch := ch_ok hb hne
  obtain ⟨ss, hss, hlt⟩ : ∃ ss : List Nat, (chM f n l).1 = ss.map (fun (s : Nat) => (s : Int)) /\ ∀ s ∈ ss, s < 64 := by
    refine ⟨(zYw f n l).map fun c => c.s.toNat, ?_, ?_⟩
    . rw [hch, List.map_map]
      refine List.map_congr_left fun c hc => ?_
      obtain ⟨s, _, _, _, rfl⟩ := choices_mem.1 hc
      rfl
    . intro s hs
      obtain ⟨c, hc, rfl⟩ := List.mem_map.1 hs
      obtain ⟨s, h1, _, _, rfl⟩ := choices_mem.1 hc
      show ((s : Nat) : Int).toNat < 64
      omega
  obtain ⟨z, e, hz, hzb⟩ := li_fold ss (2 ^ f.dr.length - 1) (by omega) hlt
  refine ⟨z, ?_, by omega, fun a ha => ?_⟩
  . unfold liM
    rw [if_pos (by rw [hch]), hss]
    have e3 : ((2 ^ f.dr.length - 1 : Nat) : Int) = (2 ^ f.dr.length : Int) - 1 := by
      rw [Int.natCast_sub (by omega)]; simp
    rw [<- e3, e]
  . rw [hzb a ha, full_bits hbk.fo.len.2 ha, hss]
    simp only [List.mem_map]
    constructor
    . rintro ⟨h1, h2⟩
      refine ⟨h1, fun s hs => ?_⟩
      obtain ⟨t, ht, e⟩ := hs
      have : t = s := by omega
      subst this
      exact h2 t ht
    . rintro ⟨h1, h2⟩
      exact ⟨h1, fun s hs => h2 s ⟨s, hs, rfl⟩⟩
end
end Go.Lat
namespace Go.Lat
open Go.RowKit
theorem clear1' : ∀ (x : Fin 64) (a : Fin 6), (decide (0 <= bitI .andNot .i64 ((x.1 : Nat) : Int) (2 ^ a.1)) && decide ((bitI .andNot .i64 ((x.1 : Nat) : Int) (2 ^ a.1)).toNat <= x.1) && decide (pcN x.1 <= pcN (bitI .andNot .i64 ((x.1 : Nat) : Int) (2 ^ a.1)).toNat + 1)) = true := by decide +kernel
theorem clear1 {x a : Nat} (hx : x < 64) (ha : a < 6) : ∃ z : Nat, bitI .andNot .i64 (x : Int) (2 ^ a) = z /\ z <= x /\ pcN x <= pcN z + 1 := by
  have := clear1' ⟨x, hx⟩ ⟨a, ha⟩
  simp only [Bool.and_eq_true, decide_eq_true_eq] at this
  obtain ⟨⟨h1, h2⟩, h3⟩ := this
  exact ⟨(bitI .andNot .i64 (x : Int) (2 ^ a)).toNat, by omega, h2, h3⟩
theorem or2 {i j k : Nat} (hk : k <= 6) (hi : i < k) (hj : j < k) : ∃ z : Nat, bitI .or .i64 (2 ^ i) (2 ^ j) = z /\ z < 2 ^ k := by
  have : ((List.range 7).all fun k => (List.range 6).all fun i => (List.range 6).all fun j => !(decide (i < k) && decide (j < k)) || (decide (0 <= bitI .or .i64 (2 ^ i) (2 ^ j)) && decide ((bitI .or .i64 (2 ^ i) (2 ^ j)).toNat < 2 ^ k))) = true := by decide +kernel
  simp only [List.all_eq_true, List.mem_range, Bool.or_eq_true, Bool.not_eq_true', Bool.and_eq_false_iff, Bool.and_eq_true, decide_eq_true_eq, decide_eq_false_iff_not] at this
  rcases this k (by omega) i (by omega) j (by omega) with (h | h) | ⟨h1, h2⟩
  . exact absurd hi h
  . exact absurd hj h
  . exact ⟨(bitI .or .i64 (2 ^ i) (2 ^ j)).toNat, by omega, h2⟩
theorem hon_ok {f : Flt} (h : FOk f) (ho : Int) : ∃ z : Nat, honM f ho = z /\ z < 2 ^ f.dr.length /\ (f.dr.length : Int) - f.li <= pcN z := by
  have h64 := pow_le64 h.len.2
  have hpos : 0 < 2 ^ f.dr.length := Nat.pow_pos (by omega)
  have hli := h.li
  have hlt := h.lt
  have key : ∀ k : Nat, k <= f.dr.length -> ∃ z : Nat, ((List.range k).foldl (honStep ho) (2 ^ f.dr.length - 1, f.li)).1 = z /\ z < 2 ^ f.dr.length /\ 0 <= ((List.range k).foldl (honStep ho) (2 ^ f.dr.length - 1, f.li)).2 /\ (f.dr.length : Int) - f.li + ((List.range k).foldl (honStep ho) (2 ^ f.dr.length - 1, f.li)).2 <= pcN z := by
    intro k
    induction k with
    | zero =>
      intro _
      refine ⟨2 ^ f.dr.length - 1, ?_, by omega, hli.1, ?_⟩
      . show (2 ^ f.dr.length : Int) - 1 = _
        rw [Int.natCast_sub (by omega)]; simp
      . rw [(pc_full h.len.2 (by omega)).2 rfl]
        show (f.dr.length : Int) - f.li + f.li <= _
        omega
    | succ k ih =>
      intro hk
      obtain ⟨z, h1, h2, h3, h4⟩ := ih (by omega)
      rw [List.range_succ, List.foldl_append]
      generalize (List.range k).foldl (honStep ho) (2 ^ f.dr.length - 1, f.li) = p at *
      show ∃ z : Nat, (honStep ho p k).1 = z /\ _ /\ 0 <= (honStep ho p k).2 /\ _ + (honStep ho p k).2 <= _
      unfold honStep
      split
      . rename_i hc
        obtain ⟨y, e, hy, hp⟩ := clear1 (x := z) (a := k) (by omega) (by have := h.len; omega)
        refine ⟨y, ?_, by omega, ?_, ?_⟩
        . show bitI .andNot .i64 p.1 (2 ^ k) = _
          rw [h1]; exact e
        . show 0 <= p.2 - 1
          omega
        . show _ + (p.2 - 1) <= _
          omega
      . exact ⟨z, h1, h2, h3, h4⟩
  obtain ⟨z, h1, h2, h3, h4⟩ := key f.dr.length (Nat.le_refl _)
  exact ⟨z, h1, h2, by omega⟩
theorem truth_ok {n : Int} {tr : List Int} : (truthM n tr).length = n.toNat /\ ∀ v ∈ truthM n tr, 0 <= v /\ v <= 60 := by
  unfold truthM
  refine ⟨by simp, fun v hv => ?_⟩
  simp only [List.mem_map, List.mem_range] at hv
  obtain ⟨k, _, rfl⟩ := hv
  split
  . have := zXt (c := tr.getD k 0) (n := 60) (by omega)
    omega
  . omega
theorem bmade_mem {f : Flt} {n : Int} {x : List A3} {ho : Int} {tr : List Int} {d : Con} (hd : d ∈ bmadeM f n x ho tr) : ∃ c y, c ∈ madeM n (x.take 24) /\ d = bmade1 f ho tr c y := by
  unfold bmadeM at hd
  obtain ⟨i, hi, e⟩ := List.mem_iff_getElem.1 hd
  rw [List.getElem_zipWith] at e
  rw [List.length_zipWith] at hi
  exact ⟨_, _, List.getElem_mem (by omega), e.symm⟩
theorem mk_bel (c : Cas) : ∃ ho : Nat, (mkM c).2.2.2.2 = ho /\ (mkM c).2.2.1.length <= 24 /\ FleetOk (mkM c).1 /\ ((mkM c).2.1 <= 6) /\ Bel (mkM c).1 (mkM c).2.1 (mkM c).2.2.1 (mkM c).2.2.2.1 ho := by
  have hF := fleet_ok c.fl
  obtain ⟨z, e, hz, hp⟩ := hon_ok hF.ok c.ho
  have h6 := zXt (c := c.n) (n := 6) (by omega)
  have e1 : (mkM c).1 = zYt c.fl := rfl
  have e2 : (mkM c).2.1 = 1 + pickM c.n 6 := rfl
  have e3 : (mkM c).2.2.1 = bmadeM (zYt c.fl) (1 + pickM c.n 6) c.x (honM (zYt c.fl) c.ho) (truthM (1 + pickM c.n 6) c.tr) := rfl
  have e4 : (mkM c).2.2.2.1 = truthM (1 + pickM c.n 6) c.tr := rfl
  have e5 : (mkM c).2.2.2.2 = honM (zYt c.fl) c.ho := rfl
  rw [e] at e3 e5
  have hlen : (mkM c).2.2.1.length <= 24 := by
    rw [e3]; unfold bmadeM
    rw [List.length_zipWith, List.length_take]; omega
  refine ⟨z, e5, hlen, by rw [e1]; exact hF, by rw [e2]; omega, ?_⟩
  rw [e1, e2, e4, e3]
  rw [e3] at hlen
  obtain ⟨t1, t2⟩ := truth_ok (n := 1 + pickM c.n 6) (tr := c.tr)
  have h64 := pow_le32 hF.five
  have key : ∀ d ∈ bmadeM (zYt c.fl) (1 + pickM c.n 6) c.x (z : Int) (truthM (1 + pickM c.n 6) c.tr), ∃ (y : A3) (k : Con) (a : Nat), k ∈ madeM (1 + pickM c.n 6) (c.x.take 24) /\ a < 2 ^ (zYt c.fl).dr.length ∧
      d = if sub a z = true then ⟨k.f, k.t, lat (truthM (1 + pickM c.n 6) c.tr) k.t - lat (truthM (1 + pickM c.n 6) c.tr) k.f + max k.m 0, a⟩ else ⟨k.f, k.t, k.m, a⟩ := by
    intro d hd
    obtain ⟨k, y, hk, rfl⟩ := bmade_mem hd
    have hl := hF.ok.len
    have q1 := zXt (c := y.x1.tdiv 30) (n := (((zYt c.fl).dr.length : Nat) : Int)) (by omega)
    have q2 := zXt (c := y.x1.tdiv 200) (n := (((zYt c.fl).dr.length : Nat) : Int)) (by omega)
    obtain ⟨a, ea, ha⟩ := or2 (i := (pickM (y.x1.tdiv 30) (zYt c.fl).dr.length).toNat) (j := (pickM (y.x1.tdiv 200) (zYt c.fl).dr.length).toNat) (k := (zYt c.fl).dr.length) hl.2 (by omega) (by omega)
    refine ⟨y, k, a, hk, ha, ?_⟩
    unfold bmade1
    simp only [ea]
    have := and_sub (x := a) (y := z) (by omega) (by omega)
    by_cases h : sub a z = true
    . rw [if_pos h, if_pos (this.2 h)]
    . rw [if_neg h, if_neg fun e => h (this.1 e)]
  refine ⟨hF.ok, hF.cv, hF.five, by omega, by omega, fun d hd => ?_, hz, hp, t1, fun v hv => by have := t2 v hv; omega, fun d hd hin => ?_⟩
  . obtain ⟨y, k, a, hk, ha, rfl⟩ := key d hd
    obtain ⟨p1, p2, p3⟩ := made_poss k hk
    have p1 := possM_iff.1 p1
    have b1 := t2 _ (lat_mem (xs := truthM (1 + pickM c.n 6) c.tr) (i := k.t) ⟨p1.2.2.1, by omega⟩)
    have b2 := t2 _ (lat_mem (xs := truthM (1 + pickM c.n 6) c.tr) (i := k.f) ⟨p1.1, by omega⟩)
    split
    . exact ⟨⟨p1.1, p1.2.1⟩, ⟨p1.2.2.1, p1.2.2.2.1⟩, p1.2.2.2.2.1, by dsimp only; omega, a, rfl, ha⟩
    . exact ⟨⟨p1.1, p1.2.1⟩, ⟨p1.2.2.1, p1.2.2.2.1⟩, p1.2.2.2.2.1, by dsimp only; omega, a, rfl, ha⟩
  . obtain ⟨y, k, a, hk, ha, rfl⟩ := key d hd
    split
    . show lat _ k.t - lat _ k.f <= lat _ k.t - lat _ k.f + max k.m 0
      omega
    . rename_i h
      exfalso
      rw [if_neg h] at hin
      unfold inSet at hin
      rw [decide_eq_true_eq] at hin
      exact h ((anN_sub (by omega) (by omega)).1 hin)
end Go.Lat
namespace Go.Lat
open Go.RowKit
theorem FleetOk.lens {f : Flt} (h : FleetOk f) : f.dr.length <= 9223372036854775807 /\ f.sv.length <= 9223372036854775807 /\ f.tm.length <= 9223372036854775807 := by
  have := h.five
  rw [h.sv, h.tm]
  exact ⟨by omega, by simp, by simp⟩
section
variable {f : Flt} {n : Int} {l : List Con} {tr : List Int} {ho : Nat}
theorem mem_ch (hb : zX f n l = true) {c : Cho} (hc : c ∈ zYw f n l) : c.s ∈ (chM f n l).1 := by
  have hne : ¬ zYw f n l = [] := fun e => by rw [e] at hc; cases hc
  rw [ch_ok hb hne]
  exact List.mem_map.2 ⟨c, hc, rfl⟩
theorem Bel.honest (h : Bel f n l tr ho) : ∃ z : Nat, liM f n l = ((z : Int), 0) /\ bitI .and .i64 (z : Int) (ho : Int) = 0 := by
  have h32 := pow_le32 h.five
  have hhl := h.hl
  obtain ⟨z, e, hz, hb⟩ := li_ok h.bv h.ne
  refine ⟨z, e, (and_zero (by omega) (by omega)).2 fun a ha hab => ?_⟩
  obtain ⟨s, h1, _, h3, hc⟩ := h.honest_choice ha hab.2
  exact ((hb a ha).1 hab.1).2 s (mem_ch h.bv hc) h3
theorem Bel.take (h : Bel f n l tr ho) (k : Nat) : Bel f n (l.take k) tr ho :=
  { h with
    len := by rw [List.length_take]; have := h.len; omega
    con := fun c hc => h.con c (List.mem_of_mem_take hc)
    hs := fun c hc => h.hs c (List.mem_of_mem_take hc) }
end
end Go.Lat
namespace Go.Lat
open Go.RowKit
section
variable {f : Flt} {n : Int} {l : List Con} {tr : List Int} {ho : Nat}
theorem rg_bounds {a b : Nat} (ha : (a : Int) < n) (hb : (b : Int) < n) {lo hi : Int} (hr : RgOk f n l a b lo hi) : (-1152921504606846976 <= lo /\ lo <= 1152921504606846976) /\ -1152921504606846976 <= hi /\ hi <= 1152921504606846976 := by
  obtain ⟨c, hc, e⟩ := hr.loA
  obtain ⟨d, hd, e'⟩ := hr.hiA
  obtain ⟨s, m, ck⟩ := choices_ok hc
  obtain ⟨t, q, dk⟩ := choices_ok hd
  rw [ck.bm hb ha] at e
  rw [dk.bm ha hb] at e'
  have := ck.bd hb ha
  have := dk.bd ha hb
  omega
end
end Go.Lat
namespace Go.Lat
def Wk2 : Nat -> List Con -> Nat -> Prop
  | u, [], v => u = v
  | u, c :: w, v => c.f.toNat = u /\ Wk2 c.t.toNat w v
def wt (w : List Con) : Int := (w.map (·.m)).sum
theorem wt_nil : wt [] = 0 := rfl
theorem wt_cons (c : Con) (w : List Con) : wt (c :: w) = c.m + wt w := by simp [wt]
theorem Wk2.app : ∀ {a b : List Con} {u v z : Nat}, Wk2 u a v -> Wk2 v b z -> Wk2 u (a ++ b) z
  | [], _, _, _, _, h, k => by cases h; exact k
  | _ :: _, _, _, _, _, h, k => ⟨h.1, Wk2.app h.2 k⟩
theorem Wk2.split : ∀ {a b : List Con} {u z : Nat}, Wk2 u (a ++ b) z -> ∃ v, Wk2 u a v /\ Wk2 v b z
  | [], _, u, _, h => ⟨u, rfl, h⟩
  | _ :: _, _, _, _, h => by
    obtain ⟨v, h1, h2⟩ := Wk2.split h.2
    exact ⟨v, ⟨h.1, h1⟩, h2⟩
def Byw (m : Vector Int 576) (l : List Con) : Prop := ∀ i j, i < 24 -> j < 24 -> ¬ mm m i j = NB -> ∃ w, (∀ c ∈ w, c ∈ l) /\ Wk2 i w j /\ wt w = mm m i j
def NegW (l : List Con) (u : Nat) (w : List Con) : Prop := (∀ c ∈ w, c ∈ l) /\ Wk2 u w u /\ wt w < 0
end Go.Lat
namespace Go.Lat
section
variable {n : Nat} (hn : n <= 24) {l : List Con} (hg : Good n l) {v : Int} (hv : 0 <= v /\ v < n) {above : Int}
include hn hg hv
end
end Go.Lat
namespace Go.Lat
section
variable {n : Nat} (hn : n <= 24) {l : List Con} (hg : Good n l) {v : Int} (hv : 0 <= v /\ v < n) {s : Nat} {size : Int} (hsz : size <= 25)
include hn hg hv hsz
end
end Go.Lat
namespace Go.Lat
structure FirstC (n : Nat) (l : List Con) (c : List Int) : Prop where
  len : (c.length : Int) = sizeM n l
  sz : 1 <= sizeM n l /\ sizeM n l <= n
  idx : ∀ i ∈ c, 0 <= i /\ i < (l.length : Int)
  neg : ∃ u, NegW l u (c.map (lat l))
end Go.Lat
namespace Go.Lat
theorem wk_tele {x : Nat -> Int} : ∀ {w : List Con} {u v : Nat}, Wk2 u w v -> SolL w x -> x v - x u <= wt w
  | [], _, _, h, _ => by cases h; rw [wt_nil]; omega
  | c :: w, u, v, h, hs => by
    have := wk_tele h.2 (fun d hd => hs d (by simp [hd]))
    have h1 := hs c (by simp)
    have h2 := h.1
    rw [wt_cons]
    subst h2
    omega
theorem NegW.none {l : List Con} {u : Nat} {w : List Con} (h : NegW l u w) (x : Nat -> Int) : ¬ SolL w x := fun hs => by
  have := wk_tele h.2.1 hs
  have := h.2.2
  omega
end Go.Lat
namespace Go.Lat
def leastM (n : Int) (l : List Con) (above to most : Int) : List (List Int) :=
  (List.range (most.toNat + 1)).map fun r => (List.range n.toNat).map fun v => vat (tabD l to above r) v
structure LeastOk (n : Int) (l : List Con) (above to most : Int) : Prop where
  v : validM n l = true
  a : 0 <= above + 1 /\ above + 1 <= l.length
  t : 0 <= to /\ to < n
  k : 0 <= most /\ most <= 24
def rfirstM (n : Int) (l : List Con) : List Int := if sizeM n l <= n then firstM n l else []
end Go.Lat
namespace Go.Lat
def rowL (n : Nat) (o : Vector Int 24) : List Int := (List.range n).map fun v => vat o v
def partR (l : List Con) (a : Nat) (d : Vector Int 24) (i : Nat) : Vector Int 24 := ((l.drop a).take (i - a)).foldl (relStep d) (Vector.replicate 24 NB)
end Go.Lat
namespace Go.Lat
def zenc (n s : Int) : Int := if s = n + 1 then 0 else s
end Go.Lat
