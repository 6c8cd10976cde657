/- The law latecomerlaw24.ReplayIdle returns true for every input, and each argument reads afterwards as it read before. Part 4 of 13. No condition. -/
import Derived.Test.YtbaillkjjlmehaaLatC
import Derived.Test.YtbaillkjjlmehaaProg
import Derived.KernelRfl
import Derived.Conc.LoneCalls
set_option linter.unusedVariables false
set_option linter.unusedSimpArgs false
set_option linter.unnecessarySimpa false
namespace Go.Lat
open Go.RowKit Go.Proofs
set_option maxRecDepth 100000
def tt : TT := fun t =>
  if t = 121 then some ⟨.int .u64, 1, 8, [.int .u64 0]⟩ else
  if t = 3 then some ⟨.int .i64, 1, 8, [.int .i64 0]⟩ else
  if t = 39 then some ⟨.int .i64, 1, 8, [.int .i64 0]⟩ else
  if t = 4 then some ⟨.bool, 1, 1, [.bool false]⟩ else
  if t = 22 then some ⟨.sl 3, 1, 24, [.nilS]⟩ else
  if t = 23 then some ⟨.sl 53, 1, 24, [.nilS]⟩ else
  if t = 24 then some ⟨.sl 58, 1, 24, [.nilS]⟩ else
  if t = 32 then some ⟨.sl 73, 1, 24, [.nilS]⟩ else
  if t = 36 then some ⟨.sl 26, 1, 24, [.nilS]⟩ else
  if t = 28 then some ⟨.sl 93, 1, 24, [.nilS]⟩ else
  if t = 29 then some ⟨.sl 27, 1, 24, [.nilS]⟩ else
  if t = 51 then some ⟨.sl 60, 1, 24, [.nilS]⟩ else
  if t = 55 then some ⟨.sl 4, 1, 24, [.nilS]⟩ else
  if t = 63 then some ⟨.sl 90, 1, 24, [.nilS]⟩ else
  if t = 64 then some ⟨.sl 69, 1, 24, [.nilS]⟩ else
  if t = 110 then some ⟨.sl 118, 1, 24, [.nilS]⟩ else
  if t = 111 then some ⟨.sl 113, 1, 24, [.nilS]⟩ else
  if t = 99 then some ⟨.sl 102, 1, 24, [.nilS]⟩ else
  if t = 102 then some ⟨.sl 87, 1, 24, [.nilS]⟩ else
  if t = 26 then some ⟨.st [(0, 22), (1, 23), (2, 3), (3, 3), (4, 3), (5, 24)], 6, 96, [.nilS, .nilS, .int .i64 0, .int .i64 0, .int .i64 0, .nilS]⟩ else
  if t = 27 then some ⟨.ar 3 3, 3, 24, [.int .i64 0, .int .i64 0, .int .i64 0]⟩ else
  if t = 93 then some ⟨.ar 6 3, 6, 48, [.int .i64 0, .int .i64 0, .int .i64 0, .int .i64 0, .int .i64 0, .int .i64 0]⟩ else
  if t = 90 then some ⟨.ar 4 3, 4, 32, [.int .i64 0, .int .i64 0, .int .i64 0, .int .i64 0]⟩ else
  if t = 118 then some ⟨.ar 4 3, 4, 32, [.int .i64 0, .int .i64 0, .int .i64 0, .int .i64 0]⟩ else
  if t = 31 then some ⟨.st [(0, 27), (3, 28), (4, 29), (5, 3), (6, 3)], 7, 88, [.int .i64 0, .int .i64 0, .int .i64 0, .nilS, .nilS, .int .i64 0, .int .i64 0]⟩ else
  if t = 53 then some ⟨.st [(0, 3), (1, 51)], 2, 32, [.int .i64 0, .nilS]⟩ else
  if t = 58 then some ⟨.st [(0, 3), (1, 3), (2, 3), (3, 3), (4, 3), (5, 3)], 6, 48, [.int .i64 0, .int .i64 0, .int .i64 0, .int .i64 0, .int .i64 0, .int .i64 0]⟩ else
  if t = 60 then some ⟨.st [(0, 3), (1, 3)], 2, 16, [.int .i64 0, .int .i64 0]⟩ else
  if t = 69 then some ⟨.st [(0, 3), (1, 3), (2, 3), (3, 3), (4, 3), (5, 3), (6, 3), (7, 3), (8, 3), (9, 3)], 10, 80, [.int .i64 0, .int .i64 0, .int .i64 0, .int .i64 0, .int .i64 0, .int .i64 0, .int .i64 0, .int .i64 0, .int .i64 0, .int .i64 0]⟩ else
  if t = 73 then some ⟨.st [(0, 3), (1, 3), (2, 3), (3, 3), (4, 3)], 5, 40, [.int .i64 0, .int .i64 0, .int .i64 0, .int .i64 0, .int .i64 0]⟩ else
  if t = 87 then some ⟨.st [(0, 3), (1, 3), (2, 3)], 3, 24, [.int .i64 0, .int .i64 0, .int .i64 0]⟩ else
  if t = 89 then some ⟨.st [(0, 3), (1, 87)], 4, 32, [.int .i64 0, .int .i64 0, .int .i64 0, .int .i64 0]⟩ else
  if t = 113 then some ⟨.st [(0, 3), (1, 3), (2, 3)], 3, 24, [.int .i64 0, .int .i64 0, .int .i64 0]⟩ else
  if t = 84 then some ⟨.ch 89, 1, 8, [.any]⟩ else
  if t = 109 then some ⟨.ch 89, 1, 8, [.any]⟩ else
  if t = 105 then some ⟨.one, 1, 8, [.nilF]⟩ else
  if t = 107 then some ⟨.st [(0, 3), (1, 105)], 2, 16, [.int .i64 0, .nilF]⟩ else
  if t = 103 then some ⟨.sl 107, 1, 24, [.nilS]⟩ else
  if t = 108 then some ⟨.one, 1, 8, [.nilP]⟩ else
  none
theorem tt121 : tt 121 = some ⟨.int .u64, 1, 8, [.int .u64 0]⟩ := by rfl
theorem tt3 : tt 3 = some ⟨.int .i64, 1, 8, [.int .i64 0]⟩ := by rfl
theorem tt39 : tt 39 = some ⟨.int .i64, 1, 8, [.int .i64 0]⟩ := by rfl
theorem tt4 : tt 4 = some ⟨.bool, 1, 1, [.bool false]⟩ := by rfl
theorem tt22 : tt 22 = some ⟨.sl 3, 1, 24, [.nilS]⟩ := by rfl
theorem tt23 : tt 23 = some ⟨.sl 53, 1, 24, [.nilS]⟩ := by rfl
theorem tt24 : tt 24 = some ⟨.sl 58, 1, 24, [.nilS]⟩ := by rfl
theorem tt32 : tt 32 = some ⟨.sl 73, 1, 24, [.nilS]⟩ := by rfl
theorem tt36 : tt 36 = some ⟨.sl 26, 1, 24, [.nilS]⟩ := by rfl
theorem tt28 : tt 28 = some ⟨.sl 93, 1, 24, [.nilS]⟩ := by rfl
theorem tt29 : tt 29 = some ⟨.sl 27, 1, 24, [.nilS]⟩ := by rfl
theorem tt51 : tt 51 = some ⟨.sl 60, 1, 24, [.nilS]⟩ := by rfl
theorem tt55 : tt 55 = some ⟨.sl 4, 1, 24, [.nilS]⟩ := by rfl
theorem tt63 : tt 63 = some ⟨.sl 90, 1, 24, [.nilS]⟩ := by rfl
theorem tt64 : tt 64 = some ⟨.sl 69, 1, 24, [.nilS]⟩ := by rfl
theorem tt110 : tt 110 = some ⟨.sl 118, 1, 24, [.nilS]⟩ := by rfl
theorem tt111 : tt 111 = some ⟨.sl 113, 1, 24, [.nilS]⟩ := by rfl
theorem tt99 : tt 99 = some ⟨.sl 102, 1, 24, [.nilS]⟩ := by rfl
theorem tt102 : tt 102 = some ⟨.sl 87, 1, 24, [.nilS]⟩ := by rfl
theorem tt26 : tt 26 = some ⟨.st [(0, 22), (1, 23), (2, 3), (3, 3), (4, 3), (5, 24)], 6, 96, [.nilS, .nilS, .int .i64 0, .int .i64 0, .int .i64 0, .nilS]⟩ := by rfl
theorem tt27 : tt 27 = some ⟨.ar 3 3, 3, 24, [.int .i64 0, .int .i64 0, .int .i64 0]⟩ := by rfl
theorem tt93 : tt 93 = some ⟨.ar 6 3, 6, 48, [.int .i64 0, .int .i64 0, .int .i64 0, .int .i64 0, .int .i64 0, .int .i64 0]⟩ := by rfl
theorem tt90 : tt 90 = some ⟨.ar 4 3, 4, 32, [.int .i64 0, .int .i64 0, .int .i64 0, .int .i64 0]⟩ := by rfl
theorem tt118 : tt 118 = some ⟨.ar 4 3, 4, 32, [.int .i64 0, .int .i64 0, .int .i64 0, .int .i64 0]⟩ := by rfl
theorem tt31 : tt 31 = some ⟨.st [(0, 27), (3, 28), (4, 29), (5, 3), (6, 3)], 7, 88, [.int .i64 0, .int .i64 0, .int .i64 0, .nilS, .nilS, .int .i64 0, .int .i64 0]⟩ := by rfl
theorem tt53 : tt 53 = some ⟨.st [(0, 3), (1, 51)], 2, 32, [.int .i64 0, .nilS]⟩ := by rfl
theorem tt58 : tt 58 = some ⟨.st [(0, 3), (1, 3), (2, 3), (3, 3), (4, 3), (5, 3)], 6, 48, [.int .i64 0, .int .i64 0, .int .i64 0, .int .i64 0, .int .i64 0, .int .i64 0]⟩ := by rfl
theorem tt60 : tt 60 = some ⟨.st [(0, 3), (1, 3)], 2, 16, [.int .i64 0, .int .i64 0]⟩ := by rfl
theorem tt69 : tt 69 = some ⟨.st [(0, 3), (1, 3), (2, 3), (3, 3), (4, 3), (5, 3), (6, 3), (7, 3), (8, 3), (9, 3)], 10, 80, [.int .i64 0, .int .i64 0, .int .i64 0, .int .i64 0, .int .i64 0, .int .i64 0, .int .i64 0, .int .i64 0, .int .i64 0, .int .i64 0]⟩ := by rfl
theorem tt73 : tt 73 = some ⟨.st [(0, 3), (1, 3), (2, 3), (3, 3), (4, 3)], 5, 40, [.int .i64 0, .int .i64 0, .int .i64 0, .int .i64 0, .int .i64 0]⟩ := by rfl
theorem tt87 : tt 87 = some ⟨.st [(0, 3), (1, 3), (2, 3)], 3, 24, [.int .i64 0, .int .i64 0, .int .i64 0]⟩ := by rfl
theorem tt89 : tt 89 = some ⟨.st [(0, 3), (1, 87)], 4, 32, [.int .i64 0, .int .i64 0, .int .i64 0, .int .i64 0]⟩ := by rfl
theorem tt113 : tt 113 = some ⟨.st [(0, 3), (1, 3), (2, 3)], 3, 24, [.int .i64 0, .int .i64 0, .int .i64 0]⟩ := by rfl
theorem tt84 : tt 84 = some ⟨.ch 89, 1, 8, [.any]⟩ := by rfl
theorem tt109 : tt 109 = some ⟨.ch 89, 1, 8, [.any]⟩ := by rfl
theorem tt105 : tt 105 = some ⟨.one, 1, 8, [.nilF]⟩ := by rfl
theorem tt107 : tt 107 = some ⟨.st [(0, 3), (1, 105)], 2, 16, [.int .i64 0, .nilF]⟩ := by rfl
theorem tt103 : tt 103 = some ⟨.sl 107, 1, 24, [.nilS]⟩ := by rfl
theorem tt108 : tt 108 = some ⟨.one, 1, 8, [.nilP]⟩ := by rfl
theorem tok121 : TOk Try.prog 121 ⟨.int .u64, 1, 8, [.int .u64 0]⟩ where
  info := ⟨Try.t121, _, Try.type121, rfl, rfl, rfl, by simp [Value.cells, VRs, VR], by simp [Value.cells, Value.oneCell'], rfl⟩
  kind := Try.underlying121
  eqs := trivial
theorem tok3 : TOk Try.prog 3 ⟨.int .i64, 1, 8, [.int .i64 0]⟩ where
  info := ⟨Try.t3, _, Try.type3, rfl, rfl, rfl, by simp [Value.cells, VRs, VR], by simp [Value.cells, Value.oneCell'], rfl⟩
  kind := Try.underlying3
  eqs := trivial
theorem tok39 : TOk Try.prog 39 ⟨.int .i64, 1, 8, [.int .i64 0]⟩ where
  info := ⟨Try.t39, _, Try.type39, rfl, rfl, rfl, by simp [Value.cells, VRs, VR], by simp [Value.cells, Value.oneCell'], rfl⟩
  kind := Try.underlying39
  eqs := trivial
theorem tok4 : TOk Try.prog 4 ⟨.bool, 1, 1, [.bool false]⟩ where
  info := ⟨Try.t4, _, Try.type4, rfl, rfl, rfl, by simp [Value.cells, VRs, VR], by simp [Value.cells, Value.oneCell'], rfl⟩
  kind := Try.underlying4
  eqs := trivial
theorem tok22 : TOk Try.prog 22 ⟨.sl 3, 1, 24, [.nilS]⟩ where
  info := ⟨Try.t22, _, Try.type22, rfl, rfl, rfl, by simp [Value.cells, VRs, VR], by simp [Value.cells, Value.oneCell'], rfl⟩
  kind := Try.underlying22
  eqs := trivial
theorem tok23 : TOk Try.prog 23 ⟨.sl 53, 1, 24, [.nilS]⟩ where
  info := ⟨Try.t23, _, Try.type23, rfl, rfl, rfl, by simp [Value.cells, VRs, VR], by simp [Value.cells, Value.oneCell'], rfl⟩
  kind := Try.underlying23
  eqs := trivial
theorem tok24 : TOk Try.prog 24 ⟨.sl 58, 1, 24, [.nilS]⟩ where
  info := ⟨Try.t24, _, Try.type24, rfl, rfl, rfl, by simp [Value.cells, VRs, VR], by simp [Value.cells, Value.oneCell'], rfl⟩
  kind := Try.underlying24
  eqs := trivial
theorem tok32 : TOk Try.prog 32 ⟨.sl 73, 1, 24, [.nilS]⟩ where
  info := ⟨Try.t32, _, Try.type32, rfl, rfl, rfl, by simp [Value.cells, VRs, VR], by simp [Value.cells, Value.oneCell'], rfl⟩
  kind := Try.underlying32
  eqs := trivial
theorem tok36 : TOk Try.prog 36 ⟨.sl 26, 1, 24, [.nilS]⟩ where
  info := ⟨Try.t36, _, Try.type36, rfl, rfl, rfl, by simp [Value.cells, VRs, VR], by simp [Value.cells, Value.oneCell'], rfl⟩
  kind := Try.underlying36
  eqs := trivial
theorem tok28 : TOk Try.prog 28 ⟨.sl 93, 1, 24, [.nilS]⟩ where
  info := ⟨Try.t28, _, Try.type28, rfl, rfl, rfl, by simp [Value.cells, VRs, VR], by simp [Value.cells, Value.oneCell'], rfl⟩
  kind := Try.underlying28
  eqs := trivial
theorem tok29 : TOk Try.prog 29 ⟨.sl 27, 1, 24, [.nilS]⟩ where
  info := ⟨Try.t29, _, Try.type29, rfl, rfl, rfl, by simp [Value.cells, VRs, VR], by simp [Value.cells, Value.oneCell'], rfl⟩
  kind := Try.underlying29
  eqs := trivial
theorem tok51 : TOk Try.prog 51 ⟨.sl 60, 1, 24, [.nilS]⟩ where
  info := ⟨Try.t51, _, Try.type51, rfl, rfl, rfl, by simp [Value.cells, VRs, VR], by simp [Value.cells, Value.oneCell'], rfl⟩
  kind := Try.underlying51
  eqs := trivial
theorem tok55 : TOk Try.prog 55 ⟨.sl 4, 1, 24, [.nilS]⟩ where
  info := ⟨Try.t55, _, Try.type55, rfl, rfl, rfl, by simp [Value.cells, VRs, VR], by simp [Value.cells, Value.oneCell'], rfl⟩
  kind := Try.underlying55
  eqs := trivial
theorem tok63 : TOk Try.prog 63 ⟨.sl 90, 1, 24, [.nilS]⟩ where
  info := ⟨Try.t63, _, Try.type63, rfl, rfl, rfl, by simp [Value.cells, VRs, VR], by simp [Value.cells, Value.oneCell'], rfl⟩
  kind := Try.underlying63
  eqs := trivial
theorem tok64 : TOk Try.prog 64 ⟨.sl 69, 1, 24, [.nilS]⟩ where
  info := ⟨Try.t64, _, Try.type64, rfl, rfl, rfl, by simp [Value.cells, VRs, VR], by simp [Value.cells, Value.oneCell'], rfl⟩
  kind := Try.underlying64
  eqs := trivial
theorem tok110 : TOk Try.prog 110 ⟨.sl 118, 1, 24, [.nilS]⟩ where
  info := ⟨Try.t110, _, Try.type110, rfl, rfl, rfl, by simp [Value.cells, VRs, VR], by simp [Value.cells, Value.oneCell'], rfl⟩
  kind := Try.underlying110
  eqs := trivial
theorem tok111 : TOk Try.prog 111 ⟨.sl 113, 1, 24, [.nilS]⟩ where
  info := ⟨Try.t111, _, Try.type111, rfl, rfl, rfl, by simp [Value.cells, VRs, VR], by simp [Value.cells, Value.oneCell'], rfl⟩
  kind := Try.underlying111
  eqs := trivial
theorem tok99 : TOk Try.prog 99 ⟨.sl 102, 1, 24, [.nilS]⟩ where
  info := ⟨Try.t99, _, Try.type99, rfl, rfl, rfl, by simp [Value.cells, VRs, VR], by simp [Value.cells, Value.oneCell'], rfl⟩
  kind := Try.underlying99
  eqs := trivial
theorem tok102 : TOk Try.prog 102 ⟨.sl 87, 1, 24, [.nilS]⟩ where
  info := ⟨Try.t102, _, Try.type102, rfl, rfl, rfl, by simp [Value.cells, VRs, VR], by simp [Value.cells, Value.oneCell'], rfl⟩
  kind := Try.underlying102
  eqs := trivial
theorem tok26 : TOk Try.prog 26 ⟨.st [(0, 22), (1, 23), (2, 3), (3, 3), (4, 3), (5, 24)], 6, 96, [.nilS, .nilS, .int .i64 0, .int .i64 0, .int .i64 0, .nilS]⟩ where
  info := ⟨Try.t26, _, Try.type26, rfl, rfl, rfl, by simp [Value.cells, VRs, VR], by simp [Value.cells, Value.oneCell'], rfl⟩
  kind := ⟨_, Try.underlying26, rfl, by
    intro f hf
    simp only [List.mem_cons, List.not_mem_nil, or_false] at hf
    rcases hf with rfl | rfl | rfl | rfl | rfl | rfl
    . exact ⟨_, Try.type22⟩
    . exact ⟨_, Try.type23⟩
    . exact ⟨_, Try.type3⟩
    . exact ⟨_, Try.type3⟩
    . exact ⟨_, Try.type3⟩
    . exact ⟨_, Try.type24⟩⟩
  eqs := ⟨by kernel_rfl, by kernel_rfl, by intro F hF; rw [Try.underlying26] at hF; cases hF; simp⟩
theorem tok27 : TOk Try.prog 27 ⟨.ar 3 3, 3, 24, [.int .i64 0, .int .i64 0, .int .i64 0]⟩ where
  info := ⟨Try.t27, _, Try.type27, rfl, rfl, rfl, by simp [Value.cells, VRs, VR], by simp [Value.cells, Value.oneCell'], rfl⟩
  kind := Try.underlying27
  eqs := trivial
theorem tok93 : TOk Try.prog 93 ⟨.ar 6 3, 6, 48, [.int .i64 0, .int .i64 0, .int .i64 0, .int .i64 0, .int .i64 0, .int .i64 0]⟩ where
  info := ⟨Try.t93, _, Try.type93, rfl, rfl, rfl, by simp [Value.cells, VRs, VR], by simp [Value.cells, Value.oneCell'], rfl⟩
  kind := Try.underlying93
  eqs := trivial
theorem tok90 : TOk Try.prog 90 ⟨.ar 4 3, 4, 32, [.int .i64 0, .int .i64 0, .int .i64 0, .int .i64 0]⟩ where
  info := ⟨Try.t90, _, Try.type90, rfl, rfl, rfl, by simp [Value.cells, VRs, VR], by simp [Value.cells, Value.oneCell'], rfl⟩
  kind := Try.underlying90
  eqs := trivial
theorem tok118 : TOk Try.prog 118 ⟨.ar 4 3, 4, 32, [.int .i64 0, .int .i64 0, .int .i64 0, .int .i64 0]⟩ where
  info := ⟨Try.t118, _, Try.type118, rfl, rfl, rfl, by simp [Value.cells, VRs, VR], by simp [Value.cells, Value.oneCell'], rfl⟩
  kind := Try.underlying118
  eqs := trivial
theorem tok31 : TOk Try.prog 31 ⟨.st [(0, 27), (3, 28), (4, 29), (5, 3), (6, 3)], 7, 88, [.int .i64 0, .int .i64 0, .int .i64 0, .nilS, .nilS, .int .i64 0, .int .i64 0]⟩ where
  info := ⟨Try.t31, _, Try.type31, rfl, rfl, rfl, by simp [Value.cells, VRs, VR], by simp [Value.cells, Value.oneCell'], rfl⟩
  kind := ⟨_, Try.underlying31, rfl, by
    intro f hf
    simp only [List.mem_cons, List.not_mem_nil, or_false] at hf
    rcases hf with rfl | rfl | rfl | rfl | rfl
    . exact ⟨_, Try.type27⟩
    . exact ⟨_, Try.type28⟩
    . exact ⟨_, Try.type29⟩
    . exact ⟨_, Try.type3⟩
    . exact ⟨_, Try.type3⟩⟩
  eqs := ⟨by kernel_rfl, by kernel_rfl, by intro F hF; rw [Try.underlying31] at hF; cases hF; simp⟩
theorem tok53 : TOk Try.prog 53 ⟨.st [(0, 3), (1, 51)], 2, 32, [.int .i64 0, .nilS]⟩ where
  info := ⟨Try.t53, _, Try.type53, rfl, rfl, rfl, by simp [Value.cells, VRs, VR], by simp [Value.cells, Value.oneCell'], rfl⟩
  kind := ⟨_, Try.underlying53, rfl, by
    intro f hf
    simp only [List.mem_cons, List.not_mem_nil, or_false] at hf
    rcases hf with rfl | rfl
    . exact ⟨_, Try.type3⟩
    . exact ⟨_, Try.type51⟩⟩
  eqs := ⟨by kernel_rfl, by kernel_rfl, by intro F hF; rw [Try.underlying53] at hF; cases hF; simp⟩
theorem tok58 : TOk Try.prog 58 ⟨.st [(0, 3), (1, 3), (2, 3), (3, 3), (4, 3), (5, 3)], 6, 48, [.int .i64 0, .int .i64 0, .int .i64 0, .int .i64 0, .int .i64 0, .int .i64 0]⟩ where
  info := ⟨Try.t58, _, Try.type58, rfl, rfl, rfl, by simp [Value.cells, VRs, VR], by simp [Value.cells, Value.oneCell'], rfl⟩
  kind := ⟨_, Try.underlying58, rfl, by
    intro f hf
    simp only [List.mem_cons, List.not_mem_nil, or_false] at hf
    rcases hf with rfl | rfl | rfl | rfl | rfl | rfl
    . exact ⟨_, Try.type3⟩
    . exact ⟨_, Try.type3⟩
    . exact ⟨_, Try.type3⟩
    . exact ⟨_, Try.type3⟩
    . exact ⟨_, Try.type3⟩
    . exact ⟨_, Try.type3⟩⟩
  eqs := ⟨by kernel_rfl, by kernel_rfl, by intro F hF; rw [Try.underlying58] at hF; cases hF; simp⟩
theorem tok60 : TOk Try.prog 60 ⟨.st [(0, 3), (1, 3)], 2, 16, [.int .i64 0, .int .i64 0]⟩ where
  info := ⟨Try.t60, _, Try.type60, rfl, rfl, rfl, by simp [Value.cells, VRs, VR], by simp [Value.cells, Value.oneCell'], rfl⟩
  kind := ⟨_, Try.underlying60, rfl, by
    intro f hf
    simp only [List.mem_cons, List.not_mem_nil, or_false] at hf
    rcases hf with rfl | rfl
    . exact ⟨_, Try.type3⟩
    . exact ⟨_, Try.type3⟩⟩
  eqs := ⟨by kernel_rfl, by kernel_rfl, by intro F hF; rw [Try.underlying60] at hF; cases hF; simp⟩
theorem tok69 : TOk Try.prog 69 ⟨.st [(0, 3), (1, 3), (2, 3), (3, 3), (4, 3), (5, 3), (6, 3), (7, 3), (8, 3), (9, 3)], 10, 80, [.int .i64 0, .int .i64 0, .int .i64 0, .int .i64 0, .int .i64 0, .int .i64 0, .int .i64 0, .int .i64 0, .int .i64 0, .int .i64 0]⟩ where
  info := ⟨Try.t69, _, Try.type69, rfl, rfl, rfl, by simp [Value.cells, VRs, VR], by simp [Value.cells, Value.oneCell'], rfl⟩
  kind := ⟨_, Try.underlying69, rfl, by
    intro f hf
    simp only [List.mem_cons, List.not_mem_nil, or_false] at hf
    rcases hf with rfl | rfl | rfl | rfl | rfl | rfl | rfl | rfl | rfl | rfl
    . exact ⟨_, Try.type3⟩
    . exact ⟨_, Try.type3⟩
    . exact ⟨_, Try.type3⟩
    . exact ⟨_, Try.type3⟩
    . exact ⟨_, Try.type3⟩
    . exact ⟨_, Try.type3⟩
    . exact ⟨_, Try.type3⟩
    . exact ⟨_, Try.type3⟩
    . exact ⟨_, Try.type3⟩
    . exact ⟨_, Try.type3⟩⟩
  eqs := ⟨by kernel_rfl, by kernel_rfl, by intro F hF; rw [Try.underlying69] at hF; cases hF; simp⟩
theorem tok73 : TOk Try.prog 73 ⟨.st [(0, 3), (1, 3), (2, 3), (3, 3), (4, 3)], 5, 40, [.int .i64 0, .int .i64 0, .int .i64 0, .int .i64 0, .int .i64 0]⟩ where
  info := ⟨Try.t73, _, Try.type73, rfl, rfl, rfl, by simp [Value.cells, VRs, VR], by simp [Value.cells, Value.oneCell'], rfl⟩
  kind := ⟨_, Try.underlying73, rfl, by
    intro f hf
    simp only [List.mem_cons, List.not_mem_nil, or_false] at hf
    rcases hf with rfl | rfl | rfl | rfl | rfl
    . exact ⟨_, Try.type3⟩
    . exact ⟨_, Try.type3⟩
    . exact ⟨_, Try.type3⟩
    . exact ⟨_, Try.type3⟩
    . exact ⟨_, Try.type3⟩⟩
  eqs := ⟨by kernel_rfl, by kernel_rfl, by intro F hF; rw [Try.underlying73] at hF; cases hF; simp⟩
theorem tok87 : TOk Try.prog 87 ⟨.st [(0, 3), (1, 3), (2, 3)], 3, 24, [.int .i64 0, .int .i64 0, .int .i64 0]⟩ where
  info := ⟨Try.t87, _, Try.type87, rfl, rfl, rfl, by simp [Value.cells, VRs, VR], by simp [Value.cells, Value.oneCell'], rfl⟩
  kind := ⟨_, Try.underlying87, rfl, by
    intro f hf
    simp only [List.mem_cons, List.not_mem_nil, or_false] at hf
    rcases hf with rfl | rfl | rfl
    . exact ⟨_, Try.type3⟩
    . exact ⟨_, Try.type3⟩
    . exact ⟨_, Try.type3⟩⟩
  eqs := ⟨by kernel_rfl, by kernel_rfl, by intro F hF; rw [Try.underlying87] at hF; cases hF; simp⟩
theorem tok89 : TOk Try.prog 89 ⟨.st [(0, 3), (1, 87)], 4, 32, [.int .i64 0, .int .i64 0, .int .i64 0, .int .i64 0]⟩ where
  info := ⟨Try.t89, _, Try.type89, rfl, rfl, rfl, by simp [Value.cells, VRs, VR], by simp [Value.cells, Value.oneCell'], rfl⟩
  kind := ⟨_, Try.underlying89, rfl, by
    intro f hf
    simp only [List.mem_cons, List.not_mem_nil, or_false] at hf
    rcases hf with rfl | rfl
    . exact ⟨_, Try.type3⟩
    . exact ⟨_, Try.type87⟩⟩
  eqs := ⟨by kernel_rfl, by kernel_rfl, by intro F hF; rw [Try.underlying89] at hF; cases hF; simp⟩
theorem tok113 : TOk Try.prog 113 ⟨.st [(0, 3), (1, 3), (2, 3)], 3, 24, [.int .i64 0, .int .i64 0, .int .i64 0]⟩ where
  info := ⟨Try.t113, _, Try.type113, rfl, rfl, rfl, by simp [Value.cells, VRs, VR], by simp [Value.cells, Value.oneCell'], rfl⟩
  kind := ⟨_, Try.underlying113, rfl, by
    intro f hf
    simp only [List.mem_cons, List.not_mem_nil, or_false] at hf
    rcases hf with rfl | rfl | rfl
    . exact ⟨_, Try.type3⟩
    . exact ⟨_, Try.type3⟩
    . exact ⟨_, Try.type3⟩⟩
  eqs := ⟨by kernel_rfl, by kernel_rfl, by intro F hF; rw [Try.underlying113] at hF; cases hF; simp⟩
theorem tok84 : TOk Try.prog 84 ⟨.ch 89, 1, 8, [.any]⟩ where
  info := ⟨Try.t84, _, Try.type84, rfl, rfl, rfl, by simp [Value.cells, VRs, VR], by simp [Value.cells, Value.oneCell'], rfl⟩
  kind := ⟨_, Try.underlying84⟩
  eqs := trivial
theorem tok109 : TOk Try.prog 109 ⟨.ch 89, 1, 8, [.any]⟩ where
  info := ⟨Try.t109, _, Try.type109, rfl, rfl, rfl, by simp [Value.cells, VRs, VR], by simp [Value.cells, Value.oneCell'], rfl⟩
  kind := ⟨_, Try.underlying109⟩
  eqs := trivial
theorem tok105 : TOk Try.prog 105 ⟨.one, 1, 8, [.nilF]⟩ where
  info := ⟨Try.t105, _, Try.type105, rfl, rfl, rfl, by simp [Value.cells, VRs, VR], by simp [Value.cells, Value.oneCell'], rfl⟩
  kind := ⟨_, Try.underlying105, by simp, by simp⟩
  eqs := trivial
theorem tok107 : TOk Try.prog 107 ⟨.st [(0, 3), (1, 105)], 2, 16, [.int .i64 0, .nilF]⟩ where
  info := ⟨Try.t107, _, Try.type107, rfl, rfl, rfl, by simp [Value.cells, VRs, VR], by simp [Value.cells, Value.oneCell'], rfl⟩
  kind := ⟨_, Try.underlying107, rfl, by
    intro f hf
    simp only [List.mem_cons, List.not_mem_nil, or_false] at hf
    rcases hf with rfl | rfl
    . exact ⟨_, Try.type3⟩
    . exact ⟨_, Try.type105⟩⟩
  eqs := ⟨by kernel_rfl, by kernel_rfl, by intro F hF; rw [Try.underlying107] at hF; cases hF; simp⟩
theorem tok103 : TOk Try.prog 103 ⟨.sl 107, 1, 24, [.nilS]⟩ where
  info := ⟨Try.t103, _, Try.type103, rfl, rfl, rfl, by simp [Value.cells, VRs, VR], by simp [Value.cells, Value.oneCell'], rfl⟩
  kind := Try.underlying103
  eqs := trivial
theorem tok108 : TOk Try.prog 108 ⟨.one, 1, 8, [.nilP]⟩ where
  info := ⟨Try.t108, _, Try.type108, rfl, rfl, rfl, by simp [Value.cells, VRs, VR], by simp [Value.cells, Value.oneCell'], rfl⟩
  kind := ⟨_, Try.underlying108, by simp, by simp⟩
  eqs := trivial
theorem ttOk : TsOk Try.prog tt := by
  intro t i h
  by_cases e121 : t = 121
  . subst e121; rw [tt121] at h; cases h; exact tok121
  by_cases e3 : t = 3
  . subst e3; rw [tt3] at h; cases h; exact tok3
  by_cases e39 : t = 39
  . subst e39; rw [tt39] at h; cases h; exact tok39
  by_cases e4 : t = 4
  . subst e4; rw [tt4] at h; cases h; exact tok4
  by_cases e22 : t = 22
  . subst e22; rw [tt22] at h; cases h; exact tok22
  by_cases e23 : t = 23
  . subst e23; rw [tt23] at h; cases h; exact tok23
  by_cases e24 : t = 24
  . subst e24; rw [tt24] at h; cases h; exact tok24
  by_cases e32 : t = 32
  . subst e32; rw [tt32] at h; cases h; exact tok32
  by_cases e36 : t = 36
  . subst e36; rw [tt36] at h; cases h; exact tok36
  by_cases e28 : t = 28
  . subst e28; rw [tt28] at h; cases h; exact tok28
  by_cases e29 : t = 29
  . subst e29; rw [tt29] at h; cases h; exact tok29
  by_cases e51 : t = 51
  . subst e51; rw [tt51] at h; cases h; exact tok51
  by_cases e55 : t = 55
  . subst e55; rw [tt55] at h; cases h; exact tok55
  by_cases e63 : t = 63
  . subst e63; rw [tt63] at h; cases h; exact tok63
  by_cases e64 : t = 64
  . subst e64; rw [tt64] at h; cases h; exact tok64
  by_cases e110 : t = 110
  . subst e110; rw [tt110] at h; cases h; exact tok110
  by_cases e111 : t = 111
  . subst e111; rw [tt111] at h; cases h; exact tok111
  by_cases e99 : t = 99
  . subst e99; rw [tt99] at h; cases h; exact tok99
  by_cases e102 : t = 102
  . subst e102; rw [tt102] at h; cases h; exact tok102
  by_cases e26 : t = 26
  . subst e26; rw [tt26] at h; cases h; exact tok26
  by_cases e27 : t = 27
  . subst e27; rw [tt27] at h; cases h; exact tok27
  by_cases e93 : t = 93
  . subst e93; rw [tt93] at h; cases h; exact tok93
  by_cases e90 : t = 90
  . subst e90; rw [tt90] at h; cases h; exact tok90
  by_cases e118 : t = 118
  . subst e118; rw [tt118] at h; cases h; exact tok118
  by_cases e31 : t = 31
  . subst e31; rw [tt31] at h; cases h; exact tok31
  by_cases e53 : t = 53
  . subst e53; rw [tt53] at h; cases h; exact tok53
  by_cases e58 : t = 58
  . subst e58; rw [tt58] at h; cases h; exact tok58
  by_cases e60 : t = 60
  . subst e60; rw [tt60] at h; cases h; exact tok60
  by_cases e69 : t = 69
  . subst e69; rw [tt69] at h; cases h; exact tok69
  by_cases e73 : t = 73
  . subst e73; rw [tt73] at h; cases h; exact tok73
  by_cases e87 : t = 87
  . subst e87; rw [tt87] at h; cases h; exact tok87
  by_cases e89 : t = 89
  . subst e89; rw [tt89] at h; cases h; exact tok89
  by_cases e113 : t = 113
  . subst e113; rw [tt113] at h; cases h; exact tok113
  by_cases e84 : t = 84
  . subst e84; rw [tt84] at h; cases h; exact tok84
  by_cases e109 : t = 109
  . subst e109; rw [tt109] at h; cases h; exact tok109
  by_cases e105 : t = 105
  . subst e105; rw [tt105] at h; cases h; exact tok105
  by_cases e107 : t = 107
  . subst e107; rw [tt107] at h; cases h; exact tok107
  by_cases e103 : t = 103
  . subst e103; rw [tt103] at h; cases h; exact tok103
  by_cases e108 : t = 108
  . subst e108; rw [tt108] at h; cases h; exact tok108
  exfalso
  unfold tt at h
  rw [if_neg e121, if_neg e3, if_neg e39, if_neg e4, if_neg e22, if_neg e23, if_neg e24, if_neg e32, if_neg e36, if_neg e28, if_neg e29, if_neg e51, if_neg e55, if_neg e63, if_neg e64, if_neg e110, if_neg e111, if_neg e99, if_neg e102, if_neg e26, if_neg e27, if_neg e93, if_neg e90, if_neg e118, if_neg e31, if_neg e53, if_neg e58, if_neg e60, if_neg e69, if_neg e73, if_neg e87, if_neg e89, if_neg e113, if_neg e84, if_neg e109, if_neg e105, if_neg e107, if_neg e103, if_neg e108] at h
  cases h
theorem ttMix : Try.prog.follows .mixedOrders = true := by kernel_rfl
def eV4 (v : Vector Int 4) : List AV := zYy zYx v.toList
theorem encV4 : Enc (fun _ => eV4) 4 where
  wd _ a := zX a
  cv k h fl a := encL_cv zZw k h fl a.toList
  ci k h a := encL_ci zZw k h a.toList
  co k h a := encL_co zZw k h a.toList
  sl fl a := encL_sl zZw fl a.toList
  cl fl a := encL_cl zZw fl a.toList
def eV6 (v : Vector Int 6) : List AV := zYy zYx v.toList
theorem encV6 : Enc (fun _ => eV6) 6 where
  wd _ a := zX a
  cv k h fl a := encL_cv zZw k h fl a.toList
  ci k h a := encL_ci zZw k h a.toList
  co k h a := encL_co zZw k h a.toList
  sl fl a := encL_sl zZw fl a.toList
  cl fl a := encL_cl zZw fl a.toList
structure Ld where
  st : Int
  tm : Int
instance : Inhabited Ld := ⟨⟨0, 0⟩⟩
def e60 (c : Ld) : List AV := [.int .i64 c.st, .int .i64 c.tm]
theorem enc60 : Enc (fun _ => e60) 2 where
  wd _ _ := rfl
  cv _ _ _ _ := Wks.cons (zZz _ _ _ _) (Wks.cons (zZz _ _ _ _) (Wks.refl _))
  ci _ _ _ := Wks.cons (agI_int _ _ _ _) (Wks.cons (agI_int _ _ _ _) (Wks.refl _))
  co _ _ _ := Wks.cons (zY _ _ _ _) (Wks.cons (zY _ _ _ _) (Wks.refl _))
  sl fl _ := SealVs.cons (SealV.int _ _ _) (SealVs.cons (SealV.int _ _ _) (SealVs.nil fl))
  cl _ _ x hx := by
    simp only [e60, List.mem_cons, List.not_mem_nil, or_false] at hx
    rcases hx with rfl | rfl <;> rfl
instance : DecidableEq Ld := fun x y => decidable_of_iff (x.st = y.st /\ x.tm = y.tm) (by cases x; cases y; simp)
structure Job where
  ar : Int
  wk : (List Ld)
instance : Inhabited Job := ⟨⟨0, []⟩⟩
def e53 (fl : Bool) (c : Job) : List AV := [.int .i64 c.ar, .lst fl c.wk.length (zYy e60 c.wk)]
theorem enc53 : Enc e53 2 where
  wd _ _ := rfl
  cv _ _ _ _ := Wks.cons (zZz _ _ _ _) (Wks.cons (zZs _ _ _ _ _) (Wks.refl _))
  ci _ _ _ := Wks.cons (agI_int _ _ _ _) (Wks.cons (agI_lst _ _ _ _) (Wks.refl _))
  co _ _ _ := Wks.cons (zY _ _ _ _) (Wks.cons (rs_lst _ _ _ _) (Wks.refl _))
  sl fl _ := SealVs.cons (SealV.int _ _ _) (SealVs.cons (SealV.lst _ _ _) (SealVs.nil fl))
  cl _ _ x hx := by
    simp only [e53, List.mem_cons, List.not_mem_nil, or_false] at hx
    rcases hx with rfl | rfl <;> rfl
structure Ext where
  jb : Int
  pc : Int
  ca : Int
  ba : Int
  op : Int
  ver : Int
instance : Inhabited Ext := ⟨⟨0, 0, 0, 0, 0, 0⟩⟩
def e58 (c : Ext) : List AV := [.int .i64 c.jb, .int .i64 c.pc, .int .i64 c.ca, .int .i64 c.ba, .int .i64 c.op, .int .i64 c.ver]
theorem enc58 : Enc (fun _ => e58) 6 where
  wd _ _ := rfl
  cv _ _ _ _ := Wks.cons (zZz _ _ _ _) (Wks.cons (zZz _ _ _ _) (Wks.cons (zZz _ _ _ _) (Wks.cons (zZz _ _ _ _) (Wks.cons (zZz _ _ _ _) (Wks.cons (zZz _ _ _ _) (Wks.refl _))))))
  ci _ _ _ := Wks.cons (agI_int _ _ _ _) (Wks.cons (agI_int _ _ _ _) (Wks.cons (agI_int _ _ _ _) (Wks.cons (agI_int _ _ _ _) (Wks.cons (agI_int _ _ _ _) (Wks.cons (agI_int _ _ _ _) (Wks.refl _))))))
  co _ _ _ := Wks.cons (zY _ _ _ _) (Wks.cons (zY _ _ _ _) (Wks.cons (zY _ _ _ _) (Wks.cons (zY _ _ _ _) (Wks.cons (zY _ _ _ _) (Wks.cons (zY _ _ _ _) (Wks.refl _))))))
  sl fl _ := SealVs.cons (SealV.int _ _ _) (SealVs.cons (SealV.int _ _ _) (SealVs.cons (SealV.int _ _ _) (SealVs.cons (SealV.int _ _ _) (SealVs.cons (SealV.int _ _ _) (SealVs.cons (SealV.int _ _ _) (SealVs.nil fl))))))
  cl _ _ x hx := by
    simp only [e58, List.mem_cons, List.not_mem_nil, or_false] at hx
    rcases hx with rfl | rfl | rfl | rfl | rfl | rfl <;> rfl
instance : DecidableEq Ext := fun x y => decidable_of_iff (x.jb = y.jb /\ x.pc = y.pc /\ x.ca = y.ca /\ x.ba = y.ba /\ x.op = y.op /\ x.ver = y.ver) (by cases x; cases y; simp)
structure A3 where
  x0 : Int
  x1 : Int
  x2 : Int
instance : Inhabited A3 := ⟨⟨0, 0, 0⟩⟩
def e27 (c : A3) : List AV := [.int .i64 c.x0, .int .i64 c.x1, .int .i64 c.x2]
theorem enc27 : Enc (fun _ => e27) 3 where
  wd _ _ := rfl
  cv _ _ _ _ := Wks.cons (zZz _ _ _ _) (Wks.cons (zZz _ _ _ _) (Wks.cons (zZz _ _ _ _) (Wks.refl _)))
  ci _ _ _ := Wks.cons (agI_int _ _ _ _) (Wks.cons (agI_int _ _ _ _) (Wks.cons (agI_int _ _ _ _) (Wks.refl _)))
  co _ _ _ := Wks.cons (zY _ _ _ _) (Wks.cons (zY _ _ _ _) (Wks.cons (zY _ _ _ _) (Wks.refl _)))
  sl fl _ := SealVs.cons (SealV.int _ _ _) (SealVs.cons (SealV.int _ _ _) (SealVs.cons (SealV.int _ _ _) (SealVs.nil fl)))
  cl _ _ x hx := by
    simp only [e27, List.mem_cons, List.not_mem_nil, or_false] at hx
    rcases hx with rfl | rfl | rfl <;> rfl
structure Req where
  sv : (List Int)
  jobs : (List Job)
  late : Int
  obj : Int
  causes : Int
  ex : (List Ext)
instance : Inhabited Req := ⟨⟨[], [], 0, 0, 0, []⟩⟩
def e26 (fl : Bool) (c : Req) : List AV := [.lst fl c.sv.length (zYy zYx c.sv), .lst fl c.jobs.length (zYy (e53 true) c.jobs), .int .i64 c.late, .int .i64 c.obj, .int .i64 c.causes, .lst fl c.ex.length (zYy e58 c.ex)]
theorem enc26 : Enc e26 6 where
  wd _ _ := rfl
  cv _ _ _ _ := Wks.cons (zZs _ _ _ _ _) (Wks.cons (zZs _ _ _ _ _) (Wks.cons (zZz _ _ _ _) (Wks.cons (zZz _ _ _ _) (Wks.cons (zZz _ _ _ _) (Wks.cons (zZs _ _ _ _ _) (Wks.refl _))))))
  ci _ _ _ := Wks.cons (agI_lst _ _ _ _) (Wks.cons (agI_lst _ _ _ _) (Wks.cons (agI_int _ _ _ _) (Wks.cons (agI_int _ _ _ _) (Wks.cons (agI_int _ _ _ _) (Wks.cons (agI_lst _ _ _ _) (Wks.refl _))))))
  co _ _ _ := Wks.cons (rs_lst _ _ _ _) (Wks.cons (rs_lst _ _ _ _) (Wks.cons (zY _ _ _ _) (Wks.cons (zY _ _ _ _) (Wks.cons (zY _ _ _ _) (Wks.cons (rs_lst _ _ _ _) (Wks.refl _))))))
  sl fl _ := SealVs.cons (SealV.lst _ _ _) (SealVs.cons (SealV.lst _ _ _) (SealVs.cons (SealV.int _ _ _) (SealVs.cons (SealV.int _ _ _) (SealVs.cons (SealV.int _ _ _) (SealVs.cons (SealV.lst _ _ _) (SealVs.nil fl))))))
  cl _ _ x hx := by
    simp only [e26, List.mem_cons, List.not_mem_nil, or_false] at hx
    rcases hx with rfl | rfl | rfl | rfl | rfl | rfl <;> rfl
structure Cas where
  sv : A3
  jobs : (List (Vector Int 6))
  ex : (List A3)
  late : Int
  obj : Int
instance : Inhabited Cas := ⟨⟨default, [], [], 0, 0⟩⟩
def e31 (fl : Bool) (c : Cas) : List AV := [.int .i64 c.sv.x0, .int .i64 c.sv.x1, .int .i64 c.sv.x2, .lst fl c.jobs.length (zYy eV6 c.jobs), .lst fl c.ex.length (zYy e27 c.ex), .int .i64 c.late, .int .i64 c.obj]
structure Fct where
  tr : Int
  sp : Int
  se : Int
  ver : Int
  op : Int
  pe : Int
  da : Int
  lo : Int
  hi : Int
  by_ : Int
instance : Inhabited Fct := ⟨⟨0, 0, 0, 0, 0, 0, 0, 0, 0, 0⟩⟩
def e69 (c : Fct) : List AV := [.int .i64 c.tr, .int .i64 c.sp, .int .i64 c.se, .int .i64 c.ver, .int .i64 c.op, .int .i64 c.pe, .int .i64 c.da, .int .i64 c.lo, .int .i64 c.hi, .int .i64 c.by_]
instance : DecidableEq Fct := fun x y => decidable_of_iff (x.tr = y.tr /\ x.sp = y.sp /\ x.se = y.se /\ x.ver = y.ver /\ x.op = y.op /\ x.pe = y.pe /\ x.da = y.da /\ x.lo = y.lo /\ x.hi = y.hi /\ x.by_ = y.by_) (by cases x; cases y; simp)
structure Rg where
  op : Int
  ver : Int
  nu : Int
  le : Int
  mo : Int
instance : Inhabited Rg := ⟨⟨0, 0, 0, 0, 0⟩⟩
def e73 (c : Rg) : List AV := [.int .i64 c.op, .int .i64 c.ver, .int .i64 c.nu, .int .i64 c.le, .int .i64 c.mo]
theorem enc73 : Enc (fun _ => e73) 5 where
  wd _ _ := rfl
  cv _ _ _ _ := Wks.cons (zZz _ _ _ _) (Wks.cons (zZz _ _ _ _) (Wks.cons (zZz _ _ _ _) (Wks.cons (zZz _ _ _ _) (Wks.cons (zZz _ _ _ _) (Wks.refl _)))))
  ci _ _ _ := Wks.cons (agI_int _ _ _ _) (Wks.cons (agI_int _ _ _ _) (Wks.cons (agI_int _ _ _ _) (Wks.cons (agI_int _ _ _ _) (Wks.cons (agI_int _ _ _ _) (Wks.refl _)))))
  co _ _ _ := Wks.cons (zY _ _ _ _) (Wks.cons (zY _ _ _ _) (Wks.cons (zY _ _ _ _) (Wks.cons (zY _ _ _ _) (Wks.cons (zY _ _ _ _) (Wks.refl _)))))
  sl fl _ := SealVs.cons (SealV.int _ _ _) (SealVs.cons (SealV.int _ _ _) (SealVs.cons (SealV.int _ _ _) (SealVs.cons (SealV.int _ _ _) (SealVs.cons (SealV.int _ _ _) (SealVs.nil fl)))))
  cl _ _ x hx := by
    simp only [e73, List.mem_cons, List.not_mem_nil, or_false] at hx
    rcases hx with rfl | rfl | rfl | rfl | rfl <;> rfl
instance : DecidableEq Rg := fun x y => decidable_of_iff (x.op = y.op /\ x.ver = y.ver /\ x.nu = y.nu /\ x.le = y.le /\ x.mo = y.mo) (by cases x; cases y; simp)
structure Vis where
  rd : Int
  st : Int
  en : Int
instance : Inhabited Vis := ⟨⟨0, 0, 0⟩⟩
def e87 (c : Vis) : List AV := [.int .i64 c.rd, .int .i64 c.st, .int .i64 c.en]
instance : DecidableEq Vis := fun x y => decidable_of_iff (x.rd = y.rd /\ x.st = y.st /\ x.en = y.en) (by cases x; cases y; simp)
structure Dn where
  j : Int
  v : Vis
instance : Inhabited Dn := ⟨⟨0, default⟩⟩
def e89 (c : Dn) : List AV := [.int .i64 c.j, .int .i64 c.v.rd, .int .i64 c.v.st, .int .i64 c.v.en]
structure Sta where
  dn : Int
  al : Int
  rd : Int
instance : Inhabited Sta := ⟨⟨0, 0, 0⟩⟩
def e113 (c : Sta) : List AV := [.int .i64 c.dn, .int .i64 c.al, .int .i64 c.rd]
theorem enc113 : Enc (fun _ => e113) 3 where
  wd _ _ := rfl
  cv _ _ _ _ := Wks.cons (zZz _ _ _ _) (Wks.cons (zZz _ _ _ _) (Wks.cons (zZz _ _ _ _) (Wks.refl _)))
  ci _ _ _ := Wks.cons (agI_int _ _ _ _) (Wks.cons (agI_int _ _ _ _) (Wks.cons (agI_int _ _ _ _) (Wks.refl _)))
  co _ _ _ := Wks.cons (zY _ _ _ _) (Wks.cons (zY _ _ _ _) (Wks.cons (zY _ _ _ _) (Wks.refl _)))
  sl fl _ := SealVs.cons (SealV.int _ _ _) (SealVs.cons (SealV.int _ _ _) (SealVs.cons (SealV.int _ _ _) (SealVs.nil fl)))
  cl _ _ x hx := by
    simp only [e113, List.mem_cons, List.not_mem_nil, or_false] at hx
    rcases hx with rfl | rfl | rfl <;> rfl
instance : DecidableEq Sta := fun x y => decidable_of_iff (x.dn = y.dn /\ x.al = y.al /\ x.rd = y.rd) (by cases x; cases y; simp)
end Go.Lat
namespace Go.Lat
open Go.RowKit
section
variable {P : Program} {T : TT} {ops rest : List Oper} {ty : TypeId} {pos : String} {af : Array Edge} {j n d : Nat} {l : List (Nat × AV)} {h : List AObj} {b : Nat} {KS : St -> Prop} {x : Operand}
theorem mI {k : IntKind} {z : Int} (hd : Nat.ble (d + 1) n = true) (e : St.eval ⟨n, look l, h, b⟩ x = .int k z) (h1 : seqL P T ops [] (j + 1) rest ⟨n, look ((d, .int k z) :: l), h, b⟩ KS) : seqL P T ops [] j (⟨some d, .move x, ty, pos, af, none⟩ :: rest) ⟨n, look l, h, b⟩ KS := cL hd (zZp e h1)
theorem mB {z : Bool} (hd : Nat.ble (d + 1) n = true) (e : St.eval ⟨n, look l, h, b⟩ x = .bool z) (h1 : seqL P T ops [] (j + 1) rest ⟨n, look ((d, .bool z) :: l), h, b⟩ KS) : seqL P T ops [] j (⟨some d, .move x, ty, pos, af, none⟩ :: rest) ⟨n, look l, h, b⟩ KS := cL hd (zZp e h1)
theorem mL {f : Bool} {k : Nat} {z : List AV} (hd : Nat.ble (d + 1) n = true) (e : St.eval ⟨n, look l, h, b⟩ x = .lst f k z) (h1 : seqL P T ops [] (j + 1) rest ⟨n, look ((d, .lst f k z) :: l), h, b⟩ KS) : seqL P T ops [] j (⟨some d, .move x, ty, pos, af, none⟩ :: rest) ⟨n, look l, h, b⟩ KS := cL hd (zZp e h1)
theorem aI {k : IntKind} {z : Int} (hd : Nat.ble (d + 1) n = true) (e : St.eval ⟨n, look l, h, b⟩ x = .int k z) (h1 : seqL P T ops [] (j + 1) rest ⟨n, look ((d, .int k z) :: l), h, b⟩ KS) : seqL P T ops [] j (⟨some d, .assign x, ty, pos, af, none⟩ :: rest) ⟨n, look l, h, b⟩ KS := cL hd (zZq e h1)
theorem aB {z : Bool} (hd : Nat.ble (d + 1) n = true) (e : St.eval ⟨n, look l, h, b⟩ x = .bool z) (h1 : seqL P T ops [] (j + 1) rest ⟨n, look ((d, .bool z) :: l), h, b⟩ KS) : seqL P T ops [] j (⟨some d, .assign x, ty, pos, af, none⟩ :: rest) ⟨n, look l, h, b⟩ KS := cL hd (zZq e h1)
theorem aL {f : Bool} {k : Nat} {z : List AV} (hd : Nat.ble (d + 1) n = true) (e : St.eval ⟨n, look l, h, b⟩ x = .lst f k z) (h1 : seqL P T ops [] (j + 1) rest ⟨n, look ((d, .lst f k z) :: l), h, b⟩ KS) : seqL P T ops [] j (⟨some d, .assign x, ty, pos, af, none⟩ :: rest) ⟨n, look l, h, b⟩ KS := cL hd (zZq e h1)
end
end Go.Lat
namespace Go.Lat
open Go.RowKit

section
variable {X : Nat -> Prop} {D : List Deferred × Rho} {w0 : World} {mA : Mem} {r : Rho} {m : MM} {st : St} {a : Act} {w w' : World} {b : Nat} {rec : Loop}
theorem cell_ne {p : Addr} {v : Value} (hb : w.heap[b]? = some (.loop rec)) (hv : w.cell? p = some v) : p.block ≠ b := fun e => by
  unfold World.cell? at hv
  rw [e, hb] at hv
  simp at hv
theorem R.put_gen (h : R X D w0 mA r m st a w) (hb : w.heap[b]? = some (.loop rec)) (o : Obj) {w0' : World} (e1 : w0'.os = w0.os) (e2 : w0'.tape = w0.tape) (e3 : w0'.output = w0.output) (e4 : w0'.heap.size = w0.heap.size)
    (hold : ∀ k, k < w0'.heap.size -> ¬ X k -> (w.putObj b o).heap[k]? = w0'.heap[k]?) : R X D w0' mA r m st a (w.putObj b o) := by
  have ne : ∀ k, k ≠ b -> (w.putObj b o).heap[k]? = w.heap[k]? := fun k hk => World.putObj_heap_other hk
  refine { os := h.os.trans e1.symm, tape := h.tape.trans e2.symm, output := h.output.trans e3.symm, size := (by rw [World.putObj_size, e4]; exact h.size), old := hold, len := h.len, lt := fun i ob c d ho hl hr => (by rw [World.putObj_size]; exact h.lt i ob c d ho hl hr), mem := fun p v hv => ?_, low := h.low, newer := fun p v hv => (by rw [e4]; exact h.newer p v hv), lim := fun p v hv => (by rw [e4]; exact h.lim p v hv), apart := h.apart, obj := fun i ob ho => ?_, own := fun i ob c d ho hl hr => (by rw [e4]; exact h.own i ob c d ho hl hr), inj := h.inj, size' := h.size', tmps := h.tmps, defers := h.defers, base := h.base, short := h.short, nox := h.nox, marks := fun d hd => ?_, mnod := h.mnod }
  . obtain ⟨h1, h2⟩ := h.mem p v hv
    exact ⟨(World.cell?_of_block (ne _ (cell_ne hb h1))).trans h1, by rw [World.putObj_size]; exact h2⟩
  . refine (h.obj i ob ho).same fun k c hr hl => ne k ?_
    rintro rfl
    obtain ⟨x, e5, _, e6⟩ := (h.obj i ob ho).cells hl hr
    rw [hb] at e5; cases e5; exact e6 _ rfl
  . obtain ⟨k, f1, f0, f2⟩ := h.marks d hd
    refine ⟨k, f1, by rw [e4]; exact f0, (ne k ?_).trans f2⟩
    rintro rfl
    rw [hb] at f2; cases f2
theorem R.putL (h : R X D w0 mA r m st a w) (hb : w.heap[b]? = some (.loop rec)) (hb0 : w0.heap.size <= b) (o : Obj) : R X D w0 mA r m st a (w.putObj b o) :=
  h.put_gen hb o rfl rfl rfl rfl fun k hk hX => (World.putObj_heap_other (by omega)).trans (h.old k hk hX)
theorem R.putB (h : R X D w0 mA r m st a w) (hb : w.heap[b]? = some (.loop rec)) (hb0 : b < w0.heap.size) (o : Obj) : R X D (w0.putObj b o) mA r m st a (w.putObj b o) :=
  h.put_gen hb o rfl rfl rfl World.putObj_size fun k hk hX => by
    rw [World.putObj_size] at hk
    by_cases e : k = b
    . subst e
      rw [World.putObj_heap_same (Array.getElem?_eq_some_iff.1 hb).1, World.putObj_heap_same hb0]
    . rw [World.putObj_heap_other e, World.putObj_heap_other e]; exact h.old k hk hX

mutual
def noF : AV -> Bool
  | .lst fl _ _ => fl
  | .ipt fl _ => fl
  | .agg cs => noFs cs
  | .tup cs => noFs cs
  | .clo _ a b => noFs a && noFs b
  | _ => true
def noFs : List AV -> Bool
  | [] => true
  | x :: l => noF x && noFs l
end
def tru (m : Mem) : MM := fun b => if b then m else fun _ => none
mutual
theorem VR.tru {r : Rho} {m : MM} {m' : Mem} (hm : ∀ p v, m true p = some v -> m' p = some v) : ∀ (x : AV) (v : Value), noF x = true -> VR r m x v -> VR r (Lat.tru m') x v
  | .int _ _, _, _, h => by simpa only [VR] using h
  | .bool _, _, _, h => by simpa only [VR] using h
  | .agg cs, v, hn, h => by
    simp only [VR] at h ⊢
    obtain ⟨arr, h1, h0, h2⟩ := h
    exact ⟨arr, h1, h0, VRs.tru hm cs _ hn h2⟩
  | .tup cs, v, hn, h => by
    simp only [VR] at h ⊢
    obtain ⟨arr, h1, h2⟩ := h
    exact ⟨arr, h1, VRs.tru hm cs _ hn h2⟩
  | .nilS, _, _, h => by simpa only [VR] using h
  | .nilP, _, _, h => by simpa only [VR] using h
  | .nilF, _, _, h => by simpa only [VR] using h
  | .ref _ _ _, _, _, h => by simpa only [VR] using h
  | .sub _ _ _, _, _, h => by simpa only [VR] using h
  | .ptr _ _, _, _, h => by simpa only [VR] using h
  | .yl _, _, _, h => by simpa only [VR] using h
  | .gh _, _, _, _ => by simp only [VR]
  | .chn _, _, _, h => by simpa only [VR] using h
  | .any, _, _, _ => by simp only [VR]
  | .clo f a b, v, hn, h => by
    simp only [VR] at h ⊢
    simp only [noF, Bool.and_eq_true] at hn
    obtain ⟨x, y, h1, h2, h3⟩ := h
    exact ⟨x, y, h1, VRs.tru hm a _ hn.1 h2, VRs.tru hm b _ hn.2 h3⟩
  | .lst fl n cs, v, hn, h => by
    simp only [noF] at hn
    subst hn
    simp only [VR] at h ⊢
    rcases h with h | ⟨p, cap, vs, h1, h2, h3, h4⟩
    . exact .inl h
    . exact .inr ⟨p, cap, vs, h1, h2, fun i u hu => ⟨hm _ _ (h3 i u hu).1, (h3 i u hu).2⟩, h4.mono (RLe.refl []) (fun b q u hu => by cases b with | true => exact hm _ _ hu | false => cases hu)⟩
  | .ipt fl cs, v, hn, h => by
    simp only [noF] at hn
    subst hn
    simp only [VR] at h ⊢
    obtain ⟨p, vs, h2, h3, h4⟩ := h
    exact ⟨p, vs, h2, fun i u hu => ⟨hm _ _ (h3 i u hu).1, (h3 i u hu).2⟩, h4.mono (RLe.refl []) (fun b q u hu => by cases b with | true => exact hm _ _ hu | false => cases hu)⟩
theorem VRs.tru {r : Rho} {m : MM} {m' : Mem} (hm : ∀ p v, m true p = some v -> m' p = some v) : ∀ (xs : List AV) (vs : List Value), noFs xs = true -> VRs r m xs vs -> VRs r (Lat.tru m') xs vs
  | [], _, _, h => by simpa only [VRs] using h
  | x :: xs, vs, hn, h => by
    simp only [VRs] at h ⊢
    simp only [noFs, Bool.and_eq_true] at hn
    obtain ⟨v, vs', h1, h2, h3⟩ := h
    exact ⟨v, vs', h1, VR.tru hm x v hn.1 h2, VRs.tru hm xs vs' hn.2 h3⟩
end
def noFO : AObj -> Bool
  | .row _ _ cs => noFs cs
  | .box _ cs => noFs cs
  | .chan _ _ buf => noFs buf
  | .dead => true
theorem OR.tru {i : Nat} {o : AObj} {m' : Mem} (hm : ∀ p v, m true p = some v -> m' p = some v) (hn : noFO o = true) (h : OR r m w i o) : OR r (Lat.tru m') w i o := by
  cases o with
  | row t sz cs =>
    rcases h with h | ⟨b, c, cur, h1, h2, h0, h3, h4, h5, h6⟩
    . exact .inl h
    . exact .inr ⟨b, c, cur, h1, h2, h0, h3, h4, h5, h6.tru hm cs _ hn⟩
  | box t cs =>
    obtain ⟨b, c, cur, h1, h2, h0, h3⟩ := h
    exact ⟨b, c, cur, h1, h2, h0, h3.tru hm cs _ hn⟩
  | chan cap cl buf =>
    obtain ⟨b, c, bv, s, rc, h1, h2, h3⟩ := h
    exact ⟨b, c, bv, s, rc, h1, h2, h3.tru hm buf _ hn⟩
  | dead => trivial

def stabV (q : Nat) : AV -> Bool
  | .int _ _ | .bool _ | .nilS | .nilP | .nilF | .any => true
  | .ptr id _ => Nat.blt id q
  | _ => false
def stabL (q : Nat) : List (Nat × AV) -> Bool
  | [] => true
  | (_, v) :: l => stabV q v && stabL q l
theorem stabL_look {q : Nat} : ∀ {l : List (Nat × AV)}, stabL q l = true -> ∀ t, stabV q (look l t) = true
  | [], _, t => rfl
  | (k, v) :: l, h, t => by
    simp only [stabL, Bool.and_eq_true] at h
    rw [look_cons]
    split
    . exact h.1
    . exact stabL_look h.2 t
theorem stab_VR {q : Nat} {x : AV} {v : Value} {r r' : Rho} {m m' : MM} (hs : stabV q x = true) (hr : RLe (r.take q) r') (h : VR r m x v) : VR r' m' x v := by
  cases x <;> simp only [stabV] at hs <;> try (cases hs; done)
  all_goals simp only [VR] at h ⊢ <;> try exact h
  rename_i id off
  obtain ⟨b, c, h1, h2⟩ := h
  refine ⟨b, c, hr id _ ?_, h2⟩
  have hlt : id < q := Nat.le_of_ble_eq_true hs
  rw [List.getElem?_take_of_lt hlt]; exact h1
def ownX (X : Nat -> Prop) (r : Rho) (h : List AObj) : Nat -> Prop := fun k => X k \/ ∃ (i : Nat) (o : AObj) (c : Nat), h[i]? = some o /\ o.live = true /\ r[i]? = some (k, c)
def CapOk (w0 : World) (mA mC : Mem) (r : Rho) (H : List AObj) (w : World) : Prop :=
  ∀ p v, mC p = some v -> w.cell? p = some v /\ p.block < w.heap.size /\ (∀ (i : Nat) (o : AObj) (b c : Nat), H[i]? = some o -> o.live = true -> r[i]? = some (b, c) -> p.block ≠ b) /\ (mA p = some v \/ w0.heap.size <= p.block)
theorem R.round_in {n q p : Nat} {l0 : List (Nat × AV)} {H : List AObj} (h : R X D w0 mA r m ⟨n, look l0, H, 0⟩ a w) (hq : 0 < q) (hs : stabL q l0 = true) (hH : ∀ o ∈ H, noFO o = true) (hp : p < n) {x : AV} {v : Value} {m' : Mem} (hx : noF x = true)
    (hm' : CapOk w0 mA m' r H w) (hv : VR [] (nest m') x v) :
    ∃ m2 : Mem, (∀ p u, m2 p = some u -> m true p = some u \/ m' p = some u) /\ R (ownX X r H) ([], r.take q) w m2 r (tru m2) ⟨n, look ((p, x) :: l0), H, q⟩ { tmps := a.tmps.setIfInBounds p v, defers := [] } w := by
  let m2 : Mem := fun p => match m true p with | some v => some v | none => m' p
  have e1 : ∀ p u, m2 p = some u -> m true p = some u \/ m' p = some u := by
    intro p u hu
    change (match m true p with | some v => some v | none => m' p) = some u at hu
    split at hu
    . rename_i v hv; cases hu; exact .inl hv
    . exact .inr hu
  have e2 : ∀ p v, m true p = some v -> m2 p = some v := fun p v hv => by
    show (match m true p with | some v => some v | none => m' p) = some v
    rw [hv]
  have e3 : ∀ p u, m' p = some u -> m2 p = some u := fun p u hu => by
    show (match m true p with | some v => some v | none => m' p) = some u
    split
    . rename_i v hv; rw [<- (hm' p u hu).1, (h.mem p v hv).1]
    . exact hu
  refine ⟨m2, e1, { os := rfl, tape := rfl, output := rfl, size := Nat.le_refl _, old := fun _ _ _ => rfl, len := h.len, lt := h.lt, mem := fun p u hu => ?_, low := fun p u hu => (by cases hu), newer := fun p u hu => (by cases hu), lim := fun p u hu => .inl hu, apart := fun p u hu i o b c ho hl hr => ?_, obj := fun i o ho => (h.obj i o ho).tru e2 (hH o (List.mem_of_getElem? ho)), own := fun i o b c ho hl hr => .inr (.inr ⟨i, o, c, ho, hl, hr⟩), inj := h.inj, size' := (by simpa using h.size'), tmps := fun t => ?_, defers := rfl, base := fun i y hy => ?_, short := (by simp; omega), nox := fun h0 => ?_, marks := fun d hd => (by cases hd), mnod := List.nodup_nil }⟩
  . rcases e1 p u hu with h1 | h1
    . exact h.mem p u h1
    . exact ⟨(hm' p u h1).1, (hm' p u h1).2.1⟩
  . rcases e1 p u hu with h1 | h1
    . exact h.apart p u h1 i o b c ho hl hr
    . exact (hm' p u h1).2.2.1 i o b c ho hl hr
  . show VR r (tru m2) (look ((p, x) :: l0) t) _
    rw [look_cons]
    have hsz : a.tmps.size = n := h.size'
    split
    . rename_i e
      subst e
      have : (a.tmps.setIfInBounds t v).getD t undef = v := by simp [hsz, hp]
      rw [this]
      refine (hv.tru (m' := m2) (fun p u hu => e3 p u hu) x v hx).mono (RLe.nil r) (MLe.refl _)
    . rename_i e
      have h1 := h.tmps t
      have h2 : (a.tmps.setIfInBounds p v).getD t undef = a.tmps.getD t undef := by simp [Array.getElem?_setIfInBounds, Ne.symm e]
      rw [h2]
      exact stab_VR (q := q) (stabL_look hs t) (fun i y hy => by
        rw [List.getElem?_take] at hy
        split at hy
        . exact hy
        . cases hy) h1
  . rw [List.getElem?_take] at hy
    split at hy
    . exact hy
    . cases hy
  . have : q = 0 := h0
    omega
theorem R.round_out {n q : Nat} {l0 : List (Nat × AV)} {H H' : List AObj} {r' : Rho} {m' : MM} {m2 : Mem} {tm' : Nat -> AV} {a' : Act} {ms : List Deferred} (h : R X D w0 mA r m ⟨n, look l0, H, 0⟩ a w) (hs : stabL q l0 = true)
    (h2 : ∀ p u, m2 p = some u -> m true p = some u \/ (mA p = some u \/ w0.heap.size <= p.block))
    (h' : R (ownX X r H) (ms, r.take q) w m2 r' m' ⟨n, tm', H', q⟩ a' w') : R X D w0 mA r' m' ⟨n, look l0, H', 0⟩ a w' := by
  have nx := h.nox rfl
  have keep : ∀ k, k < w.heap.size -> ¬ X k -> (∀ (i : Nat) (o : AObj) (c : Nat), H[i]? = some o -> o.live = true -> ¬ r[i]? = some (k, c)) -> w'.heap[k]? = w.heap[k]? := fun k hk hX hn => h'.old k hk fun hx => by
    rcases hx with hx | ⟨i, o, c, ho, hl, hr⟩
    . exact hX hx
    . exact hn i o c ho hl hr
  refine { os := h'.os.trans h.os, tape := h'.tape.trans h.tape, output := h'.output.trans h.output, size := Nat.le_trans h.size h'.size, old := fun k hk hX => ?_, len := h'.len, lt := h'.lt, mem := h'.mem, low := h'.low, newer := fun p v hv => Nat.le_trans h.size (h'.newer p v hv), lim := fun p v hv => ?_, apart := h'.apart, obj := h'.obj, own := fun i o b c ho hl hr => ?_, inj := h'.inj, size' := h.size', tmps := fun t => stab_VR (stabL_look hs t) h'.base (h.tmps t), defers := h.defers, base := by rw [nx.2]; exact RLe.nil _, short := by rw [nx.2]; exact Nat.zero_le _, nox := h.nox, marks := fun d hd => ?_, mnod := h.mnod }
  . rw [<- h.old k hk hX]
    exact keep k (Nat.lt_of_lt_of_le hk h.size) hX fun i o c ho hl hr => by
      rcases h.own i o k c ho hl hr with h1 | h1
      . omega
      . exact hX h1
  . rcases h'.lim p v hv with h1 | h1
    . rcases h2 p v h1 with h3 | h3
      . exact h.lim p v h3
      . exact h3
    . exact .inr (Nat.le_trans h.size h1)
  . rcases h'.own i o b c ho hl hr with h1 | h1 | ⟨j, oj, cj, h3, h4, h5⟩
    . exact .inl (Nat.le_trans h.size h1)
    . exact .inr h1
    . exact h.own j oj b cj h3 h4 h5
  . obtain ⟨k, e1, e0, e2⟩ := h.marks d hd
    refine ⟨k, e1, e0, (keep k (Array.getElem?_eq_some_iff.1 e2).1 (nx.1 k) fun i o c ho hl hr => ?_).trans e2⟩
    obtain ⟨x, e3, e4, _⟩ := (h.obj i o ho).cells hl hr
    rw [e2] at e3; cases e3; exact e4 _ rfl
end
end Go.Lat
namespace Go.Lat
open Go.RowKit

def FnIt (P : Program) (g : FuncId) (caps : List AV) (L : List AV) : Prop :=
  Callable P g /\ ∀ (n : Nat) (mC : Mem) (w : World) (cv : List Value), VRs [] (nest mC) caps cv →
    ∀ (l : Nat) (J : Nat -> Mem -> World -> Prop) (Jx : Mem -> World -> Prop),
      (∀ i m w w', J i m w -> w.grownBy w' none -> J i m w') -> (∀ m w w', Jx m w -> w.grownBy w' none -> Jx m w') →
      (∀ i m w, J i m w -> ∀ p v, m p = some v -> w.cell? p = some v /\ p.block < w.heap.size) →
      (∀ m w, Jx m w -> ∀ p v, m p = some v -> w.cell? p = some v /\ p.block < w.heap.size) →
      (∀ i m wb w m', J i m wb -> wb.grownBy w none -> (∀ p u, m' p = some u -> w.cell? p = some u /\ p.block < w.heap.size /\ (m p = some u \/ wb.heap.size <= p.block)) -> J i m' w) →
      (∀ n i x m w v, L[i]? = some x -> J i m w -> VR [] (nest m) x v →
        YieldAt (FW none) n P l #[v] w fun e w' => (e = .returned (.bool true) /\ J (i + 1) m w') \/ (e = .returned (.bool false) /\ Jx m w')) →
      J 0 mC w -> CallsIn (FW none) n P g (#[.func (.yield l) #[] #[]] ++ cv.toArray) w fun e w' => (∃ v, e = .returned v) /\ ((∃ m, J L.length m w') \/ ∃ m, Jx m w')

def rndQ (A B : St -> Prop) : Ex -> St -> Prop
  | .nrm, s => A s
  | .ret, s => B s
  | .exit _, _ => False

section
variable {X : Nat -> Prop} {D : List Deferred × Rho} {w0 : World} {mA : Mem} {r : Rho} {m : MM} {st : St} {a : Act} {w w' : World}
theorem R.toSt {s s' : St} (h : R X D w0 mA r m s a w) (hl : s.to s') : ∃ r', R X D w0 mA r' m s' a w := by
  obtain ⟨φ, l, h1, h2, h3, h4, h5, h6, h7⟩ := hl
  obtain ⟨nt, tm, hp, ho⟩ := s'
  simp only at h1 h2 h3 h7
  subst h1; subst h2; subst h3
  exact ⟨_, h.ren φ h4 h5 (regsT_look h6) h7⟩
theorem CapOk.grown {mC : Mem} {H : List AObj} (h : CapOk w0 mA mC r H w) (g : w.grownBy w' none) : CapOk w0 mA mC r H w' := fun p v hp => by
  obtain ⟨h1, h2, h3, h4⟩ := h p v hp
  exact ⟨(World.cell?_of_block (g.block _ h2 (by simp))).trans h1, Nat.lt_of_lt_of_le h2 g.size, h3, h4⟩
theorem CapOk.put {mC : Mem} {H : List AObj} {b : Nat} {rec : Loop} (h : CapOk w0 mA mC r H w) (hb : w.heap[b]? = some (.loop rec)) (o : Obj) : CapOk w0 mA mC r H (w.putObj b o) := fun p v hp => by
  obtain ⟨h1, h2, h3, h4⟩ := h p v hp
  exact ⟨(World.cell?_of_block (World.putObj_heap_other (cell_ne hb h1))).trans h1, by rw [World.putObj_size]; exact h2, h3, h4⟩
theorem CapOk.round {n q : Nat} {l0 : List (Nat × AV)} {H H' : List AObj} {r' : Rho} {m' : MM} {m2 mC : Mem} {tm' : Nat -> AV} {a' : Act} {ms : List Deferred} (hc : CapOk w0 mA mC r H w) (h : R X D w0 mA r m ⟨n, look l0, H, 0⟩ a w)
    (h' : R (ownX X r H) (ms, r.take q) w m2 r' m' ⟨n, tm', H', q⟩ a' w') : CapOk w0 mA mC r' H' w' := fun p v hp => by
  obtain ⟨h1, h2, h3, h4⟩ := hc p v hp
  have nx := h.nox rfl
  have hno : ¬ ownX X r H p.block := by
    rintro (hx | ⟨i, o, c, ho, hl, hr⟩)
    . exact nx.1 _ hx
    . exact h3 i o _ c ho hl hr rfl
  refine ⟨(World.cell?_of_block (h'.old _ h2 hno)).trans h1, Nat.lt_of_lt_of_le h2 h'.size, fun i o b c ho hl hr e => ?_, h4⟩
  rcases h'.own i o b c ho hl hr with h5 | h5
  . omega
  . rw [<- e] at h5; exact hno h5
end

theorem W.range {α β : Type} {P : Program} {T : TT} {Q : Ex -> St -> Prop} {g : Operand} {ps : Array Tmp} {assign body : Code} {n p : Nat} {lg l0 : List (Nat × AV)} {gf : FuncId} {caps caps' L : List AV} (q : Nat)
    (y0 : α) (H : α -> List AObj) (I : Nat -> α -> Prop) (Hr : β -> List AObj) (Ir : β -> Prop)
    (hps : ps = #[p]) (hp : Nat.ble (p + 1) n = true) (he : St.eval ⟨n, look lg, H y0, 0⟩ g = .clo gf [] caps) (hF : FnIt P gf caps' L) (hcc : Wks (caps.map (conv 6 [])) caps')
    (hL : ∀ x ∈ L, noF x = true) (hl0 : regsL (look lg) l0) (hq : 0 < q) (hs : stabL q l0 = true) (hH : ∀ i y, I i y -> ∀ o ∈ H y, noFO o = true) (hng1 : noRg assign = true) (hng2 : noRg body = true) (h0 : I 0 y0)
    (hr : ∀ i x y, L[i]? = some x -> I i y -> W P T assign ⟨n, look ((p, x) :: l0), H y, q⟩ (thenA (fun s => W P T body s (rndQ (fun s => ∃ y', I (i + 1) y' /\ s.to ⟨n, look [], H y', q⟩) (fun s => ∃ z, Ir z /\ s.to ⟨n, look [], Hr z, q⟩))) (fun _ _ => False)))
    (hd : ∀ y, I L.length y -> Q .nrm ⟨n, look l0, H y, 0⟩) (hx : ∀ z, Ir z -> Q .ret ⟨n, look l0, Hr z, 0⟩) :
    W P T (.rangeFunc g ps assign body) ⟨n, look lg, H y0, 0⟩ Q := fun hT hf ro hro n' X D w0 mA r m a w hR => by
  have hro0 : ro = none := by
    rcases ro with _ | l
    . rfl
    . have := hro (by simp)
      cases this
  subst hro0
  subst hps
  have hp' : p < n := Nat.le_of_ble_eq_true hp
  have hv := hR.eval g
  rw [he] at hv
  simp only [VR] at hv
  obtain ⟨x0, yv, hg, hx0, hyv⟩ := hv
  have hx0' : x0 = #[] := by
    apply Array.toList_inj.1
    simpa only [VRs] using hx0
  subst hx0'
  have hcap : VRs [] (nest (m true)) caps' yv.toList := hcc [] _ _ (Low.nest _) (vrs_map_conv (fun x v hv => cv0_sound hR 6 x v hv) _ _ hyv)
  have hR0 : R X D w0 mA r m ⟨n, look l0, H y0, 0⟩ a w := hR.le ⟨rfl, rfl, rfl, fun t => regsL_look hl0 t⟩
  refine wpIn_rangeFunc fun fn hfn => ?_
  obtain ⟨rec, hrec⟩ : ∃ rec : LoopState -> Option Code -> Loop, rec = fun st pe => { state := st, pending := pe, fn, tmps := a.tmps, params := #[p], assign, body, defers := w.heap.size } := ⟨_, rfl⟩
  obtain ⟨W1, hW1⟩ : ∃ W1, (w.alloc (.deferred (some []))).alloc (.loop (rec .ready none)) = W1 := ⟨_, rfl⟩
  have hL1 : W1.heap[w.heap.size + 1]? = some (.loop (rec .ready none)) := by
    rw [<- hW1]; have := World.alloc_heap_new (w.alloc (.deferred (some []))) (.loop (rec .ready none)); rwa [World.size_alloc] at this
  have hK1 : W1.heap[w.heap.size]? = some (.deferred (some [])) := by
    rw [<- hW1]; exact (Below.heap_alloc _ _ _ (by simp)).trans (World.alloc_heap_new w _)
  have hg1 : w.grownBy W1 none := by rw [<- hW1]; exact (World.grownBy_alloc w _ none).trans (World.grownBy_alloc _ _ none)
  obtain ⟨mark, hmark⟩ : ∃ mark : Deferred, mark = { target := .collected w.heap.size, args := #[] } := ⟨_, rfl⟩
  have hsz0 := hR0.size
  have hR1 : R X (mark :: D.1, D.2) w0 mA r m ⟨n, look l0, H y0, 0⟩ { tmps := a.tmps, defers := mark :: a.defers } W1 := by
    have h := hR0.grown hg1
    refine { h with size' := h.size', tmps := h.tmps, defers := by rw [<- h.defers], base := h.base, short := h.short, nox := h.nox, marks := fun d hd => ?_, mnod := List.nodup_cons.2 ⟨fun hin => ?_, h.mnod⟩ }
    . rcases List.mem_cons.1 hd with e | e
      . exact ⟨w.heap.size, e.trans hmark, hsz0, hK1⟩
      . exact h.marks d e
    . obtain ⟨b, e1, e0, e2⟩ := hR0.marks mark hin
      rw [hmark] at e1
      cases e1
      have := (Array.getElem?_eq_some_iff.1 e2).1
      omega
  generalize ha1 : ({ tmps := a.tmps, defers := mark :: a.defers } : Act) = a1 at hR1
  have ha1t : a1.tmps = a.tmps := by rw [<- ha1]
  have hC1 : CapOk w0 mA (m true) r (H y0) W1 := CapOk.grown (fun p v hv => ⟨(hR.mem p v hv).1, (hR.mem p v hv).2, hR.apart p v hv, hR.lim p v hv⟩) hg1
  obtain ⟨mC, hmC⟩ : ∃ mC, mC = m true := ⟨_, rfl⟩
  rw [<- hmC] at hC1 hcap
  obtain ⟨Lb, hLb⟩ : ∃ Lb, Lb = w.heap.size + 1 := ⟨_, rfl⟩
  rw [<- hLb] at hL1
  have hLb0 : w0.heap.size <= Lb := by omega
  obtain ⟨D1, hD1⟩ : ∃ D1 : List Deferred × Rho, D1 = (mark :: D.1, D.2) := ⟨_, rfl⟩
  rw [<- hD1] at hR1
  let J : Nat -> Mem -> World -> Prop := fun i mC W => ∃ y r m, I i y /\ R X D1 w0 mA r m ⟨n, look l0, H y, 0⟩ a1 W /\ CapOk w0 mA mC r (H y) W /\ W.heap[Lb]? = some (.loop (rec .ready none))
  let Jx : Mem -> World -> Prop := fun mC W => ∃ z r m, Ir z /\ R X D1 w0 mA r m ⟨n, look l0, Hr z, 0⟩ a1 W /\ CapOk w0 mA mC r (Hr z) W /\ W.heap[Lb]? = some (.loop (rec .done (some .ret)))
  have hblk : ∀ {A B : World} {o : Obj}, A.heap[Lb]? = some o -> A.grownBy B none -> B.heap[Lb]? = some o := fun h g => (g.block _ (Array.getElem?_eq_some_iff.1 h).1 (by simp)).trans h
  have abJ : ∀ i mC A B, J i mC A -> A.grownBy B none -> J i mC B := fun i mC A B ⟨y, r, m, h1, h2, h3, h4⟩ g => ⟨y, r, m, h1, h2.grown g, h3.grown g, hblk h4 g⟩
  refine ⟨Lb, [mark], W1, { target := .fn (.func gf) yv, args := #[.func (.yield Lb) #[] #[]] }, W1, gf, #[.func (.yield Lb) #[] #[]] ++ yv, W1, ?_, ?_, ?_, ?_, fun h => (by cases h), ?_⟩
  . rw [<- hW1, hrec, hmark, hLb]; exact run_enterLoop_outer _ _ _ _ _
  . simp only [resolve, hg]
    simp [go_sem]
  . exact fun f' hf' => trivial
  . simp [invoke, go_sem, run_callFunc hF.1]
  have hyl : (#[Value.func (.yield Lb) #[] #[]] ++ yv) = #[Value.func (.yield Lb) #[] #[]] ++ yv.toList.toArray := by simp
  rw [hyl]
  refine (hF.2 (n' - 1) mC W1 yv.toList hcap Lb J Jx abJ (fun mC A B ⟨z, r, m, h1, h2, h3, h4⟩ g => ⟨z, r, m, h1, h2.grown g, h3.grown g, hblk h4 g⟩)
    (fun i mC A ⟨y, r, m, h1, h2, h3, h4⟩ p v hv => ⟨(h3 p v hv).1, (h3 p v hv).2.1⟩) (fun mC A ⟨z, r, m, h1, h2, h3, h4⟩ p v hv => ⟨(h3 p v hv).1, (h3 p v hv).2.1⟩) ?_ ?_ ⟨y0, r, m, h0, hR1, hC1, hL1⟩).mono ?_
  . -- more memory
    rintro i mC A B m' ⟨y, r, m, h1, h2, h3, h4⟩ g hm'
    refine ⟨y, r, m, h1, h2.grown g, fun p u hu => ?_, hblk h4 g⟩
    obtain ⟨k1, k2, k3⟩ := hm' p u hu
    rcases k3 with k3 | k3
    . obtain ⟨-, -, k4, k5⟩ := h3 p u k3
      exact ⟨k1, k2, k4, k5⟩
    . exact ⟨k1, k2, fun i o b c ho hl hr => by have := h2.lt i o b c ho hl hr; omega, .inr (Nat.le_trans h2.size k3)⟩
  . -- one round
    rintro nd i x mC W v hLi ⟨y, r, m, hI, hRW, hCW, hlW⟩ hvx
    have hltW : Lb < W.heap.size := (Array.getElem?_eq_some_iff.1 hlW).1
    obtain ⟨m2, hm2, hR2⟩ := hRW.round_in hq hs (hH i y hI) hp' (hL x (List.mem_of_getElem? hLi)) hCW hvx
    have hm2' : ∀ p u, m2 p = some u -> m true p = some u \/ (mA p = some u \/ w0.heap.size <= p.block) := fun p u hu => (hm2 p u hu).imp (fun h => h) (fun h => (hCW p u h).2.2.2)
    have hnoL : ¬ ownX X r (H y) Lb := by
      rintro (hX | ⟨j, o, c, ho, hl, hrj⟩)
      . exact (hRW.nox rfl).1 _ hX
      . obtain ⟨x, e3, _, e4⟩ := (hRW.obj j o ho).cells hl hrj
        rw [hlW] at e3; cases e3; exact e4 _ rfl
    have hrun := run_yield (P := P) (args := #[v]) hlW (by rw [hrec]; rfl)
    rw [hrec] at hrun
    refine ⟨fn, _, assign, body, hrun, roundIn_of_wpIn hfn ?_⟩
    have htm : ((#[p].zip #[v]).foldl (fun tmps (t, a) => tmps.setIfInBounds t a) a.tmps) = a1.tmps.setIfInBounds p v := by rw [ha1t]; simp
    show assign.wpIn (FW (some Lb)) nd P _ { tmps := ((#[p].zip #[v]).foldl (fun tmps (t, a) => tmps.setIfInBounds t a) a.tmps), defers := [] } W
    rw [htm]
    refine wpIn_mono (hr i x y hLi hI hT hf (some Lb) (fun _ => hng1) nd _ _ _ _ _ _ _ _ hR2) ?_
    intro e a3 w3 hq3
    cases e <;> simp only [relQ, thenA, Exit.then] at hq3 ⊢ <;> try exact hq3
    case normal =>
      obtain ⟨ms, r3, m3, s3, -, hW3, hR3⟩ := hq3
      have hl3 : w3.heap[Lb]? = some (.loop (rec .ready none)) := (hR3.old Lb hltW hnoL).trans hlW
      refine ⟨_, run_beginRound hl3 (by rw [hrec]), ?_⟩
      have hR4 := hR3.putB hl3 hltW (.loop { rec .ready none with state := .busy })
      refine wpIn_mono (hW3 hT hf (some Lb) (fun _ => hng2) nd _ _ _ _ _ _ _ _ hR4) ?_
      have hRp := hRW.putL hlW hLb0 (.loop { rec .ready none with state := .busy })
      have hCp := hCW.put hlW (.loop { rec .ready none with state := .busy })
      have hlp : (W.putObj Lb (.loop { rec .ready none with state := .busy })).heap[Lb]? = some (.loop { rec .ready none with state := .busy }) := World.putObj_heap_same hltW
      intro e a5 w5 hq5
      cases e <;> simp only [relQ, roundPost, rndQ] at hq5 ⊢
      case normal =>
        obtain ⟨ms2, r5, m5, s5, -, ⟨y', hI', hto⟩, hR5⟩ := hq5
        obtain ⟨r6, hR6⟩ := hR5.toSt hto
        have hl5 : w5.heap[Lb]? = some (.loop { rec .ready none with state := .busy }) := (hR6.old Lb (by rw [World.putObj_size]; exact hltW) hnoL).trans hlp
        refine ⟨_, _, run_endRound none hl5, .inl ⟨rfl, y', r6, m5, hI', ?_, ?_, ?_⟩⟩
        . exact (hRp.round_out hs hm2' hR6).putL hl5 hLb0 _
        . exact (hCp.round hRp hR6).put hl5 _
        . rw [World.putObj_heap_same (Array.getElem?_eq_some_iff.1 hl5).1, hrec]; rfl
      case ret =>
        obtain ⟨ms2, r5, m5, s5, -, ⟨z, hI', hto⟩, hR5⟩ := hq5
        obtain ⟨r6, hR6⟩ := hR5.toSt hto
        have hl5 : w5.heap[Lb]? = some (.loop { rec .ready none with state := .busy }) := (hR6.old Lb (by rw [World.putObj_size]; exact hltW) hnoL).trans hlp
        refine ⟨_, _, run_endRound (some .ret) hl5, .inr ⟨rfl, z, r6, m5, hI', ?_, ?_, ?_⟩⟩
        . exact (hRp.round_out hs hm2' hR6).putL hl5 hLb0 _
        . exact (hCp.round hRp hR6).put hl5 _
        . rw [World.putObj_heap_same (Array.getElem?_eq_some_iff.1 hl5).1, hrec]; rfl
      case exit l => obtain ⟨_, _, _, _, _, h, _⟩ := hq5; exact h.elim
    case exit l => obtain ⟨_, _, _, _, _, h, _⟩ := hq3; exact h
    case ret => obtain ⟨_, _, _, _, _, h, _⟩ := hq3; exact h
  . -- behind it
    have ha1' : ({ a with defers := [mark] ++ a.defers } : Act) = a1 := by rw [<- ha1]; rfl
    rw [ha1']
    rintro e W2 ⟨⟨v, rfl⟩, ⟨_, y, r, m, hI, hR2, -, hl2⟩ | ⟨_, z, r, m, hI, hR2, -, hl2⟩⟩
    . refine ⟨none, _, by have := run_endLoop (P := P) hl2 (by rw [hrec]; simp); rw [hrec] at this; exact this, ?_⟩
      refine ⟨[mark], r, m, _, fun hh => (by cases hh), hd y hI, ?_⟩
      have hR3 := hR2.putL hl2 hLb0 (.loop { rec .ready none with state := .exhausted })
      rw [hD1, hrec] at hR3
      exact hR3
    . refine ⟨some .ret, _, by have := run_endLoop (P := P) hl2 (by rw [hrec]; simp); rw [hrec] at this; exact this, ?_⟩
      refine wpIn_ret ⟨[mark], r, m, _, fun hh => (by cases hh), hx z hI, ?_⟩
      have hR3 := hR2.putL hl2 hLb0 (.loop { rec .done (some .ret) with state := .exhausted })
      rw [hD1, hrec] at hR3
      exact hR3
end Go.Lat
namespace Go.Lat
open Go.RowKit

abbrev GH : Nat := 1000000
structure ItC where
  l : Nat
  J : Nat -> Mem -> World -> Prop
  Jx : Mem -> World -> Prop
  L : List AV
structure ItC.Ok (C : ItC) (P : Program) : Prop where
  ab : ∀ i m w w', C.J i m w -> w.grownBy w' none -> C.J i m w'
  abx : ∀ m w w', C.Jx m w -> w.grownBy w' none -> C.Jx m w'
  mem : ∀ i m w, C.J i m w -> ∀ p v, m p = some v -> w.cell? p = some v /\ p.block < w.heap.size
  memx : ∀ m w, C.Jx m w -> ∀ p v, m p = some v -> w.cell? p = some v /\ p.block < w.heap.size
  ext : ∀ i m wb w m', C.J i m wb -> wb.grownBy w none -> (∀ p u, m' p = some u -> w.cell? p = some u /\ p.block < w.heap.size /\ (m p = some u \/ wb.heap.size <= p.block)) -> C.J i m' w
  step : ∀ n i x m w v, C.L[i]? = some x -> C.J i m w -> VR [] (nest m) x v →
    YieldAt (FW none) n P C.l #[v] w fun e w' => (e = .returned (.bool true) /\ C.J (i + 1) m w') \/ (e = .returned (.bool false) /\ C.Jx m w')
def Jg (C : ItC) : AV -> Mem -> World -> Prop
  | .gh (i + 1), m, w => C.J i m w
  | .gh 0, m, w => C.Jx m w
  | _, _, _ => False
def relJ (C : ItC) (Q : Ex -> St -> Prop) : Exit -> Act -> World -> Prop
  | .normal, a, w => ∃ w0 mA r m s, Q .nrm s /\ Jg C (s.tm GH) mA w0 /\ R (fun _ => False) ([], []) w0 mA r m s a w
  | .ret, a, w => ∃ w0 mA r m s, Q .ret s /\ Jg C (s.tm GH) mA w0 /\ R (fun _ => False) ([], []) w0 mA r m s a w
  | .exit l, a, w => ∃ w0 mA r m s, Q (.exit l) s /\ Jg C (s.tm GH) mA w0 /\ R (fun _ => False) ([], []) w0 mA r m s a w
  | _, _, _ => False
def WJ (C : ItC) (P : Program) (T : TT) (c : Code) (st : St) (Q : Ex -> St -> Prop) : Prop :=
  C.Ok P -> TsOk P T -> P.follows .mixedOrders = true -> ∀ (n : Nat) (w0 : World) (mA : Mem) (r : Rho) (m : MM) (a : Act) (w : World), Jg C (st.tm GH) mA w0 -> R (fun _ => False) ([], []) w0 mA r m st a w →
    c.wpIn (FW none) n P (relJ C Q) a w

section
variable {C : ItC} {P : Program} {T : TT} {st : St} {Q Q' : Ex -> St -> Prop} {c c' : Code}
theorem relJ_mono (hq : ∀ e s, Q e s -> Q' e s) : ∀ e a w, relJ C Q e a w -> relJ C Q' e a w := by
  intro e a w h
  cases e <;> simp only [relJ] at h ⊢ <;> first | exact h | exact (let ⟨w0, mA, r, m, s, h0, h1, h2⟩ := h; ⟨w0, mA, r, m, s, hq _ _ h0, h1, h2⟩)
theorem WJ.mono (h : WJ C P T c st Q) (hq : ∀ e s, Q e s -> Q' e s) : WJ C P T c st Q' := fun hC hT hf n w0 mA r m a w hJ hR =>
  wpIn_mono (h hC hT hf n w0 mA r m a w hJ hR) (relJ_mono hq)
theorem WJ.ofW (hn : noRg c = true) (h : W P T c st fun e s => s.tm GH = st.tm GH /\ Q e s) : WJ C P T c st Q := fun hC hT hf n w0 mA r m a w hJ hR => by
  refine wpIn_mono (h hT hf none (fun h => (h rfl).elim) n _ _ _ _ _ _ _ _ hR) fun e a' w' he => ?_
  cases e <;> simp only [relQ, relJ] at he ⊢ <;> try exact he
  all_goals
    obtain ⟨ms, r', m', s, h0, ⟨h1, h2⟩, h3⟩ := he
    rw [h0 hn] at h3
    exact ⟨w0, mA, r', m', s, h2, by rw [h1]; exact hJ, h3⟩
theorem WJ.seq (M : St -> Prop) (h : WJ C P T c st (thenA M Q)) (h' : ∀ s, M s -> WJ C P T c' s Q) : WJ C P T (.seq c c') st Q := fun hC hT hf n w0 mA r m a w hJ hR => by
  refine wpIn_seq (wpIn_mono (h hC hT hf n w0 mA r m a w hJ hR) fun e a' w' he => ?_)
  cases e <;> simp only [relJ, thenA, Exit.then] at he ⊢ <;> try exact he
  obtain ⟨w0', mA', r', m', s, h1, h2, h3⟩ := he
  exact h' s h1 hC hT hf n w0' mA' r' m' a' w' h2 h3
theorem WJ.seq' (h : WJ C P T c st (thenA (fun s => WJ C P T c' s Q) Q)) : WJ C P T (.seq c c') st Q := WJ.seq _ h fun _ h => h
theorem WJ.skip (h : Q .nrm st) : WJ C P T .skip st Q := fun _ _ _ _ w0 mA r m _ _ hJ hR => wpIn_skip ⟨w0, mA, r, m, st, h, hJ, hR⟩
theorem WJ.ret (h : Q .ret st) : WJ C P T .ret st Q := fun _ _ _ _ w0 mA r m _ _ hJ hR => wpIn_ret ⟨w0, mA, r, m, st, h, hJ, hR⟩
theorem WJ.exit {l : Nat} (h : Q (.exit l) st) : WJ C P T (.exit l) st Q := fun _ _ _ _ w0 mA r m _ _ hJ hR => wpIn_exit ⟨w0, mA, r, m, st, h, hJ, hR⟩
theorem WJ.cond {x : Operand} {t : Bool} (hx : st.eval x = .bool t) (h1 : t = true -> WJ C P T c st Q) (h2 : t = false -> WJ C P T c' st Q) : WJ C P T (.cond x c c') st Q := fun hC hT hf n w0 mA r m a w hJ hR => by
  have hv := hR.eval x
  rw [hx] at hv
  simp only [VR] at hv
  exact wpIn_cond_split hv (fun ht => h1 ht hC hT hf n w0 mA r m a w hJ hR) (fun ht => h2 ht hC hT hf n w0 mA r m a w hJ hR)
theorem WJ.cn {p : Prop} [Decidable p] {x : Operand} (hx : st.eval x = .bool (decide p)) (h1 : p -> WJ C P T c st Q) (h2 : ¬ p -> WJ C P T c' st Q) : WJ C P T (.cond x c c') st Q :=
  WJ.cond hx (fun h => h1 (of_decide_eq_true h)) (fun h => h2 (of_decide_eq_false h))
theorem WJ.cb {q : Bool} {x : Operand} (hx : st.eval x = .bool q) (h1 : q = true -> WJ C P T c st Q) (h2 : ¬ q = true -> WJ C P T c' st Q) : WJ C P T (.cond x c c') st Q :=
  WJ.cond hx h1 (fun h => h2 (by rw [h]; simp))
theorem WJ.cT {x : Operand} (hx : st.eval x = .bool true) (h1 : WJ C P T c st Q) : WJ C P T (.cond x c c') st Q := WJ.cond hx (fun _ => h1) (fun h => by cases h)
theorem WJ.cF {x : Operand} (hx : st.eval x = .bool false) (h1 : WJ C P T c' st Q) : WJ C P T (.cond x c c') st Q := WJ.cond hx (fun h => by cases h) (fun _ => h1)
theorem WJ.block {id : Nat} (h : WJ C P T c st (blockA id Q)) : WJ C P T (.block id c) st Q := fun hC hT hf n w0 mA r m a w hJ hR =>
  wpIn_block (wpIn_mono (h hC hT hf n w0 mA r m a w hJ hR) fun e a' w' he => by
    cases e <;> simp only [relJ, blockA, Exit.inBlock] at he ⊢ <;> try exact he
    rename_i l
    obtain ⟨w0', mA', r', m', s, h1, h2, h3⟩ := he
    split <;> rename_i hl
    . rw [if_pos hl] at h1
      exact ⟨w0', mA', r', m', s, h1, h2, h3⟩
    . rw [if_neg hl] at h1
      exact ⟨w0', mA', r', m', s, h1, h2, h3⟩)
theorem WJ.to {st' : St} (hl : st.to st') (hg : st'.tm GH = st.tm GH) (h : WJ C P T c st' Q) : WJ C P T c st Q := fun hC hT hf n w0 mA r m a w hJ hR => by
  obtain ⟨r', hR'⟩ := hR.toSt hl
  exact h hC hT hf n w0 mA r' m a w (by rw [hg]; exact hJ) hR'
theorem WJ.tr {n : Nat} {h : List AObj} {b : Nat} {tm : Nat -> AV} (l' : List (Nat × AV)) (h' : List AObj) (hl : regsL tm l') (hh : h = h') (hg : look l' GH = tm GH) (hw : WJ C P T c ⟨n, look l', h', b⟩ Q) : WJ C P T c ⟨n, tm, h, b⟩ Q := fun hC hT hf k w0 mA r m a w hJ hR => by
  subst hh
  exact hw hC hT hf k w0 mA r m a w (by show Jg C (look l' GH) mA w0; rw [hg]; exact hJ) (hR.le ⟨rfl, rfl, rfl, regsL_look hl⟩)
open Classical in
theorem WJ.loop (I : Nat -> St -> Prop) {k : Nat} (h0 : I k st) (h : ∀ k s, I k s -> WJ C P T c s (thenA (fun s' => ∃ k', k' < k /\ I k' s') Q)) : WJ C P T (.loop c) st Q := fun hC hT hf n w0 mA r m a w hJ hR => by
  let Has : Act -> World -> Nat -> Prop := fun a w k => ∃ w0 mA r m s, I k s /\ Jg C (s.tm GH) mA w0 /\ R (fun _ => False) ([], []) w0 mA r m s a w
  have least : ∀ (p : Nat -> Prop) (k : Nat), p k -> ∃ j, p j /\ ∀ i, p i -> j <= i := by
    intro p k
    induction k using Nat.strongRecOn with
    | _ k ih =>
      intro hk
      by_cases hx : ∃ i, i < k /\ p i
      . obtain ⟨i, hi, hpi⟩ := hx
        exact ih i hi hpi
      . exact ⟨k, hk, fun i hi => Nat.le_of_not_lt fun hlt => hx ⟨i, hlt, hi⟩⟩
  let μ : Act -> World -> Nat := fun a w => if hx : ∃ j, Has a w j /\ ∀ i, Has a w i -> j <= i then Classical.choose hx else 0
  have hμ : ∀ a w k, Has a w k -> Has a w (μ a w) /\ μ a w <= k := fun a w k hk => by
    have hx := least (Has a w) k hk
    have e : μ a w = Classical.choose hx := dif_pos hx
    rw [e]
    exact ⟨(Classical.choose_spec hx).1, (Classical.choose_spec hx).2 k hk⟩
  refine wpIn_loop (fun a w => ∃ k, Has a w k) μ ⟨k, w0, mA, r, m, st, h0, hJ, hR⟩ ?_
  rintro a w ⟨k, hk⟩
  obtain ⟨⟨w0, mA, r, m, s, hI, hJ, hR⟩, _⟩ := hμ a w k hk
  refine wpIn_mono (h _ s hI hC hT hf n w0 mA r m a w hJ hR) fun e a' w' he => ?_
  cases e <;> simp only [relJ, thenA, Exit.then] at he ⊢ <;> try exact he
  obtain ⟨w0', mA', r', m', s', ⟨k', hk', hI'⟩, hJ', hR'⟩ := he
  exact ⟨⟨k', w0', mA', r', m', s', hI', hJ', hR'⟩, Nat.lt_of_le_of_lt (hμ a' w' k' ⟨w0', mA', r', m', s', hI', hJ', hR'⟩).2 hk'⟩
theorem WJ.rL {id : Nat} {ol : List Oper} (h1 : seqL P T ol [] 0 ol st fun s => s.tm GH = st.tm GH /\ WJ C P T c s Q) : WJ C P T (.seq (.region id ol.toArray false) c) st Q :=
  WJ.seq (fun s => WJ C P T c s Q) (WJ.ofW rfl (W.region (Q := fun e s => s.tm GH = st.tm GH /\ thenA (fun s => WJ C P T c s Q) Q e s) [] h1)) fun _ h => h
theorem WJ.rP {id : Nat} {ol : List Oper} (ord : List Nat) (hc : chk ol.toArray ord = true) (hl : allIn ol ord = true) (h1 : seqL P T ol [] 0 (pickL ol ord) st fun s => s.tm GH = st.tm GH /\ WJ C P T c s Q) : WJ C P T (.seq (.region id ol.toArray true) c) st Q :=
  WJ.seq (fun s => WJ C P T c s Q) (WJ.ofW rfl (W.rP1 (Q := fun e s => s.tm GH = st.tm GH /\ thenA (fun s => WJ C P T c s Q) Q e s) ord hc hl h1)) fun _ h => h
theorem WJ.rL1 {id : Nat} {ol : List Oper} (h1 : seqL P T ol [] 0 ol st fun s => s.tm GH = st.tm GH /\ Q .nrm s) : WJ C P T (.region id ol.toArray false) st Q := WJ.ofW rfl (W.region [] h1)

def clJ : AV -> Bool
  | .int _ _ | .bool _ | .nilS | .nilP | .nilF | .any | .yl _ | .gh _ => true
  | .ipt true _ => true
  | .lst true _ _ => true
  | .clo _ [] [] => true
  | _ => false
theorem clJ_VR {r : Rho} {m : MM} : ∀ {x : AV} {v : Value}, clJ x = true -> VR r m x v -> VR [] (nest (m true)) x v := by
  intro x v hx h
  cases x <;> simp only [clJ] at hx <;> try (cases hx; done)
  case int => simpa only [VR] using h
  case bool => simpa only [VR] using h
  case nilS => simpa only [VR] using h
  case nilP => simpa only [VR] using h
  case nilF => simpa only [VR] using h
  case any => simp only [VR]
  case yl => simpa only [VR] using h
  case gh => simp only [VR]
  case ipt fl cs =>
    cases fl <;> simp only [clJ] at hx <;> try (cases hx; done)
    simp only [VR] at h ⊢
    exact h
  case lst fl n cs =>
    cases fl <;> simp only [clJ] at hx <;> try (cases hx; done)
    simp only [VR] at h ⊢
    exact h
  case clo f a b =>
    cases a <;> cases b <;> simp only [clJ] at hx <;> try (cases hx; done)
    simp only [VR, VRs] at h ⊢
    exact h
def clJs : List (Nat × AV) -> Bool
  | [] => true
  | (_, v) :: l => clJ v && clJs l
theorem clJs_look : ∀ {l : List (Nat × AV)}, clJs l = true -> ∀ t, clJ (look l t) = true
  | [], _, t => rfl
  | (k, v) :: l, h, t => by
    simp only [clJs, Bool.and_eq_true] at h
    rw [look_cons]
    split
    . exact h.1
    . exact clJs_look h.2 t
theorem seqL_upto {X : Nat -> Prop} {D : List Deferred × Rho} {w0 : World} {mA : Mem} (hT : TsOk P T) {ops : Array Oper} {ro : Option Nat} {n : Nat} {Z : Exit -> Act -> World -> Prop} {K : St -> Prop} {rest : List Oper}
    (hK : ∀ s r' m' a' w', K s -> R X D w0 mA r' m' s a' w' -> wpListIn (FW ro) n P ops Z rest a' w') :
    ∀ (l : List Oper) (j : Nat) {r : Rho} {m : MM} {st : St} {a : Act} {w : World}, R X D w0 mA r m st a w -> seqL P T ops.toList [] j l st K -> wpListIn (FW ro) n P ops Z (l ++ rest) a w
  | [], _, _, _, _, _, _, hR, h => hK _ _ _ _ _ h hR
  | o :: l, j, _, _, _, _, _, hR, h => wpListIn_step fun K' hK' =>
      stepG_sound hT hR h fun s r' m' a' w' hs hR' => hK' a' w' (seqL_upto hT hK l (j + 1) hR' (splitT_sound hs))
structure YSt (C : ItC) (P : Program) (T : TT) (ol B : List Oper) (j : Nat) (d : Nat) (f x : Operand) (gd : Option (Nat × Bool)) (g0 : AV) (s1 : St) (K : St -> Prop) : Prop where
  intro ::
  ex : ∃ (nt : Nat) (lr : List (Nat × AV)) (hp : List AObj) (i : Nat) (Y : AV) (l' : List (Nat × AV)), s1 = ⟨nt, look lr, hp, 0⟩ ∧
    (gd = none \/ ∃ k t, gd = some (k, true) /\ gdT ol k = some t /\ look lr t = .bool true) /\ d < nt /\ St.eval ⟨nt, look lr, hp, 0⟩ f = .yl C.l /\ g0 = .gh (i + 1) /\ C.L[i]? = some Y /\ Wk (conv 6 [] (St.eval ⟨nt, look lr, hp, 0⟩ x)) Y /\ clJs l' = true /\ regsL (look lr) l' ∧
    seqL P T ol [] j B ⟨nt, look ((d, .bool true) :: (GH, .gh (i + 2)) :: l'), [], 0⟩ (fun s => s.tm GH = .gh (i + 2) /\ K s) ∧
    seqL P T ol [] j B ⟨nt, look ((d, .bool false) :: (GH, .gh 0) :: l'), [], 0⟩ (fun s => s.tm GH = .gh 0 /\ K s)
theorem wanted_of {X : Nat -> Prop} {D : List Deferred × Rho} {w0 : World} {mA : Mem} {r : Rho} {m : MM} {a : Act} {w : World} {ops : Array Oper} (hR : R X D w0 mA r m st a w) {o : Oper} (hg : o.guard = none \/ ∃ k t, o.guard = some (k, true) /\ gdT ops.toList k = some t /\ st.tm t = .bool true) : Region.wanted o (yielded ops a.tmps) = true := by
  rcases hg with hg | ⟨k, t, hg, ht, hb⟩
  . simp [Region.wanted, hg]
  . have hv := hR.tmps t
    rw [hb] at hv
    simp only [VR] at hv
    have hy : yielded ops a.tmps k = some true := by
      have e : (ops[k]?).bind (·.dst) = some t := by simpa [gdT] using ht
      unfold yielded
      rw [e]
      rcases hq : a.tmps[t]? with _ | u
      . rw [Array.getD_eq_getD_getElem?, hq] at hv
        cases hv
      . rw [Array.getD_eq_getD_getElem?, hq] at hv
        simp only [Option.getD_some] at hv
        subst hv
        simp [hq]
    simp [Region.wanted, hg, hy]
theorem R.anew {w0 : World} {mA : Mem} {r : Rho} {m : MM} {nt : Nat} {lr l' : List (Nat × AV)} {hp : List AObj} {a : Act} {w w' : World} {d : Nat} {b : Bool} {g : Nat} (hR : R (fun _ => False) ([], []) w0 mA r m ⟨nt, look lr, hp, 0⟩ a w) (hd : d < nt) (hcl : clJs l' = true) (hrl : regsL (look lr) l')
    (hm : ∀ p v, m true p = some v -> w'.cell? p = some v /\ p.block < w'.heap.size) : R (fun _ => False) ([], []) w' (m true) [] (nest (m true)) ⟨nt, look ((d, .bool b) :: (GH, .gh g) :: l'), [], 0⟩ (a.put (some d) (.bool b)) w' := by
  have hsz : a.tmps.size = nt := hR.size'
  refine { os := rfl, tape := rfl, output := rfl, size := Nat.le_refl _, old := fun _ _ _ => rfl, len := rfl, lt := by simp, mem := hm, low := (by intro p v h; cases h), newer := (by intro p v h; cases h), lim := fun p v h => .inl h, apart := by simp, obj := by simp, own := by simp, inj := by simp, size' := by simpa [Act.put] using hR.size', tmps := fun t => ?_, defers := by simpa [Act.put] using hR.defers, base := RLe.refl [], short := by simp, nox := fun _ => ⟨fun _ h => h, rfl⟩, marks := fun d hd => (by cases hd), mnod := List.nodup_nil }
  show VR [] (nest (m true)) (look ((d, .bool b) :: (GH, .gh g) :: l') t) _
  rw [look_cons]
  split
  . rename_i e
    subst e
    have : ((a.put (some t) (.bool b)).tmps).getD t undef = .bool b := by simp [Act.put, hsz, hd]
    rw [this]
    simp only [VR]
  . rename_i e
    rw [look_cons]
    split
    . simp only [VR]
    . have h1 := hR.tmps t
      have h2 : ((a.put (some d) (.bool b)).tmps).getD t undef = a.tmps.getD t undef := by simp [Act.put, Array.getElem?_setIfInBounds, Ne.symm e]
      rw [h2]
      rcases regsL_look hrl t with h3 | h3
      . rw [h3]; simp only [VR]
      . have h1' : VR r m (look lr t) (a.tmps.getD t undef) := h1
        rw [<- h3] at h1'
        exact clJ_VR (clJs_look hcl t) h1'
theorem WJ.rY {id : Nat} {ol : List Oper} (A B : List Oper) {j d : Nat} {f x : Operand} {tys : Array TypeId} {ty : TypeId} {pos : String} {af : Array Edge} {gd : Option (Nat × Bool)}
    (hl : ol = A ++ ⟨some d, .call ⟨.value f, #[x], tys⟩, ty, pos, af, gd⟩ :: B) (h1 : seqL P T ol [] 0 A st fun s1 => YSt C P T ol B j d f x gd (st.tm GH) s1 fun s2 => WJ C P T c s2 Q) : WJ C P T (.seq (.region id ol.toArray false) c) st Q := fun hC hT hf n w0 mA r m a w hJ0 hR0 => by
  refine wpIn_seq (wpIn_region_list ?_)
  have hlist : ol.toArray.toList = A ++ ⟨some d, .call ⟨.value f, #[x], tys⟩, ty, pos, af, gd⟩ :: B := hl
  rw [hlist]
  refine seqL_upto (ops := ol.toArray) (K := fun s1 => YSt C P T ol B j d f x gd (st.tm GH) s1 fun s2 => WJ C P T c s2 Q) hT ?_ A 0 hR0 h1
  rintro s1 r m a w ⟨nt, lr, hp, i, Y, l', rfl, hgd, hdn, hf1, hg1, hLi, hY, hcl, hrl, hk1, hk2⟩ hR
  rw [hg1] at hJ0
  have hJ : C.J i mA w0 := hJ0
  have hJ' : C.J i (m true) w := hC.ext i mA w0 w (m true) hJ (grown_of_R hR) fun p u hu => ⟨(hR.mem p u hu).1, (hR.mem p u hu).2, hR.lim p u hu⟩
  have hX : VR [] (nest (m true)) Y (a.eval x) := hY [] _ _ (Low.nest _) (cv0_sound hR 6 _ _ (hR.eval x))
  obtain ⟨fn, tmps, assign, body, hrun, hround⟩ := hC.step (n - 1) i Y (m true) w (a.eval x) hLi hJ' hX
  refine wpListIn_step fun K' hK' => ?_
  rw [if_pos (wanted_of hR hgd)]
  refine ⟨fun _ _ => trivial, ?_⟩
  rw [Oper.semAt_eq _ _ _ (fun c' h' => by cases h')]
  have hfv := hR.eval f
  rw [hf1] at hfv
  simp only [VR] at hfv
  have hexec : (execOp a.eval ⟨some d, .call ⟨.value f, #[x], tys⟩, ty, pos, af, gd⟩).run P w = .ok (.round C.l fn tmps assign body) w := by
    simp only [execOp, resolve, Deferred.ofValue, hfv, Sem.run_bind, Sem.run_pure, Result.andThen_ok, invoke]
    simpa using hrun
  rw [hexec]
  refine ⟨fun h => (by cases h), hround.mono ?_⟩
  rintro e w' (⟨rfl, hJ2⟩ | ⟨rfl, hJ2⟩)
  . refine hK' _ _ (seqL_sound hT (fun s r' m' a' w'' hs hR' => ?_) B j (hR.anew hdn hcl hrl (hC.mem _ _ _ hJ2)) hk1)
    exact hs.2 hC hT hf n w' (m true) r' m' a' w'' (by rw [hs.1]; exact hJ2) hR'
  . refine hK' _ _ (seqL_sound hT (fun s r' m' a' w'' hs hR' => ?_) B j (hR.anew hdn hcl hrl (hC.memx _ _ hJ2)) hk2)
    exact hs.2 hC hT hf n w' (m true) r' m' a' w'' (by rw [hs.1]; exact hJ2) hR'
theorem FnIt.of_walk {fI : FuncId} {nt : Nat} {rs : List ResultVar} {caps L : List AV} (hT : TsOk P T) (hm : P.follows .mixedOrders = true) (hf : IsFn P fI c nt rs) (hrs : rs = []) (hn : caps.length + 1 <= nt)
    (h : ∀ C : ItC, C.L = L -> WJ C P T c ⟨nt, look ((GH, .gh 1) :: enumT 0 (.yl C.l :: caps)), [], 0⟩ (fun e s => (e = .nrm \/ e = .ret) /\ (s.tm GH = .gh 0 \/ s.tm GH = .gh (L.length + 1)))) : FnIt P fI caps L := by
  obtain ⟨fn, h1, h2, h3, h4, h5⟩ := hf.fn
  refine ⟨⟨fn, h1, h2, by rw [h3]; rfl⟩, fun n mC w cv hcv l J Jx ab abx mem memx ext step hJ => ?_⟩
  have hC : ItC.Ok ⟨l, J, Jx, L⟩ P := ⟨ab, abx, mem, memx, ext, step⟩
  have hvs : VRs [] (nest mC) (.yl l :: caps) (.func (.yield l) #[] #[] :: cv) := by
    simp only [VRs]
    exact ⟨_, _, rfl, by simp only [VR], hcv⟩
  have hR := enter_R (nt := nt) (mem 0 mC w hJ) hvs (by simpa using hn) (fun _ => False) (fun _ hf => hf)
  have hlen := hcv.length
  have hR2 : R (fun _ => False) ([], []) w mC [] (nest mC) ⟨nt, look ((GH, .gh 1) :: enumT 0 (.yl l :: caps)), [], 0⟩ { tmps := (.func (.yield l) #[] #[] :: cv).toArray ++ Array.replicate (nt - (.func (.yield l) #[] #[] :: cv).toArray.size) undef, defers := [] } w := by
    refine { hR with size' := hR.size', tmps := fun t => ?_, nox := hR.nox, short := hR.short, base := hR.base, defers := hR.defers }
    show VR [] (nest mC) (look ((GH, .gh 1) :: enumT 0 (.yl l :: caps)) t) _
    rw [look_cons]
    split
    . simp only [VR]
    . exact hR.tmps t
  have hargs : (#[Value.func (.yield l) #[] #[]] ++ cv.toArray) = (Value.func (.yield l) #[] #[] :: cv).toArray := by simp
  rw [hargs]
  refine callsIn_of_wp_marks h1 h3 trivial ?_
  rw [h4]
  refine wpIn_mono (h ⟨l, J, Jx, L⟩ rfl hC hT hm n w mC [] (nest mC) _ w hJ hR2) ?_
  have fin : ∀ (a' : Act) (w' : World) w0 mA r m s, (s.tm GH = .gh 0 \/ s.tm GH = .gh (L.length + 1)) -> Jg ⟨l, J, Jx, L⟩ (s.tm GH) mA w0 -> R (fun _ => False) ([], []) w0 mA r m s a' w' →
      LeavesInM (FW none) n P fn a'.tmps (fun e w' => (∃ v, e = .returned v) /\ ((∃ m, J L.length m w') \/ ∃ m, Jx m w')) a'.defers .returning w' := by
    intro a' w' w0 mA r m s hs hJ' hR'
    rw [hR'.defers]
    obtain ⟨v, hv⟩ : ∃ v, (results fn a'.tmps).run P w' = .ok v w' := by
      have hres : fn.results = #[] := by
        apply Array.toList_inj.1
        rw [h5, hrs]
      simp [results, hres, Sem.run_pure]
    refine ⟨v, hv, ⟨v, rfl⟩, ?_⟩
    rcases hs with hs | hs
    . rw [hs] at hJ'
      exact .inr ⟨mA, abx _ _ _ hJ' (grown_of_R hR')⟩
    . rw [hs] at hJ'
      exact .inl ⟨mA, ab _ _ _ _ hJ' (grown_of_R hR')⟩
  intro e a' w' he
  cases e <;> simp only [relJ, bodyPostM] at he ⊢ <;> try exact he.elim
  . obtain ⟨w0, mA, r, m, s, ⟨-, hs⟩, hJ', hR'⟩ := he
    exact fin a' w' w0 mA r m s hs hJ' hR'
  . obtain ⟨w0, mA, r, m, s, ⟨hs, -⟩, hJ', hR'⟩ := he
    rcases hs with hs | hs <;> cases hs
  . obtain ⟨w0, mA, r, m, s, ⟨-, hs⟩, hJ', hR'⟩ := he
    exact fin a' w' w0 mA r m s hs hJ' hR'
end
end Go.Lat
namespace Go.Lat
open Go.RowKit
theorem rd_nrm {A B : St -> Prop} {s : St} (h : A s) : rndQ A B .nrm s := h
theorem rd_ret {A B : St -> Prop} {s : St} (h : B s) : rndQ A B .ret s := h
theorem noF_ints : ∀ xs : List Int, noFs (zYy zYx xs) = true
  | [] => rfl
  | x :: xs => by
    have := noF_ints xs
    simpa only [zYy, zYx, noFs, noF, List.flatMap_cons, List.cons_append, List.nil_append, Bool.true_and] using this
section
variable {P : Program} {T : TT} {Q : Ex -> St -> Prop} {g : Operand} {p n : Nat} {assign body : Code} {gf : FuncId} {caps caps' : List AV} {l0 lg : List (Nat × AV)}
theorem W.rng1_2 {γ : Type} {α0 : Type} {β0 β1 : Type} (e : γ -> AV) (xs : List γ) (q : Nat) (y0 : α0) (H : α0 -> List AObj) (I : Nat -> α0 -> Prop) (Hr : β0 -> β1 -> List AObj) (Ir : β0 -> β1 -> Prop)
    (hp : Nat.ble (p + 1) n = true) (he : St.eval ⟨n, look lg, H y0, 0⟩ g = .clo gf [] caps) (hF : FnIt P gf caps' (xs.map e)) (hcc : Wks (caps.map (conv 6 [])) caps') (hL : ∀ c, noF (e c) = true) (hl0 : regsL (look lg) l0) (hq : 0 < q) (hs : stabL q l0 = true)
    (hH : ∀ i (x0 : α0), I i x0 -> ∀ o ∈ H x0, noFO o = true) (hng1 : noRg assign = true) (hng2 : noRg body = true) (h0 : I 0 y0)
    (hr : ∀ i c (x0 : α0), xs[i]? = some c -> I i x0 -> W P T assign ⟨n, look ((p, e c) :: l0), H x0, q⟩ (thenA (fun s => W P T body s (rndQ (fun s => ∃ (_ : Unit) (x0 : α0), I (i + 1) x0 /\ s.to ⟨n, look [], H x0, q⟩) (fun s => ∃ (_ : Unit) (z0 : β0) (z1 : β1), Ir z0 z1 /\ s.to ⟨n, look [], Hr z0 z1, q⟩))) (fun _ _ => False)))
    (hd : ∀ (x0 : α0), I xs.length x0 -> Q .nrm ⟨n, look l0, H x0, 0⟩) (hx : ∀ (z0 : β0) (z1 : β1), Ir z0 z1 -> Q .ret ⟨n, look l0, Hr z0 z1, 0⟩) : W P T (.rangeFunc g #[p] assign body) ⟨n, look lg, H y0, 0⟩ Q :=
  W.range (α := α0) (β := β0 × β1) q y0 (fun y => H y) (fun i y => I i y) (fun z => Hr z.1 z.2) (fun z => Ir z.1 z.2) rfl hp he hF hcc
    (fun x hx => by obtain ⟨c, -, rfl⟩ := List.mem_map.1 hx; exact hL c) hl0 hq hs (fun i y hy => hH i y hy) hng1 hng2 h0
    (fun i x y hx hy => by
      rw [List.getElem?_map] at hx
      rcases hc : xs[i]? with _ | c
      . rw [hc] at hx; cases hx
      . rw [hc] at hx; cases hx
        refine (hr i c y hc hy).mono fun e s h => ?_
        cases e <;> simp only [thenA] at h ⊢
        refine h.mono fun e s h => ?_
        cases e <;> simp only [rndQ] at h ⊢
        . obtain ⟨_, x0, h1, h2⟩ := h
          exact ⟨x0, h1, h2⟩
        . obtain ⟨_, z0, z1, h1, h2⟩ := h
          exact ⟨(z0, z1), h1, h2⟩)
    (fun y hy => hd y (by rw [List.length_map] at hy; exact hy)) (fun z hz => hx z.1 z.2 hz)
end
end Go.Lat
namespace Go.Lat
open Go.RowKit
theorem Ren.gh {φ : List (Option Nat)} (k : Nat) : Ren φ (.gh k) (.gh k) := fun _ _ _ _ _ => by simp only [VR]
theorem Ren.yl {φ : List (Option Nat)} (k : Nat) : Ren φ (.yl k) (.yl k) := fun _ _ _ _ hv => by simpa only [VR] using hv
section
variable {C : ItC} {P : Program} {T : TT} {st : St} {Q : Ex -> St -> Prop} {c c' : Code}
theorem WJ.mid1 {α0 : Type} (S : α0 -> St) (p : α0 -> Prop) (h' : ∀ (x0 : α0), p x0 -> WJ C P T c' (S x0) Q) (h : WJ C P T c st (thenA (fun s => ∃ (_ : Unit) (x0 : α0), p x0 /\ s.to (S x0) /\ (S x0).tm GH = s.tm GH) Q)) : WJ C P T (.seq c c') st Q :=
  WJ.seq _ h fun _ ⟨_, x0, hx, hs, hg⟩ => WJ.to hs hg (h' x0 hx)
theorem WJ.loop1 {α0 : Type} (S : α0 -> St) (p : α0 -> Prop) (μ : α0 -> Nat) (z0 : α0) (hs : st.to (S z0)) (hg : (S z0).tm GH = st.tm GH) (hp : p z0)
    (h : ∀ (x0 : α0), p x0 -> WJ C P T c (S x0) (thenA (fun s => ∃ (_ : Unit) (y0 : α0), (p y0 /\ μ y0 < μ x0) /\ s.to (S y0) /\ (S y0).tm GH = s.tm GH) Q)) : WJ C P T (.loop c) st Q :=
  WJ.loop (fun k s => ∃ (x0 : α0), p x0 /\ μ x0 = k /\ s.to (S x0) /\ (S x0).tm GH = s.tm GH) (k := μ z0) ⟨z0, hp, rfl, hs, hg⟩ fun k s ⟨x0, hx, hk, hs, hg⟩ => WJ.to hs hg ((h x0 hx).mono fun e s' h => by
    cases e <;> simp only [thenA] at h ⊢ <;> try exact h
    obtain ⟨_, y0, ⟨h1, h2⟩, h3, h4⟩ := h
    exact ⟨μ y0, by rw [<- hk]; exact h2, y0, h1, rfl, h3, h4⟩)
theorem WJ.mid2 {α0 α1 : Type} (S : α0 -> α1 -> St) (p : α0 -> α1 -> Prop) (h' : ∀ (x0 : α0) (x1 : α1), p x0 x1 -> WJ C P T c' (S x0 x1) Q) (h : WJ C P T c st (thenA (fun s => ∃ (_ : Unit) (x0 : α0) (x1 : α1), p x0 x1 /\ s.to (S x0 x1) /\ (S x0 x1).tm GH = s.tm GH) Q)) : WJ C P T (.seq c c') st Q :=
  WJ.seq _ h fun _ ⟨_, x0, x1, hx, hs, hg⟩ => WJ.to hs hg (h' x0 x1 hx)
theorem WJ.loop2 {α0 α1 : Type} (S : α0 -> α1 -> St) (p : α0 -> α1 -> Prop) (μ : α0 -> α1 -> Nat) (z0 : α0) (z1 : α1) (hs : st.to (S z0 z1)) (hg : (S z0 z1).tm GH = st.tm GH) (hp : p z0 z1)
    (h : ∀ (x0 : α0) (x1 : α1), p x0 x1 -> WJ C P T c (S x0 x1) (thenA (fun s => ∃ (_ : Unit) (y0 : α0) (y1 : α1), (p y0 y1 /\ μ y0 y1 < μ x0 x1) /\ s.to (S y0 y1) /\ (S y0 y1).tm GH = s.tm GH) Q)) : WJ C P T (.loop c) st Q :=
  WJ.loop (fun k s => ∃ (x0 : α0) (x1 : α1), p x0 x1 /\ μ x0 x1 = k /\ s.to (S x0 x1) /\ (S x0 x1).tm GH = s.tm GH) (k := μ z0 z1) ⟨z0, z1, hp, rfl, hs, hg⟩ fun k s ⟨x0, x1, hx, hk, hs, hg⟩ => WJ.to hs hg ((h x0 x1 hx).mono fun e s' h => by
    cases e <;> simp only [thenA] at h ⊢ <;> try exact h
    obtain ⟨_, y0, y1, ⟨h1, h2⟩, h3, h4⟩ := h
    exact ⟨μ y0 y1, by rw [<- hk]; exact h2, y0, y1, h1, rfl, h3, h4⟩)
theorem WJ.mid3 {α0 α1 α2 : Type} (S : α0 -> α1 -> α2 -> St) (p : α0 -> α1 -> α2 -> Prop) (h' : ∀ (x0 : α0) (x1 : α1) (x2 : α2), p x0 x1 x2 -> WJ C P T c' (S x0 x1 x2) Q) (h : WJ C P T c st (thenA (fun s => ∃ (_ : Unit) (x0 : α0) (x1 : α1) (x2 : α2), p x0 x1 x2 /\ s.to (S x0 x1 x2) /\ (S x0 x1 x2).tm GH = s.tm GH) Q)) : WJ C P T (.seq c c') st Q :=
  WJ.seq _ h fun _ ⟨_, x0, x1, x2, hx, hs, hg⟩ => WJ.to hs hg (h' x0 x1 x2 hx)
theorem WJ.loop3 {α0 α1 α2 : Type} (S : α0 -> α1 -> α2 -> St) (p : α0 -> α1 -> α2 -> Prop) (μ : α0 -> α1 -> α2 -> Nat) (z0 : α0) (z1 : α1) (z2 : α2) (hs : st.to (S z0 z1 z2)) (hg : (S z0 z1 z2).tm GH = st.tm GH) (hp : p z0 z1 z2)
    (h : ∀ (x0 : α0) (x1 : α1) (x2 : α2), p x0 x1 x2 -> WJ C P T c (S x0 x1 x2) (thenA (fun s => ∃ (_ : Unit) (y0 : α0) (y1 : α1) (y2 : α2), (p y0 y1 y2 /\ μ y0 y1 y2 < μ x0 x1 x2) /\ s.to (S y0 y1 y2) /\ (S y0 y1 y2).tm GH = s.tm GH) Q)) : WJ C P T (.loop c) st Q :=
  WJ.loop (fun k s => ∃ (x0 : α0) (x1 : α1) (x2 : α2), p x0 x1 x2 /\ μ x0 x1 x2 = k /\ s.to (S x0 x1 x2) /\ (S x0 x1 x2).tm GH = s.tm GH) (k := μ z0 z1 z2) ⟨z0, z1, z2, hp, rfl, hs, hg⟩ fun k s ⟨x0, x1, x2, hx, hk, hs, hg⟩ => WJ.to hs hg ((h x0 x1 x2 hx).mono fun e s' h => by
    cases e <;> simp only [thenA] at h ⊢ <;> try exact h
    obtain ⟨_, y0, y1, y2, ⟨h1, h2⟩, h3, h4⟩ := h
    exact ⟨μ y0 y1 y2, by rw [<- hk]; exact h2, y0, y1, y2, h1, rfl, h3, h4⟩)
theorem WJ.mid4 {α0 α1 α2 α3 : Type} (S : α0 -> α1 -> α2 -> α3 -> St) (p : α0 -> α1 -> α2 -> α3 -> Prop) (h' : ∀ (x0 : α0) (x1 : α1) (x2 : α2) (x3 : α3), p x0 x1 x2 x3 -> WJ C P T c' (S x0 x1 x2 x3) Q) (h : WJ C P T c st (thenA (fun s => ∃ (_ : Unit) (x0 : α0) (x1 : α1) (x2 : α2) (x3 : α3), p x0 x1 x2 x3 /\ s.to (S x0 x1 x2 x3) /\ (S x0 x1 x2 x3).tm GH = s.tm GH) Q)) : WJ C P T (.seq c c') st Q :=
  WJ.seq _ h fun _ ⟨_, x0, x1, x2, x3, hx, hs, hg⟩ => WJ.to hs hg (h' x0 x1 x2 x3 hx)
theorem WJ.loop4 {α0 α1 α2 α3 : Type} (S : α0 -> α1 -> α2 -> α3 -> St) (p : α0 -> α1 -> α2 -> α3 -> Prop) (μ : α0 -> α1 -> α2 -> α3 -> Nat) (z0 : α0) (z1 : α1) (z2 : α2) (z3 : α3) (hs : st.to (S z0 z1 z2 z3)) (hg : (S z0 z1 z2 z3).tm GH = st.tm GH) (hp : p z0 z1 z2 z3)
    (h : ∀ (x0 : α0) (x1 : α1) (x2 : α2) (x3 : α3), p x0 x1 x2 x3 -> WJ C P T c (S x0 x1 x2 x3) (thenA (fun s => ∃ (_ : Unit) (y0 : α0) (y1 : α1) (y2 : α2) (y3 : α3), (p y0 y1 y2 y3 /\ μ y0 y1 y2 y3 < μ x0 x1 x2 x3) /\ s.to (S y0 y1 y2 y3) /\ (S y0 y1 y2 y3).tm GH = s.tm GH) Q)) : WJ C P T (.loop c) st Q :=
  WJ.loop (fun k s => ∃ (x0 : α0) (x1 : α1) (x2 : α2) (x3 : α3), p x0 x1 x2 x3 /\ μ x0 x1 x2 x3 = k /\ s.to (S x0 x1 x2 x3) /\ (S x0 x1 x2 x3).tm GH = s.tm GH) (k := μ z0 z1 z2 z3) ⟨z0, z1, z2, z3, hp, rfl, hs, hg⟩ fun k s ⟨x0, x1, x2, x3, hx, hk, hs, hg⟩ => WJ.to hs hg ((h x0 x1 x2 x3 hx).mono fun e s' h => by
    cases e <;> simp only [thenA] at h ⊢ <;> try exact h
    obtain ⟨_, y0, y1, y2, y3, ⟨h1, h2⟩, h3, h4⟩ := h
    exact ⟨μ y0 y1 y2 y3, by rw [<- hk]; exact h2, y0, y1, y2, y3, h1, rfl, h3, h4⟩)
theorem WJ.rYn {id : Nat} {ol : List Oper} (y : Nat) {j d : Nat} {f x : Operand} {tys : Array TypeId} {ty : TypeId} {pos : String} {af : Array Edge} {gd : Option (Nat × Bool)}
    (hl : ol[y]? = some ⟨some d, .call ⟨.value f, #[x], tys⟩, ty, pos, af, gd⟩) (h1 : seqL P T ol [] 0 (ol.take y) st fun s1 => YSt C P T ol (ol.drop (y + 1)) j d f x gd (st.tm GH) s1 fun s2 => WJ C P T c s2 Q) : WJ C P T (.seq (.region id ol.toArray false) c) st Q :=
  WJ.rY (ol.take y) (ol.drop (y + 1)) (by
    obtain ⟨h, e⟩ := List.getElem?_eq_some_iff.1 hl
    rw [<- e, List.getElem_cons_drop, List.take_append_drop]) h1
end
end Go.Lat
namespace Go.Lat
open Go.RowKit

def stepM (P : Program) (T : TT) (ops : Array Oper) (p i : Nat) (st : St) (K : St -> Prop) : Prop :=
  if i = p then match ops[i]? with
    | none => K st
    | some o => stepH P T ops.toList o st K
  else stepI P T ops i st K
def seqM (P : Program) (T : TT) (ops : Array Oper) (p : Nat) : List Nat -> St -> (St -> Prop) -> Prop
  | [], st, K => K st
  | i :: l, st, K => stepM P T ops p i st fun s => seqM P T ops p l s K
def anyM (P : Program) (T : TT) (ops : Array Oper) (p : Nat) (K : St -> Prop) : Nat -> Array Bool -> St -> Prop
  | 0, listed, st => Region.ready .any ops listed = [] /\ K st
  | n + 1, listed, st => Wf st -> (Region.ready .any ops listed = [] -> K st) /\ ∀ i ∈ Region.ready .any ops listed, stepM P T ops p i st fun s => anyM P T ops p K n (listed.setIfInBounds i true) s

section
variable {X : Nat -> Prop} {D : List Deferred × Rho} {w0 : World} {mA : Mem} {r : Rho} {m : MM} {st : St} {a : Act} {w : World} {P : Program} {T : TT} {ops : Array Oper} {K K' : St -> Prop} {p : Nat}

theorem stepH_sound (hT : TsOk P T) (hR : R X D w0 mA r m st a w) {o : Oper} (h : stepH P T ops.toList o st K) {ro : Option Nat} {n : Nat} {next : Act -> World -> Prop} {Q : Exit -> Act -> World -> Prop}
    (hnext : ∀ s r' m' a' w', K s -> R X D w0 mA r' m' s a' w' -> next a' w') :
    if Region.wanted o (yielded ops a.tmps) then o.wpIn (FW ro) n P a w next Q else (∀ f, o.about P w a.eval = some f -> (FW ro).fn f) /\ next (a.put o.dst undef) w := by
  unfold stepH at h
  split at h
  . rename_i d f args tys ty pos af
    rw [if_pos (by rfl)]
    rcases h with h | h | h
    . exact opC_sound (o := ⟨d, .call ⟨.value f, args, tys⟩, ty, pos, af, none⟩) hT hR (K := fun v h => K (St.put ⟨st.nt, st.tm, h, st.ho⟩ d v)) h fun x h' r' m' u w' hK hR' hv => hnext _ _ _ _ w' hK (hR'.put d hv)
    . exact callH_sound (o := ⟨d, .call ⟨.value f, args, tys⟩, ty, pos, af, none⟩) hR rfl (K := fun v h => K (St.put ⟨st.nt, st.tm, h, st.ho⟩ d v)) h fun x h' r' m' u w' hK hR' hv => hnext _ _ _ _ w' hK (hR'.put d hv)
    . exact callG_sound (o := ⟨d, .call ⟨.value f, args, tys⟩, ty, pos, af, none⟩) hR rfl (K := fun v h => K (St.put ⟨st.nt, st.tm, h, st.ho⟩ d v)) h fun x h' r' m' u w' hK hR' hv => hnext _ _ _ _ w' hK (hR'.put d hv)
  . exact stepG_sound hT hR h hnext

theorem callH_mono {h : List AObj} {f : AV} {args : List AV} {A B : AV -> List AObj -> Prop} (hc : callH P h f args A) (hab : ∀ v h', A v h' -> B v h') : callH P h f args B := by
  unfold callH at hc ⊢
  split at hc <;> try exact hc.elim
  rcases hc with ⟨Post, hfn, hpost⟩ | ⟨id, ob, x0, y0, ys, Post, hae, hob, hfl, hx0, hfn, hpost⟩ | ⟨nb, Post, hfn, hpost⟩ | ⟨Post, hfn, hpost⟩
  . exact .inl ⟨Post, hfn, fun o ho => hab _ _ (hpost o ho)⟩
  . exact .inr (.inl ⟨id, ob, x0, y0, ys, Post, hae, hob, hfl, hx0, hfn, fun x o ho => hab _ _ (hpost x o ho)⟩)
  . exact .inr (.inr (.inl ⟨nb, Post, hfn, fun n o ho => hab _ _ (hpost n o ho)⟩))
  . exact .inr (.inr (.inr ⟨Post, hfn, fun o ho => hab _ _ (hpost o ho)⟩))
theorem stepH_mono {o : Oper} (h : stepH P T ops.toList o st K) (hk : ∀ s, K s -> K' s) : stepH P T ops.toList o st K' := by
  unfold stepH at h ⊢
  split at h
  . rename_i d f args tys ty pos af
    rcases h with h | h | h
    . exact .inl (stepG_mono' (T := T) (ops := ops) (o := ⟨d, .call ⟨.value f, args, tys⟩, ty, pos, af, none⟩) h hk)
    . exact .inr (.inl (callH_mono h fun v h' hv => hk _ hv))
    . exact .inr (.inr (callG_mono h fun v h' hv => hk _ hv))
  . exact stepG_mono' h hk
theorem stepM_mono {i : Nat} (h : stepM P T ops p i st K) (hk : ∀ s, K s -> K' s) : stepM P T ops p i st K' := by
  unfold stepM at h ⊢
  split
  . rename_i e
    rw [if_pos e] at h
    split at h
    . exact hk _ h
    . exact stepH_mono h hk
  . rename_i e
    rw [if_neg e] at h
    unfold stepI at h ⊢
    split at h
    . exact hk _ h
    . exact stepG_mono' h hk

theorem anyM_sound (hT : TsOk P T) {ro : Option Nat} {n : Nat} {Q : Exit -> Act -> World -> Prop} (hQ : ∀ s r' m' a' w', K s -> R X D w0 mA r' m' s a' w' -> Q .normal a' w') :
    ∀ (fuel : Nat) (listed : Array Bool) {r : Rho} {m : MM} {st : St} {a : Act} {w : World}, R X D w0 mA r m st a w -> anyM P T ops p K fuel listed st -> wpAnyIn (FW ro) n P .any ops Q fuel listed a w
  | 0, listed, _, _, _, _, _, hR, h => ⟨h.1, hQ _ _ _ _ _ h.2 hR⟩
  | fuel + 1, listed, _, _, _, _, _, hR, h => by
    obtain ⟨h1, h2⟩ := h hR.wf
    refine ⟨fun hn => hQ _ _ _ _ _ (h1 hn) hR, fun i hi => ?_⟩
    have h3 := h2 i hi
    unfold stepM stepI at h3
    unfold wpOpIn
    split
    . rename_i ho
      rw [ho] at h3
      simp only [ite_self] at h3
      exact anyM_sound hT hQ fuel _ hR h3
    . rename_i o ho
      rw [ho] at h3
      simp only at h3
      split at h3
      . exact stepH_sound hT hR h3 fun s r' m' a' w' hs hR' => anyM_sound hT hQ fuel _ hR' hs
      . exact stepG_sound hT hR h3 fun s r' m' a' w' hs hR' => anyM_sound hT hQ fuel _ hR' hs

theorem bubbleM {oi : Oper} {i : Nat} (ho : ops[i]? = some oi) (hip : i ≠ p) {st0 : St} (hw : Wf st0) {rest : List Nat} : ∀ (pre : List Nat) (st : St), Inv ops oi st0 st -> p ∉ pre →
    (∀ j ∈ pre, okP ops j i = true) -> seqM P T ops p (pre ++ i :: rest) st K -> stepG P T ops.toList oi st fun s => seqM P T ops p (pre ++ rest) s K
  | [], st, _, _, _, h => by
    simp only [List.nil_append, seqM, stepM, if_neg hip, stepI, ho] at h ⊢
    exact h
  | j :: pre, st, hI, hnp, hp, h => by
    have hj := hp j (by simp)
    have hjp : j ≠ p := fun e => hnp (by simp [e])
    unfold okP at hj
    rw [ho] at hj
    split at hj
    . rename_i oj oi' hoj he
      cases he
      simp only [Bool.and_eq_true] at hj
      simp only [List.cons_append, seqM, stepM, if_neg hjp, stepI, hoj] at h ⊢
      exact swap hw hj.1 hj.2 hI (stepG_mono' h fun s hs hinv => bubbleM ho hip hw pre s hinv (fun hh => hnp (by simp [hh])) (fun k hk => hp k (by simp [hk])) hs)
    . cases hj

def oneB (A : List (List Nat)) (p : Nat) : List Nat -> Bool
  | [] => true
  | i :: l => if i = p then l.all fun k => (A.getD k []).contains p else (A.getD p []).contains i && oneB A p l

theorem oneB_spec {A : List (List Nat)} {p : Nat} : ∀ {l : List Nat}, l.Nodup -> oneB A p l = true -> l.Pairwise fun a b => (b = p -> a ∈ A.getD p []) /\ (a = p -> p ∈ A.getD b [])
  | [], _, _ => List.Pairwise.nil
  | i :: l, hn, h => by
    have hn' := List.nodup_cons.1 hn
    unfold oneB at h
    split at h
    . rename_i e
      subst e
      simp only [List.all_eq_true, List.contains_iff_mem] at h
      refine List.Pairwise.cons (fun b hb => ⟨fun e => ?_, fun _ => h b hb⟩) ?_
      . subst e; exact absurd hb hn'.1
      . refine List.Pairwise.imp_of_mem ?_ hn'.2
        intro a b ha hb _
        exact ⟨fun e => absurd (e ▸ hb) hn'.1, fun e => absurd (e ▸ ha) hn'.1⟩
    . rename_i e
      simp only [Bool.and_eq_true, List.contains_iff_mem] at h
      exact List.Pairwise.cons (fun b hb => ⟨fun _ => h.1, fun e' => absurd e' e⟩) (oneB_spec hn'.2 h.2)

theorem any_of_seqM {A : List (List Nat)} (hA : chkA ops A = true) : ∀ (fuel : Nat) (listed : Array Bool) (l : List Nat) (st : St), Rest ops A listed l -> l.Pairwise (fun a b => (b = p -> a ∈ A.getD p []) /\ (a = p -> p ∈ A.getD b [])) -> l.length = fuel -> seqM P T ops p l st K -> anyM P T ops p K fuel listed st := by
  intro fuel
  induction fuel with
  | zero =>
    intro listed l st hr hp hl h
    have : l = [] := List.eq_nil_of_length_eq_zero hl
    subst this
    refine ⟨?_, h⟩
    rcases hrd : Region.ready .any ops listed with _ | ⟨i, l'⟩
    . rfl
    . have := hr.ready_mem (i := i) (by rw [hrd]; simp)
      simp at this
  | succ fuel ih =>
    intro listed l st hr hp hl h hw
    refine ⟨fun hnil => ?_, fun i hi => ?_⟩
    . exfalso
      cases l with
      | nil => simp at hl
      | cons i l =>
        have h1 := hr.open' i (by simp)
        have hlt : i < ops.size := by
          rw [<- hr.size]
          rcases Nat.lt_or_ge i listed.size with h' | h'
          . exact h'
          . simp [Array.getElem?_eq_none h'] at h1
        have : i ∈ Region.ready .any ops listed := by
          refine mem_ready.2 ⟨h1, ops[i], by simp [hlt], fun e he hb => ?_⟩
          have hd : e.on ∈ dirs ops i := by
            simp only [dirs, Array.getElem?_eq_getElem hlt, List.mem_map, List.mem_filter]
            exact ⟨e, ⟨by simpa using he, hb⟩, rfl⟩
          by_cases hsz : e.on < ops.size
          . rcases hr.all e.on hsz with h2 | h2
            . exact h2
            . exfalso
              rcases List.mem_cons.1 h2 with h3 | h3
              . exact (hr.self i hlt _ hd).2 h3
              . have h4 := (List.pairwise_cons.1 hr.pair).1 _ h3
                simp only [relB, Bool.and_eq_true, Bool.not_eq_true'] at h4
                have h5 := h4.1
                simp at h5
                exact h5 hd
          . exact absurd (hr.self i hlt _ hd).1 hsz
        rw [hnil] at this
        cases this
    . have hmem := hr.ready_mem hi
      obtain ⟨pre, rest, rfl⟩ := List.append_of_mem hmem
      obtain ⟨_, oi, ho, _⟩ := mem_ready.1 hi
      have hlt : i < ops.size := by
        rcases Nat.lt_or_ge i ops.size with h' | h'
        . exact h'
        . rw [Array.getElem?_eq_none h'] at ho; cases ho
      have hanc : ∀ j ∈ pre, j ∉ A.getD i [] := fun j hj hin => by
        have := hr.anc hA i (dirs_ready hi) j hin hlt
        rw [getD_tf (hr.open' j (by simp [hj]))] at this
        cases this
      have hpp := hp
      rw [List.pairwise_append] at hp
      have hp' : (pre ++ rest).Pairwise (fun a b => (b = p -> a ∈ A.getD p []) /\ (a = p -> p ∈ A.getD b [])) := hpp.sublist (List.Sublist.append_left (List.sublist_cons_self i rest) pre)
      by_cases hip : i = p
      . have hpre : pre = [] := by
          cases pre with
          | nil => rfl
          | cons j pre =>
            have h1 := (hp.2.2 j (by simp) i (by simp)).1 hip
            rw [<- hip] at h1
            exact absurd h1 (hanc j (by simp))
        subst hpre
        simp only [List.nil_append, seqM] at h
        exact stepM_mono h fun s hs => ih _ _ s (hr.next (pre := []) hi) hp' (by simp at hl ⊢; omega) hs
      . have hnp : p ∉ pre := fun hin => hanc p hin ((hp.2.2 p hin i (by simp)).2 rfl)
        have hok : ∀ j ∈ pre, okP ops j i = true := by
          intro j hj
          have hq := hr.pair
          rw [List.pairwise_append] at hq
          have h4 := hq.2.2 j hj i (by simp)
          simp only [relB, Bool.and_eq_true, Bool.or_eq_true, List.contains_iff_mem] at h4
          rcases h4.2 with h5 | h5
          . exact absurd h5 (hanc j hj)
          . exact h5
        have hb := bubbleM (K := K) ho hip hw pre st ⟨⟨rfl, fun _ _ => rfl⟩, Nat.le_refl _, fun _ => ⟨[], by simp⟩⟩ hnp hok h
        simp only [stepM, if_neg hip, stepI, ho]
        exact stepG_mono' hb fun s hs => ih _ _ s (hr.next hi) hp' (by simp at hl ⊢; omega) hs

theorem W.drawM {Q : Ex -> St -> Prop} {id : Nat} (p : Nat) (ord : List Nat) (hc : chk ops ord = true) (h1 : oneB (ancs ops) p ord = true) (h : seqM P T ops p ord st (Q .nrm)) : W P T (.region id ops true) st Q := fun hT hf ro hro n X D w0 mA r m a w hR => by
  obtain ⟨h2, h3, h4⟩ := chk_rest hc
  refine wpIn_region_any hf ?_
  have hR' : R X D w0 mA r m st a { w with drawn := w.drawn + 1 } := { hR with }
  exact anyM_sound hT (fun s r' m' a' w' hs hR' => ⟨[], r', m', s, fun _ => rfl, hs, hR'⟩) ops.size _ hR' (any_of_seqM h2 ops.size _ ord st h3 (oneB_spec h3.nodup h1) h4 h)

variable {ol : List Oper} {n j : Nat} {l : List (Nat × AV)} {h : List AObj} {b : Nat} {o : Op} {ty : TypeId} {pos : String} {af : Array Edge} {KS : St -> Prop} {rest : List Nat} {i : Nat}
theorem cM {d : Nat} (hi : ol[i]? = some ⟨some d, o, ty, pos, af, none⟩) (hp : Nat.beq i p = false) (hd : Nat.ble (d + 1) n = true)
    (h1 : opC P T ⟨some d, o, ty, pos, af, none⟩ ⟨n, look l, h, b⟩ fun v h' => seqM P T ol.toArray p rest ⟨n, look ((d, v) :: l), h', b⟩ KS) : seqM P T ol.toArray p (i :: rest) ⟨n, look l, h, b⟩ KS := by
  have hd' : d < n := Nat.le_of_ble_eq_true hd
  have hp' : i ≠ p := Nat.ne_of_beq_eq_false hp
  have hi' : ol.toArray[i]? = some ⟨some d, o, ty, pos, af, none⟩ := by simpa using hi
  unfold seqM stepM stepI
  rw [if_neg hp', hi']
  show opC P T ⟨some d, o, ty, pos, af, none⟩ ⟨n, look l, h, b⟩ fun v h' => seqM P T ol.toArray p rest (St.put ⟨n, look l, h', b⟩ (some d) v) KS
  have e : (fun v h' => seqM P T ol.toArray p rest (St.put ⟨n, look l, h', b⟩ (some d) v) KS) = fun v h' => seqM P T ol.toArray p rest ⟨n, look ((d, v) :: l), h', b⟩ KS := by
    funext v h'
    rw [St.put_look d v hd']
  rw [e]
  exact h1
theorem cMg {d : Nat} {f : Operand} {args : Array Operand} {tys : Array TypeId} (hi : ol[p]? = some ⟨some d, .call ⟨.value f, args, tys⟩, ty, pos, af, none⟩) (hd : Nat.ble (d + 1) n = true)
    (h1 : callG P h (St.eval ⟨n, look l, h, b⟩ f) (args.toList.map (St.eval ⟨n, look l, h, b⟩)) fun v h' => seqM P T ol.toArray p rest ⟨n, look ((d, v) :: l), h', b⟩ KS) : seqM P T ol.toArray p (p :: rest) ⟨n, look l, h, b⟩ KS := by
  have hd' : d < n := Nat.le_of_ble_eq_true hd
  have hi' : ol.toArray[p]? = some ⟨some d, .call ⟨.value f, args, tys⟩, ty, pos, af, none⟩ := by simpa using hi
  unfold seqM stepM
  rw [if_pos rfl, hi']
  refine Or.inr (Or.inr ?_)
  have e : (fun v h' => seqM P T ol.toArray p rest (St.put ⟨n, look l, h', b⟩ (some d) v) KS) = fun v h' => seqM P T ol.toArray p rest ⟨n, look ((d, v) :: l), h', b⟩ KS := by
    funext v h'
    rw [St.put_look d v hd']
  show callG P h (St.eval ⟨n, look l, h, b⟩ f) (args.toList.map (St.eval ⟨n, look l, h, b⟩)) fun v h' => seqM P T ol.toArray p rest (St.put ⟨n, look l, h', b⟩ (some d) v) KS
  rw [e]
  exact h1
theorem eM {st : St} (h1 : KS st) : seqM P T ol.toArray p [] st KS := h1
theorem W.rM1 {Q : Ex -> St -> Prop} {id : Nat} {st : St} (p : Nat) (ord : List Nat) (hc : chk ol.toArray ord = true) (h0 : oneB (ancs ol.toArray) p ord = true) (h1 : seqM P T ol.toArray p ord st (Q .nrm)) : W P T (.region id ol.toArray true) st Q := W.drawM p ord hc h0 h1
end
end Go.Lat
namespace Go.Lat
open Go.RowKit

mutual
inductive PT where
  | leaf (P : List Nat)
  | node (P : List Nat) (B : PB)
inductive PB where
  | nil
  | cons (a : Nat) (t : PT) (r : PB)
end
section
variable (P : Program) (T : TT) (ops : Array Oper) (K : St -> Prop)
mutual
def PT.run : PT -> St -> Prop
  | .leaf L, st => seqI P T ops L st K
  | .node L B, st => seqI P T ops L st fun s => PB.run B s
def PB.run : PB -> St -> Prop
  | .nil, _ => True
  | .cons a t r, s => (stepI P T ops a s fun s' => PT.run t s') /\ PB.run r s
end
end
def PB.has : PB -> Nat -> Bool
  | .nil, _ => false
  | .cons a _ r, k => Nat.beq a k || PB.has r k
def PB.some : PB -> Bool
  | .nil => false
  | .cons .. => true
section
variable (ops : Array Oper) (A : List (List Nat))
def segOk (CP dn L : List Nat) : Bool :=
  decide L.Nodup && L.all (fun k => decide (k < ops.size) && !dn.contains k) && pairB ops A L && CP.all (fun c => L.all (relB ops A c)) && L.all fun q => (dirs ops q).all fun p => (dn ++ L).contains p
mutual
def chkT (CP dn : List Nat) : PT -> Bool
  | .leaf L => segOk ops A CP dn L && (List.range ops.size).all fun k => (dn ++ L).contains k
  | .node L B => segOk ops A CP dn L && PB.some B && ((List.range ops.size).all fun k => (dn ++ L).contains k || PB.has B k || (dirs ops k).any fun p => !(dn ++ L).contains p) && chkB (CP ++ L) (dn ++ L) B
def chkB (CP dn : List Nat) : PB -> Bool
  | .nil => true
  | .cons a t r => decide (a < ops.size) && !dn.contains a && CP.all (fun c => relB ops A c a) && (dirs ops a).all (fun p => dn.contains p) && chkT CP (dn ++ [a]) t && chkB CP dn r
end
end
def chkP (ops : Array Oper) (t : PT) : Bool :=
  chkA ops (ancs ops) && (List.range ops.size).all (fun i => (dirs ops i).all fun p => decide (p < ops.size) && p != i) && chkT ops (ancs ops) [] [] t

section
variable {P : Program} {T : TT} {ops : Array Oper} {K : St -> Prop} {A : List (List Nat)}
inductive PE where
  | fin
  | br (B : PB)
def PE.run (P : Program) (T : TT) (ops : Array Oper) (K : St -> Prop) : PE -> St -> Prop
  | .fin, s => K s
  | .br B, s => PB.run P T ops K B s
def PE.ok (ops : Array Oper) (A : List (List Nat)) (CP dn : List Nat) : PE -> Prop
  | .fin => ∀ k, k < ops.size -> k ∈ dn
  | .br B => PB.some B = true /\ (∀ k, k < ops.size -> k ∈ dn \/ PB.has B k = true \/ ∃ p ∈ dirs ops k, p ∉ dn) /\ chkB ops A CP dn B = true

structure Res (ops : Array Oper) (A : List (List Nat)) (listed : Array Bool) (L CP dn : List Nat) (E : PE) : Prop where
  size : listed.size = ops.size
  done : ∀ k, k < ops.size -> (k ∈ dn ↔ listed.getD k false = true \/ k ∈ L)
  lt : ∀ k ∈ L, k < ops.size
  open' : ∀ k ∈ L, listed.getD k true = false
  nodup : L.Nodup
  pair : L.Pairwise (fun a b => relB ops A a b = true)
  sub : ∀ k ∈ L, k ∈ CP
  closed : ∀ k, listed.getD k false = true -> ∀ p ∈ dirs ops k, listed.getD p false = true
  seg : ∀ q ∈ L, ∀ p ∈ dirs ops q, p ∈ dn
  self : ∀ k, k < ops.size -> ∀ p ∈ dirs ops k, p < ops.size /\ p ≠ k
  e : PE.ok ops A CP dn E

theorem Res.anc {listed : Array Bool} {L CP dn : List Nat} {E : PE} (h : Res ops A listed L CP dn E) (hA : chkA ops A = true) :
    ∀ (i : Nat), (∀ p ∈ dirs ops i, listed.getD p false = true) -> ∀ j ∈ A.getD i [], i < ops.size -> listed.getD j false = true := by
  intro i
  induction i using Nat.strongRecOn with
  | _ i ih =>
    intro hi j hj hlt
    simp only [chkA, List.all_eq_true, List.mem_range, Bool.or_eq_true, List.contains_iff_mem, List.any_eq_true, Bool.and_eq_true, decide_eq_true_eq] at hA
    rcases hA i hlt j hj with h1 | ⟨p, hp, hpi, hjp⟩
    . exact hi j h1
    . exact ih p hpi (h.closed p (hi p hp)) j hjp (by omega)

end
section
variable {P : Program} {T : TT} {ol : List Oper} {n : Nat} {l : List (Nat × AV)} {h : List AObj} {b : Nat} {o : Op} {ty : TypeId} {pos : String} {af : Array Edge} {KS : St -> Prop} {rest : List Nat} {i : Nat}
end
end Go.Lat
namespace Go.Lat
open Go.RowKit

section
variable {P : Program} {T : TT} {st : St}
def noCall (o : Op) : Bool := match o with
  | .call ⟨.value _, _, _⟩ => false
  | _ => true
def hasT (l : List (Nat × AV)) (t : Nat) : Bool := l.any fun x => Nat.beq x.1 t
variable (ol : List Oper) (l0 : List (Nat × AV)) (val : List AV) (kn : List (List (Nat × Nat)))
def knw (k : Nat) : List (Nat × AV) := l0 ++ (kn.getD k []).map fun x => (x.1, val.getD x.2 .any)
def chkV (ks : List Nat) (a b n : Nat) : Bool :=
  decide (a < b) && decide (b < ol.length) && (List.range ol.length).all fun k => match ol[k]? with
    | some o => o.guard.isNone && noCall o.op && (dirs ol.toArray k).all (fun p => decide (p < k)) && (kn.getD k []).all (fun x => (dirs ol.toArray k).contains x.2 && ((ol[x.2]?).bind (·.dst) == some x.1)) &&
        (Op.operands o.op).toList.all (fun x => match x with | .tmp t => ks.contains t || (kn.getD k []).any (fun y => Nat.beq y.1 t) | _ => true) &&
        (match o.dst with | some d => decide (d < n) && !ks.contains d && (List.range ol.length).all (fun j => Nat.beq j k || !((ol[j]?).bind (·.dst) == some d)) | none => true) &&
        (Nat.beq k b || (dirs ol.toArray b).contains k)
    | none => true
variable (P T) (n q : Nat)
def obs (hp : List AObj) (nx : Nat -> List AObj) : List Nat -> Prop
  | [] => True
  | k :: ks => (match ol[k]? with
    | some o => opC P T o ⟨n, look (knw l0 val kn k), hp, q⟩ (fun v h => (o.dst.isSome = true -> v = val.getD k .any) /\ h = nx k)
    | none => True) /\ obs hp nx ks
def regsE (tm : Nat -> AV) : List (Nat × AV) -> Prop
  | [] => True
  | x :: l => tm x.1 = x.2 /\ regsE tm l
variable {P T ol l0 val kn n q}
def stg (a b : Nat) (H0 H1 H2 : List AObj) (listed : Array Bool) : List AObj := if listed.getD b false = true then H2 else if listed.getD a false = true then H1 else H0
structure InvV (ol : List Oper) (l0 : List (Nat × AV)) (val : List AV) (n q a b : Nat) (H0 H1 H2 : List AObj) (listed : Array Bool) (st : St) : Prop where
  nt : st.nt = n
  ho : st.ho = q
  heap : st.heap = stg a b H0 H1 H2 listed
  base : ∀ x ∈ l0, st.tm x.1 = x.2
  vals : ∀ k o d, listed.getD k false = true -> ol[k]? = some o -> o.dst = some d -> st.tm d = val.getD k .any
  size : listed.size = ol.length
  closed : ∀ k, listed.getD k false = true -> ∀ p ∈ dirs ol.toArray k, listed.getD p false = true
def chkK (ol : List Oper) (a b : Nat) (K0 K1 : List Nat) : Bool :=
  (List.range ol.length).all fun k => (Nat.beq k b || K0.contains k) && (Nat.beq k a || (dirs ol.toArray a).contains k || K1.contains k)
end
end Go.Lat
namespace Go.Lat
open Go.RowKit
section
variable {d : Option Tmp} {a a2 : Operand} {n : Nat} {l : List (Nat × AV)} {h : List AObj} {b : Nat} {ty : TypeId} {pos : String} {af : Array Edge} {g : Option (Nat × Bool)} {P : Program} {T : TT} {K : AV -> List AObj -> Prop}
end
theorem row_setF {α : Type} [Inhabited α] {e : α -> List AV} {sz : Nat} (h : Wd e sz) (xs : List α) (j : Int) (k : Nat) (x : α) {vs : List AV} (hk : Nat.ble (k + vs.length) sz = true) (hv : (e (lat xs j)).take k ++ vs ++ (e (lat xs j)).drop (k + vs.length) = e x) (hj : 0 <= j /\ j < (xs.length : Int)) :
    Lat.spl (zYy e xs) (j.toNat * sz + k) vs = zYy e (xs.set j.toNat x) := by
  have hk' := Nat.le_of_ble_eq_true hk
  have hlt : j.toNat < xs.length := by omega
  have hlen : (zYy e xs).length = xs.length * sz := zYw h xs
  have hle : j.toNat * sz + sz <= xs.length * sz := by
    have := Nat.mul_le_mul_right sz hlt
    rw [Nat.succ_mul] at this
    exact this
  rw [<- row_set h xs j x rfl hj.1 hj.2, <- hv, Lat.spl_eq _ _ _ (by omega), Lat.spl_eq _ _ _ (by
    rw [hv, h, hlen]; exact hle)]
  obtain ⟨rest, hr⟩ := encL_at h xs j hj.1 hj.2
  have hw : (e (lat xs j)).length = sz := h _
  have e1 : (zYy e xs).take (j.toNat * sz + k) = (zYy e xs).take (j.toNat * sz) ++ (e (lat xs j)).take k := by
    rw [List.take_add, hr, List.take_append_of_le_length (by omega)]
  have e2 : (zYy e xs).drop (j.toNat * sz + k + vs.length) = (e (lat xs j)).drop (k + vs.length) ++ rest := by
    rw [Nat.add_assoc, <- List.drop_drop, hr, List.drop_append_of_le_length (by omega)]
  have e3 : (zYy e xs).drop (j.toNat * sz + ((e (lat xs j)).take k ++ vs ++ (e (lat xs j)).drop (k + vs.length)).length) = rest := by
    rw [hv, h, <- List.drop_drop, hr, <- hw, List.drop_left]
  rw [e1, e2, e3]
  simp [List.append_assoc]
theorem row_inF {α : Type} {e : α -> List AV} {sz : Nat} (hw : Wd e sz) {xs : List α} {i : Int} (hj : 0 <= i /\ i < (xs.length : Int)) {k : Nat} {vs : List AV} (hk : Nat.ble (k + vs.length) sz = true) : i.toNat * sz + k + vs.length <= (zYy e xs).length := by
  rw [zYw hw]
  have hj' : i.toNat < xs.length := by omega
  have := Nat.mul_le_mul_right sz hj'
  rw [Nat.succ_mul] at this
  have := Nat.le_of_ble_eq_true hk
  omega
end Go.Lat
namespace Go.Lat
open Go.RowKit
section
variable {X : Nat -> Prop} {D : List Deferred × Rho} {w0 : World} {mA : Mem} {r : Rho} {m : MM} {st : St} {a : Act} {w : World}
theorem R.reobj' (h : R X D w0 mA r m st a w) {j : Nat} {bt : TypeId} {bcs bcs' : List AV} (ho : st.heap[j]? = some (.box bt bcs)) (hk : OR r m w j (.box bt bcs')) : R X D w0 mA r m { st with heap := st.heap.set j (.box bt bcs') } a w := by
  have hlen : j < st.heap.length := by
    rcases Nat.lt_or_ge j st.heap.length with h1 | h1
    . exact h1
    . rw [List.getElem?_eq_none h1] at ho; cases ho
  have get : ∀ (i : Nat) oi, (st.heap.set j (.box bt bcs'))[i]? = some oi -> ∃ oo, st.heap[i]? = some oo /\ (oi.live = true -> oo.live = true) /\ (i = j /\ oi = .box bt bcs' /\ oo = .box bt bcs \/ oi = oo) := by
    intro i oi hi
    by_cases e : i = j
    . subst e
      rw [List.getElem?_set_self hlen] at hi
      cases hi
      exact ⟨_, ho, fun _ => rfl, .inl ⟨rfl, rfl, rfl⟩⟩
    . rw [List.getElem?_set_ne (Ne.symm e)] at hi
      exact ⟨oi, hi, fun h => h, .inr rfl⟩
  refine { h with len := by simpa using h.len, lt := ?_, apart := ?_, obj := ?_, own := ?_, inj := ?_, nox := h.nox }
  . intro i oi b c hi hl hr
    obtain ⟨oo, h1, h2, -⟩ := get i oi hi
    exact h.lt i oo b c h1 (h2 hl) hr
  . intro p v hp i oi b c hi hl hr
    obtain ⟨oo, h1, h2, -⟩ := get i oi hi
    exact h.apart p v hp i oo b c h1 (h2 hl) hr
  . intro i oi hi
    obtain ⟨oo, h1, -, ⟨rfl, rfl, rfl⟩ | rfl⟩ := get i oi hi
    . exact hk
    . exact h.obj i oi h1
  . intro i oi b c hi hl hr
    obtain ⟨oo, h1, h2, -⟩ := get i oi hi
    exact h.own i oo b c h1 (h2 hl) hr
  . intro i k oi ok b c c' hi hk' hli hlk hri hrk
    obtain ⟨oo, h1, h2, -⟩ := get i oi hi
    obtain ⟨op, h3, h4, -⟩ := get k ok hk'
    exact h.inj i k oo op b c c' h1 h3 (h2 hli) (h4 hlk) hri hrk
def sealC (fl : Bool) (id sz k : Nat) (cs' : List AV) : List AV -> List AV -> Prop
  | [], [] => True
  | x :: xs, y :: ys => (y = x \/ ∃ nb n, x = .ref nb id n /\ k = n * sz /\ y = .lst fl n cs') /\ sealC fl id sz k cs' xs ys
  | _, _ => False
theorem W.sealB {P : Program} {T : TT} {Q : Ex -> St -> Prop} {c : Code} (fl : Bool) (id j : Nat) {n sz : Nat} {t bt : TypeId} {cs cs' bcs bcs' : List AV} {h h' : List AObj} {tm : Nat -> AV} {l : List (Nat × AV)} (ho : h[id]? = some (.row t sz cs)) (hb : h[j]? = some (.box bt bcs)) (hc : SealVs fl cs cs')
    (hl : sealT fl id sz cs.length cs' tm l) (hbc : sealC fl id sz cs.length cs' bcs bcs') (hh : (h.set id .dead).set j (.box bt bcs') = h') (hw : W P T c ⟨n, look l, h', 0⟩ Q) : W P T c ⟨n, tm, h, 0⟩ Q := fun hT hf ro hro k X D w0 mA r m a w hR => by
  obtain ⟨m', hle, hR', hv⟩ := hR.sealH rfl fl ho hc
  subst hh
  have hne : id ≠ j := fun e => by subst e; rw [ho] at hb; cases hb
  have hb' : (h.set id .dead)[j]? = some (.box bt bcs) := by rw [List.getElem?_set_ne hne]; exact hb
  have low := hR.low
  have conv : ∀ (xs ys : List AV) (vs : List Value), sealC fl id sz cs.length cs' xs ys -> VRs r m xs vs -> VRs r m' ys vs := by
    intro xs
    induction xs with
    | nil => intro ys vs hs hv'; cases ys with
      | nil => simpa only [VRs] using hv'
      | cons => exact hs.elim
    | cons x xs ih => intro ys vs hs hv'; cases ys with
      | nil => exact hs.elim
      | cons y ys =>
        simp only [VRs] at hv' ⊢
        obtain ⟨v, vs', rfl, h1, h2⟩ := hv'
        refine ⟨v, vs', rfl, ?_, ih ys vs' hs.2 h2⟩
        rcases hs.1 with e | ⟨nb, n', e1, e2, e3⟩
        . rw [e]; exact VR.mono (RLe.refl r) hle x v h1
        . rw [e3]; rw [e1] at h1; exact hv nb n' _ e2 h1
  -- the variable, told in other words
  have hR2 : R X D w0 mA r m' ⟨n, tm, (h.set id .dead).set j (.box bt bcs'), 0⟩ a w := by
    obtain ⟨b, c, cur, e1, e2, e3, e4⟩ := hR.obj j _ hb
    refine hR'.reobj' hb' ?_
    exact ⟨b, c, cur, e1, e2, e3, conv _ _ _ hbc e4⟩
  refine hw hT hf ro hro k X D w0 mA r m' a w { hR2 with tmps := fun t => ?_, size' := hR2.size', nox := hR2.nox }
  have key : ∀ (l : List (Nat × AV)), sealT fl id sz cs.length cs' tm l -> VR r m' (look l t) (a.tmps.getD t undef) := by
    intro l
    induction l with
    | nil => intro _; simp only [look, VR]
    | cons p l ih =>
      obtain ⟨q, v⟩ := p
      intro hl
      rw [look_cons]
      split
      . rename_i e
        subst e
        rcases hl.1 with e | ⟨nb, n', e1, e2, e3⟩
        . rw [e]; exact hR'.tmps t
        . rw [e3]
          exact hv nb n' _ e2 (by have := hR.tmps t; simp only at this; rw [e1] at this; exact this)
      . exact ih hl.2
  exact key l hl
end
end Go.Lat
namespace Go.Lat
open Go.RowKit Go.Conc

def OpsTo (F : Fence) (n : Nat) (P : Program) (ops : Array Oper) (Q : Exit -> Act -> World -> Prop) (l : List Nat) (a : Act) (w : World) : Prop :=
  ∀ (b : Frame) (k : List Item) (cs : List Frame), b.roundOf = F.round -> F.fn b.fn -> F.room (cs.length + 1 + n) →
    ∃ e a' w', Q e a' w' /\ ArrivesIn (Machine.fenced P F) P (lone (b.atR a (.inRegion ops l :: k)) cs w) b k cs e a' w'
section
variable {n : Nat} {P : Program} {ops : Array Oper} {Q : Exit -> Act -> World -> Prop} {a : Act} {w : World} {ro : Option Nat}
theorem OpsTo.nil (h : Q .normal a w) : OpsTo (FW ro) n P ops Q [] a w := fun b k cs _ hb hr => ⟨.normal, a, w, h, .one (fenced_calm hb hr rfl) stepR_region_end⟩
theorem wpIn_region_to {id : Nat} (h : OpsTo (FW ro) n P ops Q (List.range ops.size) a w) : (Code.region id ops false).wpIn (FW ro) n P Q a w :=
  fun b k cs hro hb hr => let ⟨e, a', w', q, r⟩ := h b k cs hro hb hr; ⟨e, a', w', q, .of_steps (.one (fenced_calm hb hr rfl) stepR_region) r⟩
theorem wpIn_region_draw_to {id : Nat} (h : ∀ t, OpsTo (FW ro) n P ops Q (Region.schedule (P.follows .mixedOrders) ops t) a { w with drawn := w.drawn + 1 }) : (Code.region id ops true).wpIn (FW ro) n P Q a w :=
  fun b k cs hro hb hr => let ⟨e, a', w', q, r⟩ := h _ b k cs hro hb hr; ⟨e, a', w', q, .of_steps (.one (fenced_calm hb hr rfl) stepR_region_draw) r⟩
def OpTo (ro : Option Nat) (n : Nat) (P : Program) (ops : Array Oper) (Q : Exit -> Act -> World -> Prop) (i : Nat) (K : Act -> World -> Prop) (a : Act) (w : World) : Prop :=
  ∀ rest, (∀ a1 w1, K a1 w1 -> OpsTo (FW ro) n P ops Q rest a1 w1) -> OpsTo (FW ro) n P ops Q (i :: rest) a w
theorem OpTo.mono {i : Nat} {K K' : Act -> World -> Prop} (h : OpTo ro n P ops Q i K a w) (hk : ∀ a w, K a w -> K' a w) : OpTo ro n P ops Q i K' a w := fun rest hr => h rest fun a1 w1 h1 => hr a1 w1 (hk a1 w1 h1)
theorem fin_atR {b : Frame} {i : Nat} {rest : List Nat} {k : List Item} {o : Oper} (ho : ops[i]? = some o) (v : Value) : (b.atR a (.inRegion ops (i :: rest) :: k)).finish v = b.atR (a.put o.dst v) (.inRegion ops rest :: k) := by
  rw [Frame.finish_atR, ho]; rfl
theorem OpTo.plain {i : Nat} {o : Oper} {K : Act -> World -> Prop} (ho : ops[i]? = some o) (hw : Region.wanted o (yielded ops a.tmps) = true) {nx : Next} {u : Value} {w' : World} (hd : ∀ c, o.op ≠ .defer c)
    (hr : (execOp a.eval o).run P w = .ok nx w') (hn : nx = .value u \/ (nx = .skip /\ u = undef)) (h : K (a.put o.dst u) w') : OpTo ro n P ops Q i K a w := by
  intro rest hk b k cs hro hb hrm
  obtain ⟨e, a', w'', hq, harr⟩ := hk _ _ h b k cs hro hb hrm
  have h0 : (lone (b.atR a (.inRegion ops (i :: rest) :: k)) cs w).fenced P (FW ro) := fenced_oper hb hrm ho fun _ _ => trivial
  have hg := stepGR_op (P := P) (b := b) (k := k) (cs := cs) (w := w) (rest := rest) ho hw
  rw [Oper.semAt_eq _ _ _ hd] at hg
  refine ⟨e, a', w'', hq, .of_steps (.one h0 (step_lone_go ?_)) harr⟩
  rw [hg, <- fin_atR ho]
  rcases hn with rfl | ⟨rfl, rfl⟩ <;> simp [stepG.apply, hr]
theorem OpTo.skipped {i : Nat} {K : Act -> World -> Prop} (hw : ∀ o, ops[i]? = some o -> Region.wanted o (yielded ops a.tmps) = false) (h : K (a.put ((ops[i]?).bind (·.dst)) undef) w) : OpTo ro n P ops Q i K a w := by
  intro rest hk b k cs hro hb hrm
  obtain ⟨e, a', w'', hq, harr⟩ := hk _ _ h b k cs hro hb hrm
  have hs := stepR_op_skip (P := P) (b := b) (a := a) (k := k) (cs := cs) (w := w) (ops := ops) (i := i) (rest := rest) (by
    rcases ho : ops[i]? with _ | o
    . simp
    . simpa using hw o ho)
  rcases ho : ops[i]? with _ | o
  . rw [ho] at hs harr
    exact ⟨e, a', w'', hq, .of_steps (.one (fenced_noOper hb hrm ho) hs) harr⟩
  . rw [ho] at hs harr
    exact ⟨e, a', w'', hq, .of_steps (.one (fenced_oper hb hrm ho fun _ _ => trivial) hs) harr⟩
theorem stepG_commR {b : Frame} {k : List Item} {cs : List Frame} {i : Nat} {rest : List Nat} {o : Oper} {cases : Array CommCase} {blocking : Bool} {shape : CommShape} {w' : World} (ho : ops[i]? = some o) (hw : Region.wanted o (yielded ops a.tmps) = true)
    (hd : ∀ c, o.op ≠ .defer c) (hr : (execOp a.eval o).run P w = .ok (.comm cases blocking shape) w') :
    ∃ es, Go.stepG P true (G (b.atR a (.inRegion ops (i :: rest) :: k)) cs) w = .comm (G (b.atR a (.inRegion ops (i :: rest) :: k)) cs) cases blocking shape w' es := by
  have hg := stepGR_op (P := P) (b := b) (k := k) (cs := cs) (w := w) (rest := rest) ho hw
  rw [Oper.semAt_eq _ _ _ hd] at hg
  have key : ∃ es, stepG.apply P true (b.atR a (.inRegion ops (i :: rest) :: k)) cs none (execOp a.eval o) w = .comm (G (b.atR a (.inRegion ops (i :: rest) :: k)) cs) cases blocking shape w' es := by
    unfold stepG.apply
    simp only [Sem.runT_eq, hr, if_true]
    exact ⟨_, rfl⟩
  obtain ⟨es, he⟩ := key
  exact ⟨es, hg.trans he⟩
theorem OpTo.send {i c cap s r : Nat} {o : Oper} {K : Act -> World -> Prop} (ho : ops[i]? = some o) (hw : Region.wanted o (yielded ops a.tmps) = true) {x y : Operand} (hop : o.op = .send x y) (hx : a.eval x = .chan (some c)) {buf : Array Value}
    (hc : w.heap[c]? = some (.chan cap buf false s r false)) (hroom : buf.size < cap) (h : K (a.put o.dst undef) (w.putObj c (.chan cap (buf.push (a.eval y)) false (s + 1) r false))) : OpTo ro n P ops Q i K a w := by
  intro rest hk b k cs hro hb hrm
  obtain ⟨e, a', w'', hq, harr⟩ := hk _ _ h b k cs hro hb hrm
  have h0 : (lone (b.atR a (.inRegion ops (i :: rest) :: k)) cs w).fenced P (FW ro) := fenced_oper hb hrm ho fun _ _ => trivial
  obtain ⟨es, hg⟩ := stepG_commR (P := P) (b := b) (k := k) (cs := cs) (rest := rest) ho hw (fun c' h' => by rw [hop] at h'; cases h') (w := w) (cases := #[scase c (a.eval y) (.tuple #[])]) (blocking := true) (shape := .send) (w' := w) (by simp [execOp, hop, hx, scase])
  refine ⟨e, a', w'', hq, .of_steps (.one h0 ?_) harr⟩
  have := step_lone_send_room hg hc hroom
  rw [fin_atR ho] at this
  exact this
theorem OpTo.recv {i c cap s r : Nat} {o : Oper} {K : Act -> World -> Prop} (ho : ops[i]? = some o) (hw : Region.wanted o (yielded ops a.tmps) = true) {x : Operand} {t e : TypeId} {d : ChanDir} {z : Value} (hop : o.op = .recv t x true) (hx : a.eval x = .chan (some c))
    (ht : P.underlying t = some (.chan d e)) (hz : (zeroValue e).run P w = .ok z w) {buf : Array Value} {cl : Bool} (hc : w.heap[c]? = some (.chan cap buf cl s r false))
    (h1 : 0 < buf.size -> K (a.put o.dst (.tuple #[buf.getD 0 undef, .bool true])) (w.putObj c (.chan cap (buf.extract 1 buf.size) cl s (r + 1) false)))
    (h2 : buf.size = 0 -> cl = true /\ K (a.put o.dst (.tuple #[z, .bool false])) w) : OpTo ro n P ops Q i K a w := by
  intro rest hk b k cs hro hb hrm
  have h0 : (lone (b.atR a (.inRegion ops (i :: rest) :: k)) cs w).fenced P (FW ro) := fenced_oper hb hrm ho fun _ _ => trivial
  obtain ⟨es, hg⟩ := stepG_commR (P := P) (b := b) (k := k) (cs := cs) (rest := rest) ho hw (fun c' h' => by rw [hop] at h'; cases h') (w := w) (cases := #[rcase c z]) (blocking := true) (shape := .recv true) (w' := w) (by simp [execOp, hop, hx, rcase, run_underlying ht, hz])
  rcases Nat.eq_zero_or_pos buf.size with hb0 | hb0
  . obtain ⟨rfl, hK⟩ := h2 hb0
    obtain ⟨e, a', w'', hq, harr⟩ := hk _ _ hK b k cs hro hb hrm
    have hbe : buf = #[] := Array.size_eq_zero_iff.1 hb0
    subst hbe
    refine ⟨e, a', w'', hq, .of_steps (.one h0 ?_) harr⟩
    have := step_lone_recv_shut true hg hc
    rw [fin_atR ho] at this
    exact this
  . obtain ⟨e, a', w'', hq, harr⟩ := hk _ _ (h1 hb0) b k cs hro hb hrm
    refine ⟨e, a', w'', hq, .of_steps (.one h0 ?_) harr⟩
    have := step_lone_recv_buf true hg hc hb0
    rw [fin_atR ho] at this
    exact this
end
end Go.Lat
namespace Go.Lat
open Go.RowKit Go.Conc

section
variable {X : Nat -> Prop} {D : List Deferred × Rho} {w0 : World} {mA : Mem} {P : Program} {T : TT}
def simpleO (o : Oper) : Bool := !Op.isCall o.op && o.guard.isNone
theorem opTo_stepI (hT : TsOk P T) {ops ops' : Array Oper} {i : Nat} {K : St -> Prop} (he : ops[i]? = ops'[i]?) (hp : ∀ o, ops[i]? = some o -> simpleO o = true) {st : St} (h : stepI P T ops' i st K) {r : Rho} {m : MM} {a : Act} {w : World} (hR : R X D w0 mA r m st a w)
    {ro : Option Nat} {n : Nat} {Q : Exit -> Act -> World -> Prop} : OpTo ro n P ops Q i (fun a w => ∃ s r m, K s /\ R X D w0 mA r m s a w) a w := by
  unfold stepI at h
  rcases ho : ops'[i]? with _ | o
  . rw [ho] at h he
    refine OpTo.skipped (fun o h' => by rw [he] at h'; cases h') ?_
    rw [he]
    exact ⟨st, r, m, h, hR⟩
  . rw [ho] at h he
    have hs := hp o he
    simp only [simpleO, Bool.and_eq_true, Bool.not_eq_true', Option.isNone_iff_eq_none] at hs
    have hg := hs.2
    have h : Go.Lat.stepG P T ops'.toList o st K := h
    unfold Go.Lat.stepG at h
    rw [hg] at h
    have h : opC P T o st (fun v hp => K (St.put ⟨st.nt, st.tm, hp, st.ho⟩ o.dst v)) := h
    rw [opC_plain (fun f args tys hf => by rw [hf] at hs; cases hs.1)] at h
    obtain ⟨y, u, w', r', h', nx, hK, _, hv, hrun, hnx, hR'⟩ := opR_sound hT hR o h
    refine OpTo.plain he (by simp [Region.wanted, hg]) (fun c hc => by rw [hc] at h; exact h) hrun hnx ?_
    exact ⟨_, r', m, hK, hR'.put o.dst hv⟩

theorem Rest.head {ops : Array Oper} {A : List (List Nat)} {listed : Array Bool} {i : Nat} {l : List Nat} (hr : Rest ops A listed (i :: l)) : i ∈ Region.ready .any ops listed := by
  have h1 := hr.open' i (by simp)
  have hlt : i < ops.size := by
    rw [<- hr.size]
    rcases Nat.lt_or_ge i listed.size with h' | h'
    . exact h'
    . simp [Array.getElem?_eq_none h'] at h1
  refine mem_ready.2 ⟨h1, ops[i], by simp [hlt], fun e he hb => ?_⟩
  have hd : e.on ∈ dirs ops i := by
    simp only [dirs, Array.getElem?_eq_getElem hlt, List.mem_map, List.mem_filter]
    exact ⟨e, ⟨by simpa using he, hb⟩, rfl⟩
  by_cases hsz : e.on < ops.size
  . rcases hr.all e.on hsz with h2 | h2
    . exact h2
    . exfalso
      rcases List.mem_cons.1 h2 with h3 | h3
      . exact (hr.self i hlt _ hd).2 h3
      . have h4 := (List.pairwise_cons.1 hr.pair).1 _ h3
        simp only [relB, Bool.and_eq_true, Bool.not_eq_true'] at h4
        have h5 := h4.1
        simp at h5
        exact h5 hd
  . exact absurd (hr.self i hlt _ hd).1 hsz

theorem any_last (hT : TsOk P T) {ops ops' : Array Oper} {A : List (List Nat)} {z : Nat} {oz : Oper} (hA : chkA ops' A = true) (hsz : ops'.size = ops.size) (hsame : ∀ i, i ≠ z -> ops[i]? = ops'[i]?)
    (hrd : ∀ listed, Region.ready .any ops' listed = Region.ready .any ops listed) (hp : ∀ i o, i ≠ z -> ops[i]? = some o -> simpleO o = true) (hz' : ops'[z]? = some oz) (hzo : oz.op = .move (.const (.bool true)) /\ oz.dst = none /\ oz.guard = none)
    (hall : ∀ j, j < ops.size -> j ≠ z -> j ∈ A.getD z []) {K : St -> Prop} {ro : Option Nat} {n : Nat} {Q : Exit -> Act -> World -> Prop}
    (hK : ∀ s r m a w, K s -> R X D w0 mA r m s a w -> OpTo ro n P ops Q z (fun a w => Q .normal a w) a w) :
    ∀ (fuel t : Nat) (listed : Array Bool) (l : List Nat) (st : St) {r : Rho} {m : MM} {a : Act} {w : World}, Rest ops' A listed l -> z ∈ l -> l.length = fuel -> R X D w0 mA r m st a w -> anyS P T ops' K fuel listed st →
      OpsTo (FW ro) n P ops Q (Region.linearise.go .any ops fuel t listed []) a w := by
  intro fuel
  induction fuel with
  | zero =>
    intro t listed l st r m a w hr hzl hl hR h
    rw [List.eq_nil_of_length_eq_zero hl] at hzl
    cases hzl
  | succ fuel ih =>
    intro t listed l st r m a w hr hzl hl hR h
    obtain ⟨_, h2⟩ := h hR.wf
    simp only [Region.linearise.go]
    change OpsTo (FW ro) n P ops Q (match (Region.ready .any ops listed)[t % (Region.ready .any ops listed).length]? with
      | some i => Region.linearise.go .any ops fuel (t / (Region.ready .any ops listed).length) (listed.setIfInBounds i true) [i]
      | none => [].reverse) a w
    obtain ⟨i0, l0, rfl⟩ : ∃ i l', l = i :: l' := by
      cases l with
      | nil => cases hzl
      | cons i l' => exact ⟨i, l', rfl⟩
    have hne : (Region.ready .any ops listed).length ≠ 0 := by
      have := hr.head
      rw [hrd] at this
      intro h0
      rw [List.eq_nil_of_length_eq_zero h0] at this
      cases this
    cases hi : (Region.ready .any ops listed)[t % (Region.ready .any ops listed).length]? with
    | none =>
      have hlt : t % (Region.ready .any ops listed).length < (Region.ready .any ops listed).length := Nat.mod_lt _ (by omega)
      rw [List.getElem?_eq_getElem hlt] at hi
      cases hi
    | some i =>
      simp only []
      rw [linearise_go_acc, List.reverse_singleton, List.singleton_append]
      have hmem : i ∈ Region.ready .any ops' listed := by rw [hrd]; exact List.mem_of_getElem? hi
      have hstep := h2 i hmem
      have hil := hr.ready_mem hmem
      obtain ⟨pre, rest, hpr⟩ := List.append_of_mem hil
      rw [hpr] at hr hzl hl
      have hnext := hr.next hmem
      by_cases hiz : i = z
      . subst hiz
        have hltz : i < ops'.size := (Array.getElem?_eq_some_iff.1 hz').1
        have hlist : ∀ j, j < ops'.size -> (listed.setIfInBounds i true).getD j false = true := fun j hj => by
          by_cases hji : j = i
          . subst hji
            have := hr.size
            simp [this, hltz]
          . exact getD_set_true (hr.anc hA i (dirs_ready hmem) j (hall j (by omega) hji) hltz)
        have hnil : Region.ready .any ops (listed.setIfInBounds i true) = [] := by
          rw [<- hrd]
          rcases hq : Region.ready .any ops' (listed.setIfInBounds i true) with _ | ⟨j, l'⟩
          . rfl
          . have hj : j ∈ Region.ready .any ops' (listed.setIfInBounds i true) := by rw [hq]; simp
            obtain ⟨e1, o, ho, _⟩ := mem_ready.1 hj
            have := hlist j (Array.getElem?_eq_some_iff.1 ho).1
            rw [getD_tf e1] at this
            cases this
        have hst : anyS P T ops' K fuel (listed.setIfInBounds i true) st := by
          unfold stepI at hstep
          rw [hz'] at hstep
          have hstep : Go.Lat.stepG P T ops'.toList oz st (fun s => anyS P T ops' K fuel (listed.setIfInBounds i true) s) := hstep
          unfold Go.Lat.stepG at hstep
          rw [hzo.2.2] at hstep
          have hstep : opC P T oz st (fun v hp => anyS P T ops' K fuel (listed.setIfInBounds i true) (St.put ⟨st.nt, st.tm, hp, st.ho⟩ oz.dst v)) := hstep
          unfold opC at hstep
          rw [hzo.1, hzo.2.1] at hstep
          exact hstep
        have hKst : K st := by
          cases fuel with
          | zero => exact hst.2
          | succ f => exact (hst hR.wf).1 (by rw [hrd]; exact hnil)
        refine hK st r m a w hKst hR _ fun a1 w1 hq => ?_
        have : Region.linearise.go .any ops fuel (t / (Region.ready .any ops listed).length) (listed.setIfInBounds i true) [] = [] := by
          cases fuel with
          | zero => rfl
          | succ f =>
            simp only [Region.linearise.go]
            change (match (Region.ready .any ops (listed.setIfInBounds i true))[(t / (Region.ready .any ops listed).length) % (Region.ready .any ops (listed.setIfInBounds i true)).length]? with
              | some i' => Region.linearise.go .any ops f ((t / (Region.ready .any ops listed).length) / (Region.ready .any ops (listed.setIfInBounds i true)).length) ((listed.setIfInBounds i true).setIfInBounds i' true) [i']
              | none => [].reverse) = []
            rw [hnil]
            rfl
        rw [this]
        exact OpsTo.nil hq
      . refine opTo_stepI hT (hsame i hiz) (fun o ho => hp i o hiz ho) hstep hR _ ?_
        rintro a1 w1 ⟨s, r1, m1, hs, hR1⟩
        refine ih _ _ (pre ++ rest) s hnext ?_ (by simp at hl ⊢; omega) hR1 hs
        rcases List.mem_append.1 hzl with h3 | h3
        . exact List.mem_append_left _ h3
        . rcases List.mem_cons.1 h3 with h4 | h4
          . exact absurd h4.symm hiz
          . exact List.mem_append_right _ h4
end

theorem W.sendD {P : Program} {T : TT} {st : St} {Q : Ex -> St -> Prop} {c : Code} {id : Nat} {ol A : List Oper} {x y : Operand} {ty : TypeId} {pos : String} {af : Array Edge} (ord : List Nat) (hl : ol = A ++ [⟨none, .send x y, ty, pos, af, none⟩])
    (hc : chk (A ++ [(⟨none, .move (.const (.bool true)), ty, pos, af, none⟩ : Oper)]).toArray ord = true) (hin : allIn (A ++ [(⟨none, .move (.const (.bool true)), ty, pos, af, none⟩ : Oper)]) ord = true) (hs : A.all simpleO = true)
    (ha : (List.range A.length).all (fun j => ((ancs (A ++ [(⟨none, .move (.const (.bool true)), ty, pos, af, none⟩ : Oper)]).toArray).getD A.length []).contains j) = true)
    (h : seqL P T (A ++ [(⟨none, .move (.const (.bool true)), ty, pos, af, none⟩ : Oper)]) [] 0 (pickL (A ++ [(⟨none, .move (.const (.bool true)), ty, pos, af, none⟩ : Oper)]) ord) st fun s =>
      ∃ (i cap : Nat) (buf : List AV), St.eval s x = .chn i /\ s.heap[i]? = some (.chan cap false buf) /\ buf.length < cap /\ W P T c { s with heap := s.heap.set i (.chan cap false (buf ++ [St.eval s y])) } Q) :
    W P T (.seq (.region id ol.toArray true) c) st Q := fun hT hf ro hro n X D w0 mA r m a w hR => by
  subst hl
  have hro2 : ro ≠ none -> noRg c = true := fun h0 => by have := hro h0; simpa only [noRg, Bool.and_eq_true, true_and] using this
  refine wpIn_seq (wpIn_region_draw_to fun t => ?_)
  have hR' : R X D w0 mA r m st a { w with drawn := w.drawn + 1 } := { hR with }
  obtain ⟨h1, h2, h3⟩ := chk_rest hc
  have hany := any_of_seq (P := P) (T := T) h1 _ _ ord st h2 h3 (seqL_seqI (G := []) ord _ 0 st (pickL_spec hin) h)
  simp only [Region.schedule, hf, Bool.true_or, if_true]
  have gl : ∀ i, i ≠ A.length -> (A ++ [(⟨none, .send x y, ty, pos, af, none⟩ : Oper)]).toArray[i]? = (A ++ [(⟨none, .move (.const (.bool true)), ty, pos, af, none⟩ : Oper)]).toArray[i]? := fun i hi => by
    simp only [List.getElem?_toArray]
    rcases Nat.lt_or_ge i A.length with hlt | hge
    . rw [List.getElem?_append_left hlt, List.getElem?_append_left hlt]
    . rw [List.getElem?_eq_none (by simp; omega), List.getElem?_eq_none (by simp; omega)]
  have hsz : (A ++ [(⟨none, .send x y, ty, pos, af, none⟩ : Oper)]).toArray.size = (A ++ [(⟨none, .move (.const (.bool true)), ty, pos, af, none⟩ : Oper)]).toArray.size := by simp
  show OpsTo _ _ _ _ _ (Region.linearise .any _ t) _ _
  unfold Region.linearise
  rw [hsz]
  refine any_last hT h1 hsz.symm gl ?_ ?_ (z := A.length) (oz := ⟨none, .move (.const (.bool true)), ty, pos, af, none⟩) (by simp) ⟨rfl, rfl, rfl⟩ ?_ ?_ _ t _ ord st h2 ?_ h3 hR' hany
  . intro listed
    unfold Region.ready
    rw [hsz]
    refine List.filter_congr fun i hi => ?_
    by_cases e : i = A.length
    . subst e; simp
    . rw [gl i e]
  . intro i o hi ho
    rw [List.getElem?_toArray] at ho
    rcases Nat.lt_or_ge i A.length with hlt | hge
    . rw [List.getElem?_append_left hlt] at ho
      exact List.all_eq_true.1 hs o (List.mem_of_getElem? ho)
    . rw [List.getElem?_eq_none (by simp; omega)] at ho; cases ho
  . intro j hj hne
    have hlt : j < A.length := by simp at hj; omega
    have := List.all_eq_true.1 ha j (by simpa using hlt)
    simpa using this
  . rintro s r1 m1 a1 w1 ⟨i, cap, buf, e1, e2, e3, hW⟩ hR1
    have hx := hR1.eval x
    rw [e1] at hx
    simp only [VR] at hx
    obtain ⟨b, c0, hb, hx⟩ := hx
    obtain ⟨b', c', bv, s0, rc, f1, f2, f3⟩ := hR1.obj i _ e2
    rw [hb] at f1; cases f1
    have hlen := f3.length
    simp only [Array.length_toList] at hlen
    have hlt := (Array.getElem?_eq_some_iff.1 f2).1
    refine OpTo.send (by simp; rfl) (by simp [Region.wanted]) (x := x) (y := y) rfl hx f2 (by omega) ?_
    have hR2 : R X D w0 mA r1 m1 { s with heap := s.heap.set i (.chan cap false (buf ++ [St.eval s y])) } a1 (w1.putObj b (.chan cap (bv.push (a1.eval y)) false (s0 + 1) rc false)) :=
      hR1.modify e2 rfl hb (grownBy_putObj' w1 b _) ⟨b, c0, _, s0 + 1, rc, hb, World.putObj_heap_same hlt, by rw [Array.toList_push]; exact f3.app (VRs.one (hR1.eval y))⟩
    exact wpIn_mono (hW hT hf ro hro2 n X D w0 mA r1 m1 a1 _ hR2) fun _ _ _ => relQ_weak fun hh => by simpa only [noRg, Bool.and_eq_true, true_and] using hh
  . have := h2.all A.length (by simp)
    rcases this with h4 | h4
    . exfalso
      rw [Array.getD_eq_getD_getElem?] at h4
      simp at h4
    . exact h4
end Go.Lat
