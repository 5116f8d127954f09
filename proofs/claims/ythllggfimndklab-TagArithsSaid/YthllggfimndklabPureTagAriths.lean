/- What is reckoned of any two words is as the page says, and points to nothing. No condition. -/
import Derived.Test.YthllggfimndklabQTagArithsx4
namespace Go.Proofs.Ythllggfimndklab.Pure
open Go.RowKit Go.Proofs.Ythllggfimndklab.QTagAriths Go.Proofs.YthllggfimndklabW.PrintWords Go.Proofs.YthllggfimndklabW.PrintLast Go.Proofs.YthllggfimndklabW.PrintMore Go.Proofs.YthllggfimndklabW.HWords

theorem ariths_alive : warrenerlaw15_alive.f = some true := by decide +kernel
theorem TagAriths : warrenerlaw15_TagAriths.Pure := by
  intro op a b _ _ _
  refine ⟨2, ?_⟩
  unfold warrenerlaw15_TagAriths.f tag_Arith.f
  rw [ariths_alive]
  simp only [Option.bind_some, if_true]
  by_cases h4 : op = 4
  · simp [h4, warrenerlaw15_TagAriths.j0, warrenerlaw15_reckoned.f, tag_Is.f]
  by_cases h5 : op = 5
  · simp [h5, warrenerlaw15_TagAriths.j0, warrenerlaw15_reckoned.f, tag_Is.f]
  by_cases h6 : op = 6
  · simp [h6, warrenerlaw15_TagAriths.j0, warrenerlaw15_reckoned.f, tag_Is.f]
  by_cases h7 : op = 7
  · by_cases hz : b.f0 = 0
    · simp [h7, hz, warrenerlaw15_TagAriths.j0, warrenerlaw15_reckoned.f, tag_Is.f]
    · by_cases hn : b.f0 = -1
      · simp [h7, hn, warrenerlaw15_TagAriths.j0, warrenerlaw15_reckoned.f, tag_Is.f]
      · simp [h7, hz, hn, warrenerlaw15_TagAriths.j0, warrenerlaw15_reckoned.f, tag_Is.f]
  · by_cases hl : op < 4
    · simp [h4, h5, h6, h7, hl, warrenerlaw15_TagAriths.j0]
    · have hg : 7 < op := by omega
      simp [h4, h5, h6, h7, hl, hg, warrenerlaw15_TagAriths.j0]

end Go.Proofs.Ythllggfimndklab.Pure
