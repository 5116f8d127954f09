/- Any number is held within any bounds, and within them, as the page says. No condition. -/
import Derived.Test.YthllggfimndklaaPNumBoundsx1
namespace Go.Proofs.Ythllggfimndklaa.Pure
open Go.RowKit Go.Proofs.Ythllggfimndklaa.PNumBounds Go.Proofs.YthllggfimndklaaW.PrintWords Go.Proofs.YthllggfimndklaaW.PrintLast Go.Proofs.YthllggfimndklaaW.PrintMore

theorem bounds_alive : warrenerlaw01_alive.f = some true := by decide +kernel

theorem NumBounds : warrenerlaw01_NumBounds.Pure := by
  intro a lo hi _ _ _
  refine ⟨2, ?_⟩
  unfold warrenerlaw01_NumBounds.f
  simp only [bounds_alive, Option.bind_some, if_true, warrenerlaw01_NumBounds.j0, warrenerlaw01_NumBounds.j1, num_Clamp.f, num_In.f, warrenerplain_Near.f, mn]
  rcases (show a < lo ∨ lo ≤ a by omega) with h1 | h1
  · have e1 : ¬ a ≥ lo := by omega
    simp only [if_neg e1, if_pos h1]
    rcases (show hi < a ∨ a ≤ hi by omega) with h2 | h2
    · have e2 : lo > hi := by omega
      simp [h2, e2]
    · have e2 : ¬ a > hi := by omega
      by_cases h3 : lo > hi
      · simp [e2, h3]
      · simp [e2, h3]
  · have e1 : ¬ a < lo := by omega
    rcases (show hi < a ∨ a ≤ hi by omega) with h2 | h2
    · have e2 : ¬ a ≤ hi := by omega
      by_cases h3 : lo > hi
      · simp [h1, h2, e1, e2, h3]
      · simp [h1, h2, e1, e2, h3]
    · have e2 : ¬ a > hi := by omega
      have h3 : ¬ lo > hi := by omega
      simp [h1, h2, e1, e2, h3]

end Go.Proofs.Ythllggfimndklaa.Pure
