/- Any plain word, and any pointer, is as the page says. No condition. -/
import Derived.Test.YthllggfimndklabQTagWordsx4
namespace Go.Proofs.Ythllggfimndklab.Pure
open Go.RowKit Go.Proofs.Ythllggfimndklab.QTagWords Go.Proofs.YthllggfimndklabW.PrintWords Go.Proofs.YthllggfimndklabW.PrintLast Go.Proofs.YthllggfimndklabW.PrintMore Go.Proofs.YthllggfimndklabW.HWords

theorem words_alive : warrenerlaw15_alive.f = some true := by decide +kernel
theorem TagWords : warrenerlaw15_TagWords.Pure := by
  intro c g n _ _ _
  refine ⟨2, ?_⟩
  unfold warrenerlaw15_TagWords.f tag_To.f
  rw [words_alive]
  simp only [Option.bind_some, if_true]
  by_cases h : c < 1
  · have h2 : ¬ 1 ≤ c := by omega
    simp [h, h2, warrenerlaw15_TagWords.j0, tag_Is.f, tag_Plain.f]
  · have h2 : 1 ≤ c := by omega
    have h3 : 0 < c := by omega
    simp [h, h2, h3, warrenerlaw15_TagWords.j0, tag_Is.f, tag_Plain.f]

end Go.Proofs.Ythllggfimndklab.Pure
