/- Any epoch's mark is twice it and 1; a mark agrees just if it is that, or 0. No condition. -/
import Derived.Test.YthllggfimndklaaQEraMarksx1
namespace Go.Proofs.Ythllggfimndklaa.Pure
open Go.RowKit Go.Proofs.Ythllggfimndklaa.QEraMarks Go.Proofs.YthllggfimndklaaW.PrintWords Go.Proofs.YthllggfimndklaaW.PrintLast

theorem marks_u64 (n : Int) : IntKind.u64.wrap n = n % 18446744073709551616 := by
  simp [IntKind.wrap, IntKind.bits, IntKind.signed]
theorem marks_alive : warrenerlaw22_alive.f = some true := by decide +kernel

theorem EraMarks : warrenerlaw22_EraMarks.Pure := by
  intro e m _ _
  have h1 : wrap64 (IntKind.u64.wrap ((IntKind.u64.wrap ((IntKind.u64.wrap e) * 2)) + 1)) = wrap64 (wrap64 (2 * e) + 1) := by
    simp only [marks_u64]
    unfold wrap64
    omega
  unfold warrenerlaw22_EraMarks.f era_Agrees.f era_Mark.f num_Add.f num_Mul.f
  rw [marks_alive, h1]
  simp only [Option.bind_some, if_true]
  generalize wrap64 (wrap64 (2 * e) + 1) = x
  by_cases c : m = 0
  · subst c
    by_cases c : x = 0 <;> simp [c]
  · by_cases d : x = 0
    · subst d
      simp [c]
    · simp [c, d]

end Go.Proofs.Ythllggfimndklaa.Pure
