/- What is added to any number, taken away, is the number again, in whichever order. No condition. -/
import Derived.Test.YthllggfimndklaaPNumBackx1
namespace Go.Proofs.Ythllggfimndklaa.Pure
open Go.RowKit Go.Proofs.Ythllggfimndklaa.PNumBack Go.Proofs.YthllggfimndklaaW.PrintWords Go.Proofs.YthllggfimndklaaW.PrintLast

theorem back_alive : warrenerlaw01_alive.f = some true := by decide +kernel

theorem NumBack : warrenerlaw01_NumBack.Pure := by
  intro a b ha hb
  have ha : -9223372036854775808 ≤ a ∧ a ≤ 9223372036854775807 := by
    have h : -9223372036854775808 ≤ a ∧ a ≤ 9223372036854775807 := by
      simp only [Lit.wf, Bool.and_eq_true, decide_eq_true_eq] at ha
      exact ha
    exact h
  have h1 : wrap64 (wrap64 (a + b) - b) = a := by unfold wrap64; omega
  have h2 : wrap64 (wrap64 (a - b) + b) = a := by unfold wrap64; omega
  unfold warrenerlaw01_NumBack.f num_Add.f num_Sub.f
  rw [back_alive]
  simp only [Option.bind_some, if_true, h1, h2, Int.add_comm b a, beq_self_eq_true]

end Go.Proofs.Ythllggfimndklaa.Pure
