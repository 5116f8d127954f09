/- Each instruction has a name, four letters, and is the one of that name. No condition. -/
import Derived.Test.YthllggfimndkladQOpBackx1
namespace Go.Proofs.Ythllggfimndklad.Pure
open Go.RowKit Go.Proofs.Ythllggfimndklad.QOpBack Go.Proofs.YthllggfimndkladW.PrintWords Go.Proofs.YthllggfimndkladW.PrintLast Go.Proofs.YthllggfimndkladW.PrintMore Go.Proofs.YthllggfimndkladW.HWords

theorem opback_alive : warrenerlaw09_alive.f = some true := by decide +kernel
theorem opback_out {n : Int} (h : n < 1 ∨ 25 < n) : op_of.f n = some (⟨#[]⟩, ⟨#[]⟩) := by
  by_cases h0 : n = 0
  · subst h0
    decide +kernel
  · unfold op_of.f
    rw [if_neg (by omega)]
theorem opback_j {n : Int} (h : n < 1 ∨ 25 < n) (k : Nat) : warrenerlaw09_OpBack.j0 (k + 1) n true = some true := by
  have hs : op_Shares.f n = some false := by
    unfold op_Shares.f
    by_cases c : 11 ≤ n
    · rw [if_pos c, if_neg (by omega), if_pos (by omega), decide_eq_false (by omega)]
    · rw [if_neg c, if_neg (by omega)]
  simp only [warrenerlaw09_OpBack.j0, if_true]
  unfold op_Name.f op_Shape.f
  rw [opback_out h, hs]
  decide +kernel
theorem opback_in : ∀ n : Fin 25, warrenerlaw09_OpBack.f 100 ((n.val : Int) + 1) = some true := by decide +kernel

theorem OpBack : warrenerlaw09_OpBack.Pure := by
  intro y0 _
  refine ⟨100, ?_⟩
  by_cases h : y0 < 1 ∨ 25 < y0
  · unfold warrenerlaw09_OpBack.f
    rw [opback_alive]
    simp only [Option.bind_some, if_true]
    by_cases c : y0 < 1
    · rw [if_pos c]
      exact opback_j h 99
    · rw [if_neg c, decide_eq_true (show y0 > 25 by omega)]
      exact opback_j h 99
  · have := opback_in ⟨(y0 - 1).toNat, by omega⟩
    rw [show (((y0 - 1).toNat : Nat) : Int) + 1 = y0 by omega] at this
    exact this

end Go.Proofs.Ythllggfimndklad.Pure
