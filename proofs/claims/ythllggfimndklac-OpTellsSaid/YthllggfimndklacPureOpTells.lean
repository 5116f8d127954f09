/- Any number's name and operands are as the page says, and whether it touches what is shared. No condition. -/
import Derived.Test.YthllggfimndklacQOpTellsx2
namespace Go.Proofs.Ythllggfimndklac.Pure
open Go.RowKit Go.Proofs.Ythllggfimndklac.QOpTells Go.Proofs.YthllggfimndklacW.PrintWords Go.Proofs.YthllggfimndklacW.PrintLast Go.Proofs.YthllggfimndklacW.PrintMore Go.Proofs.YthllggfimndklacW.HWords

theorem tells_alive : warrenerlaw09_alive.f = some true := by decide +kernel
theorem tells_out {n : Int} (h : n < 1 ∨ 25 < n) : op_of.f n = some (⟨#[]⟩, ⟨#[]⟩) := by
  by_cases h0 : n = 0
  · subst h0
    decide +kernel
  · unfold op_of.f
    rw [if_neg (by omega)]
theorem tells_in : ∀ n : Fin 25, warrenerlaw09_OpTells.f 1000 ((n.val : Int) + 1) = some true := by decide +kernel

theorem OpTells : warrenerlaw09_OpTells.Pure := by
  intro y0 _
  refine ⟨1000, ?_⟩
  by_cases h : y0 < 1 ∨ 25 < y0
  · have hs : op_Shares.f y0 = some false := by
      unfold op_Shares.f
      by_cases c : 11 ≤ y0
      · rw [if_pos c, if_neg (by omega), if_pos (by omega), decide_eq_false (by omega)]
      · rw [if_neg c, if_neg (by omega)]
    have hn : warrenerref09_Name.f 1000 y0 = some ⟨#[]⟩ := by
      unfold warrenerref09_Name.f
      by_cases c : y0 < 1
      · rw [if_pos c]
      · rw [if_neg c, if_pos (by omega)]
    have hh : warrenerref09_Shape.f 1000 y0 = some ⟨#[]⟩ := by
      unfold warrenerref09_Shape.f
      by_cases c : y0 < 1
      · rw [if_pos c]
      · rw [if_neg c, if_pos (by omega)]
    unfold warrenerlaw09_OpTells.f op_Name.f op_Shape.f
    rw [tells_alive, tells_out h, hs, hn, hh]
    simp only [Option.bind_some, if_true]
    by_cases c : y0 ≥ 11
    · rw [if_pos c, if_neg (by omega), if_pos (by omega), decide_eq_false (by omega)]
      rfl
    · rw [if_neg c, if_neg (by omega)]
      rfl
  · have := tells_in ⟨(y0 - 1).toNat, by omega⟩
    rw [show (((y0 - 1).toNat : Nat) : Int) + 1 = y0 by omega] at this
    exact this

end Go.Proofs.Ythllggfimndklac.Pure
