/- A quotient of any numbers, times the divisor, and a rest that is less than this and has the sign of the first one, are the first one; by 0 there is none. No condition. -/
import Derived.Test.YthllggfimndklaaPNumDividesx1
namespace Go.Proofs.Ythllggfimndklaa.Pure
open Go.RowKit Go.Proofs.Ythllggfimndklaa.PNumDivides Go.Proofs.YthllggfimndklaaW.PrintWords Go.Proofs.YthllggfimndklaaW.PrintLast

theorem div_alive : warrenerlaw01_alive.f = some true := by decide +kernel
theorem div_bd {a : Int} (h : (Lit.int .i64 a).wf = true) : -9223372036854775808 ≤ a ∧ a ≤ 9223372036854775807 := by
  simp only [Lit.wf, Bool.and_eq_true, decide_eq_true_eq] at h
  exact h
theorem div_wrap {n : Int} (h : -9223372036854775808 ≤ n ∧ n ≤ 9223372036854775807) : wrap64 n = n := by
  unfold wrap64
  omega

/-- The quotient's facts, b neither 0 nor -1. -/
theorem div_facts (a b : Int) (h0 : b ≠ 0) : a - Int.tdiv a b * b = Int.tmod a b ∧ (Int.tmod a b).natAbs < b.natAbs ∧ (0 ≤ a → 0 ≤ Int.tmod a b) ∧ (a ≤ 0 → Int.tmod a b ≤ 0) := by
  have h := Int.tdiv_mul_add_tmod a b
  refine ⟨by omega, ?_, fun h => Int.tmod_nonneg b h, fun h => ?_⟩
  · rw [Int.natAbs_tmod]
    exact Nat.mod_lt _ (by omega)
  · have := Int.tmod_nonneg b (show 0 ≤ -a by omega)
    rw [Int.neg_tmod] at this
    omega

theorem NumDivides : warrenerlaw01_NumDivides.Pure := by
  intro a b ha hb
  have ha := div_bd ha
  have hb := div_bd hb
  unfold warrenerlaw01_NumDivides.f num_Div.f
  rw [div_alive]
  simp only [Option.bind_some, if_true]
  by_cases b0 : b = 0
  · simp [b0]
  · by_cases b1 : b = -1
    · subst b1
      have : wrap64 (a - wrap64 (-wrap64 (-a))) = 0 := by unfold wrap64; omega
      simp [this]
    · obtain ⟨e, hs, hp, hn⟩ := div_facts a b b0
      have hq : -9223372036854775808 ≤ Int.tdiv a b ∧ Int.tdiv a b ≤ 9223372036854775807 := by
        by_cases hb1 : b = 1
        · subst hb1
          rw [Int.tdiv_one]
          exact ha
        · have h1 : (Int.tdiv a b).natAbs = a.natAbs / b.natAbs := Int.natAbs_tdiv a b
          have h2 : a.natAbs / b.natAbs ≤ a.natAbs / 2 := Nat.div_le_div_left (by omega) (by omega)
          omega
      rw [if_neg b0, if_neg b1]
      simp only [Option.bind_some, div_wrap hq, if_true]
      rw [if_neg b0, if_neg b1]
      have em : wrap64 (a - wrap64 (Int.tdiv a b * b)) = Int.tmod a b := by
        have : wrap64 (Int.tdiv a b * b) = Int.tdiv a b * b := by
          refine div_wrap ?_
          rcases Int.le_total 0 a with h | h
          · have := hp h; omega
          · have := hn h; omega
        rw [this, e]
        exact div_wrap (by omega)
      rw [em]
      have hw1 : b < 0 → -9223372036854775808 < b → wrap64 (-b) = -b := fun _ _ => div_wrap (by omega)
      have hw2 : b = -9223372036854775808 → wrap64 (-b) = -9223372036854775808 := by
        rintro rfl
        unfold wrap64
        omega
      have hd : (decide (Int.tmod a b < 0) == decide (a < 0)) = true ∨ Int.tmod a b = 0 := by
        by_cases z : Int.tmod a b = 0
        · exact .inr z
        · left
          rcases (show a < 0 ∨ 0 ≤ a by omega) with h | h
          · have := hn (by omega)
            simp [h, show Int.tmod a b < 0 by omega]
          · have := hp h
            have : ¬ Int.tmod a b < 0 := by omega
            have : ¬ a < 0 := by omega
            simp [*]
      have fin : (if Int.tmod a b = 0 then some true else some (decide (Int.tmod a b < 0) == decide (a < 0))) = some true := by
        rcases hd with h | h
        · rw [h]; split <;> rfl
        · rw [if_pos h]
      by_cases hb0 : b < 0
      · rw [if_pos hb0]
        by_cases hmin : b = -9223372036854775808
        · rw [if_pos (by rw [hw2 hmin]; omega)]
          exact fin
        · have hw := hw1 hb0 (by omega)
          rw [if_neg (by rw [hw]; omega), hw, Int.neg_neg, div_wrap hb, if_pos (by omega)]
          rw [if_pos (by omega)]
          exact fin
      · rw [if_neg hb0]
        have hw : wrap64 (-b) = -b := div_wrap (by omega)
        rw [hw, if_pos (by omega), if_pos (by omega)]
        exact fin

end Go.Proofs.Ythllggfimndklaa.Pure
