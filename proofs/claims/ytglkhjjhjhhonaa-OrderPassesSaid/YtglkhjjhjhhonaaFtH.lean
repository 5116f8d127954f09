/- Sorting by insertion, plainly. No condition beside those that each theorem names. -/
import Derived.Test.YtglkhjjhjhhonaaFtG
namespace Go.Proofs.Ytglkhjjhjhhonaa.Sr
open Go.RowKit Go.Proofs.YtglkhjjhjhhonaaM.Mach
set_option linter.unusedVariables false
set_option linter.unusedSimpArgs false
theorem lt_irr (x : P3) : ltP x x = false := by
  unfold ltP
  exact decide_eq_false (by omega)
theorem lt_asym {x y : P3} (h : ltP x y = true) : ltP y x = false := by
  unfold ltP at *
  have h := of_decide_eq_true h
  exact decide_eq_false (by omega)
theorem lt_ntrans {x y z : P3} (h1 : ltP x y = false) (h2 : ltP y z = false) : ltP x z = false := by
  unfold ltP at *
  have h1 := of_decide_eq_false h1
  have h2 := of_decide_eq_false h2
  exact decide_eq_false (by omega)
theorem lt_conn {x y : P3} (h1 : ltP x y = false) (h2 : ltP y x = false) : x = y := by
  unfold ltP at *
  have h1 := of_decide_eq_false h1
  have h2 := of_decide_eq_false h2
  exact Prod.ext (by omega) (Prod.ext (by omega) (by omega))
structure SO (k0 ks : List P3) (i : Nat) : Prop where
  perm : k0.Perm ks
  srt : ∀ p q, p < q → q < i → q < ks.length → ltP ks[q]! ks[p]! = false
structure SI (k0 ks : List P3) (i j : Nat) : Prop where
  perm : k0.Perm ks
  le : j ≤ i
  lt : i < ks.length
  a : ∀ p q, p < q → q ≤ i → p ≠ j → q ≠ j → ltP ks[q]! ks[p]! = false
  b : ∀ q, j < q → q ≤ i → ltP ks[q]! ks[j]! = false
theorem si_start {k0 ks : List P3} {i : Nat} (h : SO k0 ks i) (hi : i < ks.length) : SI k0 ks i i :=
  ⟨h.perm, Nat.le_refl _, hi, fun p q hpq hq hp hqi => h.srt p q hpq (by omega) (by omega), fun q hq hq2 => by omega⟩
def swp (ks : List P3) (j : Nat) : List P3 := (ks.set j ks[j - 1]!).set (j - 1) ks[j]!
theorem swp_len (ks : List P3) (j : Nat) : (swp ks j).length = ks.length := by simp [swp]
theorem swp_get {ks : List P3} {j : Nat} (hj : 0 < j) (hl : j < ks.length) (q : Nat) : (swp ks j)[q]! = if q = j then ks[j - 1]! else if q = j - 1 then ks[j]! else ks[q]! := by
  by_cases hq : q < ks.length
  · rw [getElem!_pos (swp ks j) q (by rw [swp_len]; exact hq)]
    simp only [swp, List.getElem_set]
    split
    · rename_i e
      rw [if_neg (by omega), if_pos e.symm]
    · rename_i e
      split
      · rename_i e2
        rw [if_pos e2.symm]
      · rename_i e2
        rw [if_neg (fun h => e2 h.symm), if_neg (fun h => e h.symm), getElem!_pos ks q hq]
  · rw [getElem!_neg (swp ks j) q (by rw [swp_len]; exact hq), if_neg (by omega), if_neg (by omega), getElem!_neg ks q hq]
theorem swp_perm {ks : List P3} {j : Nat} (hj : 0 < j) (hl : j < ks.length) : ks.Perm (swp ks j) := by
  unfold swp
  rw [getElem!_pos ks (j - 1) (by omega), getElem!_pos ks j hl]
  exact (List.set_set_perm (i := j) (j := j - 1) hl (by omega)).symm
theorem si_step {k0 ks : List P3} {i j : Nat} (h : SI k0 ks i j) (hj : 0 < j) (hlt : ltP ks[j]! ks[j - 1]! = true) : SI k0 (swp ks j) i (j - 1) := by
  have hjl : j < ks.length := Nat.lt_of_le_of_lt h.le h.lt
  refine ⟨h.perm.trans (swp_perm hj hjl), by have := h.le; omega, by rw [swp_len]; exact h.lt, fun p q hpq hq hp hqj => ?_, fun q hq hqi => ?_⟩
  · rw [swp_get hj hjl, swp_get hj hjl]
    by_cases e1 : q = j
    · subst e1
      rw [if_pos rfl, if_neg (by omega), if_neg hp]
      exact h.a p (q - 1) (by omega) (by omega) (by omega) (by omega)
    · rw [if_neg e1, if_neg hqj]
      by_cases e2 : p = j
      · subst e2
        rw [if_pos rfl]
        exact h.a (p - 1) q (by omega) hq (by omega) e1
      · rw [if_neg e2, if_neg hp]
        exact h.a p q hpq hq e2 e1
  · rw [swp_get hj hjl, swp_get hj hjl, if_neg (show ¬ j - 1 = j by omega), if_pos rfl]
    by_cases e1 : q = j
    · rw [if_pos e1]
      exact lt_asym hlt
    · rw [if_neg e1, if_neg (by omega)]
      exact h.b q (by omega) hqi
theorem si_end {k0 ks : List P3} {i j : Nat} (h : SI k0 ks i j) (hj : j = 0 ∨ ltP ks[j]! ks[j - 1]! = false) : SO k0 ks (i + 1) := by
  refine ⟨h.perm, fun p q hpq hq hql => ?_⟩
  by_cases e1 : q = j
  · subst e1
    rcases hj with hj | hj
    · omega
    · by_cases e2 : p = q - 1
      · rw [e2]
        exact hj
      · exact lt_ntrans hj (h.a p (q - 1) (by omega) (by omega) (by omega) (by omega))
  · by_cases e2 : p = j
    · subst e2
      exact h.b q hpq (by omega)
    · exact h.a p q hpq (by omega) e2 e1
end Go.Proofs.Ytglkhjjhjhhonaa.Sr
