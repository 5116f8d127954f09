/- Rows that rise, each place once. No condition beside those that each theorem names. -/
import Derived.Test.YtglkhjjhjhhonaaFtH
namespace Go.Proofs.Ytglkhjjhjhhonaa.Sr
open Go.RowKit Go.Proofs.YtglkhjjhjhhonaaM.Mach
set_option linter.unusedVariables false
set_option linter.unusedSimpArgs false
/-- Neighbours that are alike become one. -/
def ddup : List P3 → List P3
  | [] => []
  | [x] => [x]
  | x :: y :: l => if x = y then ddup (y :: l) else x :: ddup (y :: l)
theorem ddup_mem : ∀ (l : List P3) (z : P3), z ∈ ddup l ↔ z ∈ l
  | [], z => by simp [ddup]
  | [x], z => by simp [ddup]
  | x :: y :: l, z => by
    unfold ddup
    split
    · rename_i e
      subst e
      rw [ddup_mem (x :: l) z]
      simp
    · rw [List.mem_cons, ddup_mem (y :: l) z, List.mem_cons (a := z) (b := x)]
abbrev Ris (l : List P3) : Prop := l.Pairwise fun x y => ltP x y = true
theorem ddup_ris : ∀ (l : List P3), (l.Pairwise fun x y => ltP y x = false) → Ris (ddup l)
  | [], _ => List.Pairwise.nil
  | [x], _ => List.pairwise_singleton _ _
  | x :: y :: l, h => by
    have h1 := List.pairwise_cons.1 h
    unfold ddup
    split
    · exact ddup_ris (y :: l) h1.2
    · rename_i hne
      refine List.pairwise_cons.2 ⟨fun z hz => ?_, ddup_ris (y :: l) h1.2⟩
      have hz' := (ddup_mem (y :: l) z).1 hz
      have h2 := h1.1 z hz'
      cases h3 : ltP x z with
      | true => rfl
      | false =>
        have e := lt_conn h3 h2
        subst e
        rcases List.mem_cons.1 hz' with e | hm
        · exact absurd e hne
        · have h4 := (List.pairwise_cons.1 h1.2).1 x hm
          have h5 := h1.1 y List.mem_cons_self
          exact absurd (lt_conn h4 h5) hne
theorem lt_trans {x y z : P3} (h1 : ltP x y = true) (h2 : ltP y z = true) : ltP x z = true := by
  unfold ltP at *
  have h1 := of_decide_eq_true h1
  have h2 := of_decide_eq_true h2
  exact decide_eq_true (by omega)
theorem ris_uniq : ∀ (a b : List P3), Ris a → Ris b → (∀ z, z ∈ a ↔ z ∈ b) → a = b
  | [], [], _, _, _ => rfl
  | [], y :: b, _, _, h => absurd ((h y).2 List.mem_cons_self) (by simp)
  | x :: a, [], _, _, h => absurd ((h x).1 List.mem_cons_self) (by simp)
  | x :: a, y :: b, ha, hb, h => by
    have ha1 := List.pairwise_cons.1 ha
    have hb1 := List.pairwise_cons.1 hb
    have e : x = y := by
      rcases List.mem_cons.1 ((h x).1 List.mem_cons_self) with e | hm
      · exact e
      · rcases List.mem_cons.1 ((h y).2 List.mem_cons_self) with e | hm2
        · exact e.symm
        · have h1 := lt_asym (hb1.1 x hm)
          rw [ha1.1 y hm2] at h1
          cases h1
    subst e
    have e2 : a = b := by
      refine ris_uniq a b ha1.2 hb1.2 fun z => ⟨fun hz => ?_, fun hz => ?_⟩
      · rcases List.mem_cons.1 ((h z).1 (List.mem_cons_of_mem _ hz)) with e | hm
        · subst e
          have h1 := ha1.1 z hz
          rw [lt_irr] at h1
          cases h1
        · exact hm
      · rcases List.mem_cons.1 ((h z).2 (List.mem_cons_of_mem _ hz)) with e | hm
        · subst e
          have h1 := hb1.1 z hz
          rw [lt_irr] at h1
          cases h1
        · exact hm
    rw [e2]
theorem ddup_snoc : ∀ (l : List P3) (x y : P3), ddup (l ++ [x, y]) = if x = y then ddup (l ++ [x]) else ddup (l ++ [x]) ++ [y]
  | [], x, y => by
    by_cases h : x = y
    · subst h
      simp [ddup]
    · simp [ddup, h]
  | [a], x, y => by
    have h := ddup_snoc [] x y
    simp only [List.nil_append, List.cons_append] at h ⊢
    unfold ddup
    rw [h]
    by_cases h1 : a = x <;> by_cases h2 : x = y <;> simp [h1, h2, ddup]
  | a :: b :: l, x, y => by
    have h := ddup_snoc (b :: l) x y
    simp only [List.cons_append] at h ⊢
    unfold ddup
    rw [h]
    by_cases h1 : a = b <;> by_cases h2 : x = y <;> simp [h1, h2]
end Go.Proofs.Ytglkhjjhjhhonaa.Sr
