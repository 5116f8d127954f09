/- What happens ahead of what. No condition beside those that each theorem names. -/
import Derived.Test.YtglkhjjhjhhonaaOoA
namespace Go.Proofs.Ytglkhjjhjhhonaa.Sr
open Go.RowKit Go.Proofs.YtglkhjjhjhhonaaM.Mach
set_option linter.unusedVariables false
set_option linter.unusedSimpArgs false
/-! What happens ahead of what: by steps, and by clocks. -/
/-- The i-th step is the k-th, or ahead of it, by a closure. -/
inductive Bf (tg : Nat → Nat → Prop) : Nat → Nat → Prop
  | refl (k : Nat) : Bf tg k k
  | step {j m k : Nat} : j < m → tg j m → Bf tg m k → Bf tg j k
theorem Bf.le {tg : Nat → Nat → Prop} {j k : Nat} (h : Bf tg j k) : j ≤ k := by
  induction h with
  | refl => exact Nat.le_refl _
  | step h1 _ _ ih => omega
theorem Bf.trans {tg : Nat → Nat → Prop} {i j k : Nat} (h : Bf tg i j) (h2 : Bf tg j k) : Bf tg i k := by
  induction h with
  | refl => exact h2
  | step h1 h3 _ ih => exact .step h1 h3 (ih h2)
theorem Bf.one {tg : Nat → Nat → Prop} {j k : Nat} (h : j < k) (ht : tg j k) : Bf tg j k := .step h ht (.refl k)
theorem Bf.last {tg : Nat → Nat → Prop} {j k : Nat} (h : Bf tg j k) : j = k ∨ ∃ m, m < k ∧ Bf tg j m ∧ tg m k := by
  induction h with
  | refl => exact .inl rfl
  | @step j m k h1 h2 h3 ih =>
    rcases ih with rfl | ⟨m', h4, h5, h6⟩
    · exact .inr ⟨j, h1, .refl j, h2⟩
    · exact .inr ⟨m', h4, .step h1 h2 h5, h6⟩
def cnt (ag : Nat → Int) (a : Int) : Nat → Nat
  | 0 => 0
  | k + 1 => cnt ag a k + (if ag k = a then 1 else 0)
def nthO (ag : Nat → Int) (k : Nat) : Nat := cnt ag (ag k) k + 1
theorem cnt_mono (ag : Nat → Int) (a : Int) {j k : Nat} (h : j ≤ k) : cnt ag a j ≤ cnt ag a k := by
  induction k with
  | zero =>
    obtain rfl : j = 0 := by omega
    exact Nat.le_refl _
  | succ k ih =>
    by_cases h1 : j ≤ k
    · have := ih h1
      show _ ≤ cnt ag a k + _
      omega
    · obtain rfl : j = k + 1 := by omega
      exact Nat.le_refl _
theorem nth_lt (ag : Nat → Int) {j k : Nat} (h : j < k) (he : ag j = ag k) : nthO ag j < nthO ag k := by
  have h1 : cnt ag (ag k) (j + 1) ≤ cnt ag (ag k) k := cnt_mono ag _ h
  have h2 : cnt ag (ag k) (j + 1) = nthO ag j := by
    show cnt ag (ag k) j + (if ag j = ag k then 1 else 0) = cnt ag (ag j) j + 1
    rw [if_pos he, he]
  unfold nthO at *
  omega
/-- What the clocks of n steps are. -/
structure CLK (n : Nat) (ag : Nat → Int) (tg : Nat → Nat → Prop) (ck : Nat → Int → Nat) : Prop where
  own : ∀ k, k < n → ck k (ag k) = nthO ag k
  up : ∀ k, k < n → ∀ i, i ≠ ag k → ∀ j, j < k → tg j k → ck j i ≤ ck k i
  dn : ∀ k, k < n → ∀ i, i ≠ ag k → ck k i = 0 ∨ ∃ j, j < k ∧ tg j k ∧ ck k i = ck j i
theorem clk_key {n : Nat} {ag : Nat → Int} {tg : Nat → Nat → Prop} {ck : Nat → Int → Nat} (h : CLK n ag tg ck) : ∀ k, k < n → ∀ i, (∀ j, j ≤ k → ag j = i → Bf tg j k → nthO ag j ≤ ck k i) ∧ (ck k i = 0 ∨ ∃ j, j ≤ k ∧ ag j = i ∧ Bf tg j k ∧ ck k i = nthO ag j) := by
  intro k
  induction k using Nat.strongRecOn with
  | _ k ih =>
    intro hk i
    by_cases hi : i = ag k
    · subst hi
      rw [h.own k hk]
      refine ⟨fun j hj he _ => ?_, .inr ⟨k, Nat.le_refl _, rfl, .refl k, rfl⟩⟩
      by_cases hjk : j = k
      · subst hjk
        exact Nat.le_refl _
      · exact Nat.le_of_lt (nth_lt ag (by omega) he)
    · refine ⟨fun j hj he hb => ?_, ?_⟩
      · rcases hb.last with rfl | ⟨m, h1, h2, h3⟩
        · exact absurd he.symm hi
        · exact Nat.le_trans ((ih m h1 (by omega) i).1 j h2.le he h2) (h.up k hk i hi m h1 h3)
      · rcases h.dn k hk i hi with h1 | ⟨j, h1, h2, h3⟩
        · exact .inl h1
        · rcases (ih j h1 (by omega) i).2 with h4 | ⟨j', h4, h5, h6, h7⟩
          · exact .inl (h3.trans h4)
          · exact .inr ⟨j', by omega, h5, h6.trans (.one h1 h2), h3.trans h7⟩
/-- A step is ahead of another one just if the clock there has seen it. -/
theorem clk_iff {n : Nat} {ag : Nat → Int} {tg : Nat → Nat → Prop} {ck : Nat → Int → Nat} (h : CLK n ag tg ck) (hs : ∀ j k, j < k → k < n → ag j = ag k → tg j k) {j k : Nat} (hj : j < n) (hk : k < n) : Bf tg j k ↔ nthO ag j ≤ ck k (ag j) := by
  constructor
  · intro hb
    exact (clk_key h k hk (ag j)).1 j hb.le rfl hb
  · intro hc
    rcases (clk_key h k hk (ag j)).2 with h1 | ⟨j', h1, h2, h3, h4⟩
    · unfold nthO at hc
      omega
    · by_cases hjj : j = j'
      · subst hjj
        exact h3
      · have hlt : j < j' := by
          apply Classical.byContradiction
          intro hno
          have := nth_lt ag (show j' < j by omega) h2
          omega
        exact (Bf.one hlt (hs j j' hlt (by omega) h2.symm)).trans h3
/-- One of an agent's steps, or ahead of one. -/
def Ahd (n : Nat) (ag : Nat → Int) (tg : Nat → Nat → Prop) (i : Nat) (a : Int) : Prop := ∃ j, j < n ∧ ag j = a ∧ Bf tg i j
theorem ahd_last {n : Nat} {ag : Nat → Int} {tg : Nat → Nat → Prop} (hs : ∀ j k, j < k → k < n → ag j = ag k → tg j k) {i L : Nat} {a : Int} (hL : L < n) (ha : ag L = a) (hl : ∀ j, j < n → ag j = a → j ≤ L) : Ahd n ag tg i a ↔ Bf tg i L := by
  constructor
  · rintro ⟨j, h1, h2, h3⟩
    by_cases h4 : j = L
    · subst h4
      exact h3
    · have h5 := hl j h1 h2
      exact h3.trans (.one (by omega) (hs j L (by omega) hL (h2.trans ha.symm)))
  · intro h
    exact ⟨L, hL, ha, h⟩
theorem ahd_none {n : Nat} {ag : Nat → Int} {tg : Nat → Nat → Prop} {i : Nat} {a : Int} (hl : ∀ j, j < n → ag j ≠ a) : ¬ Ahd n ag tg i a := fun ⟨j, h1, h2, _⟩ => hl j h1 h2
theorem ahd_pass {n : Nat} {ag : Nat → Int} {tg : Nat → Nat → Prop} {i k : Nat} {a : Int} (h : Bf tg i k) (h2 : Ahd n ag tg k a) : Ahd n ag tg i a := by
  obtain ⟨j, h3, h4, h5⟩ := h2
  exact ⟨j, h3, h4, h.trans h5⟩
/-- Another step, and its clock. -/
theorem clk_more {n : Nat} {ag : Nat → Int} {tg : Nat → Nat → Prop} {ck : Nat → Int → Nat} (h : CLK n ag tg ck) (own : ck n (ag n) = nthO ag n) (up : ∀ i, i ≠ ag n → ∀ j, j < n → tg j n → ck j i ≤ ck n i) (dn : ∀ i, i ≠ ag n → ck n i = 0 ∨ ∃ j, j < n ∧ tg j n ∧ ck n i = ck j i) : CLK (n + 1) ag tg ck := by
  refine ⟨fun k hk => ?_, fun k hk => ?_, fun k hk => ?_⟩
  · by_cases h1 : k < n
    · exact h.own k h1
    · obtain rfl : k = n := by omega
      exact own
  · by_cases h1 : k < n
    · exact h.up k h1
    · obtain rfl : k = n := by omega
      exact up
  · by_cases h1 : k < n
    · exact h.dn k h1
    · obtain rfl : k = n := by omega
      exact dn
end Go.Proofs.Ytglkhjjhjhhonaa.Sr
