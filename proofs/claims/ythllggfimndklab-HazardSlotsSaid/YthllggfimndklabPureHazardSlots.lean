/- The i-th slot of any threads is as the page says, by rising threads, of each by rising slots. No condition. -/
import Derived.Test.YthllggfimndklabQHazardSlotsx3
namespace Go.Proofs.Ythllggfimndklab.Pure
open Go.RowKit Go.Proofs.Ythllggfimndklab.QHazardSlots Go.Proofs.YthllggfimndklabW.PrintWords Go.Proofs.YthllggfimndklabW.PrintLast Go.Proofs.YthllggfimndklabW.PrintMore Go.Proofs.YthllggfimndklabW.HWords

theorem slots_wrap {n : Int} (h : -9223372036854775808 ≤ n ∧ n ≤ 9223372036854775807) : wrap64 n = n := by
  unfold wrap64
  omega
theorem slots_alive (k : Nat) (hk : 30 ≤ k) : warrenerlaw21_alive.f k = some true :=
  at_rounds (g := fun k => warrenerlaw21_alive.f k) (fun k => warrenerlaw21_alive.mono k) hk (by decide +kernel)
/-- What the slot is said to be. -/
def slotOf (i : Int) (n m : Nat) : Int × Int × Int × Bool := if 0 ≤ i ∧ i < ((n * m : Nat) : Int) then (5, i / m, i % m, true) else (0, 0, 0, false)
theorem near_is (a : Int) (b : Nat) : ∃ n : Nat, n ≤ b ∧ warrenerplain_Near.f a 0 b = some (n : Int) ∧ num_Clamp.f a 0 b = some (n : Int) := by
  unfold warrenerplain_Near.f num_Clamp.f mn
  by_cases c0 : a < 0
  · exact ⟨0, by omega, by rw [if_pos c0]; rfl, by rw [if_pos c0]; rfl⟩
  · by_cases c1 : a > (b : Int)
    · exact ⟨b, by omega, by rw [if_neg c0, if_pos c1], by rw [if_neg c0, if_pos (by omega)]⟩
    · exact ⟨a.toNat, by omega, by rw [if_neg c0, if_neg c1, Int.toNat_of_nonneg (by omega)], by rw [if_neg c0, if_neg (by omega), Int.toNat_of_nonneg (by omega)]⟩
theorem prod_le (n m : Nat) (hn : n ≤ 4) (hm : m ≤ 2) : n * m ≤ 8 := Nat.le_trans (Nat.mul_le_mul hn hm) (by decide)
theorem prod_wrap (n m : Nat) (hn : n ≤ 4) (hm : m ≤ 2) : wrap64 ((n : Int) * (m : Int)) = ((n * m : Nat) : Int) := by
  have h1 : ((n * m : Nat) : Int) = (n : Int) * (m : Int) := Int.natCast_mul n m
  have h2 := prod_le n m hn hm
  rw [← h1]
  exact slots_wrap (by omega)
section
variable (i a1 a2 : Int) (n m : Nat) (hn : n ≤ 4) (hm : m ≤ 2) (hc : hazard_Count.f a1 a2 = some ((n * m : Nat) : Int))
include hn hm hc
theorem slots_inner (t : Nat) (ht : t < n) (d : Nat) : ∀ (k s : Nat), s + d = m → d < k → (∀ j : Nat, j < t * m + s → (j : Int) ≠ i) →
    (∃ r, warrenerlaw21_HazardSlots.l1 k i a1 a2 n m (slotOf i n m).2.2.2 ((t * m + s : Nat) : Int) t s (slotOf i n m).1 (slotOf i n m).2.1 (slotOf i n m).2.2.1 = some true ∧ r = true) ∨
    ((∀ j : Nat, j < (t + 1) * m → (j : Int) ≠ i) ∧ warrenerlaw21_HazardSlots.l1 k i a1 a2 n m (slotOf i n m).2.2.2 ((t * m + s : Nat) : Int) t s (slotOf i n m).1 (slotOf i n m).2.1 (slotOf i n m).2.2.1 =
      warrenerlaw21_HazardSlots.l0 (k - d - 1) i a1 a2 n m (slotOf i n m).2.2.2 (((t + 1) * m : Nat) : Int) ((t + 1 : Nat) : Int) (slotOf i n m).1 (slotOf i n m).2.1 (slotOf i n m).2.2.1) := by
  have hp := prod_le n m hn hm
  induction d with
  | zero =>
    intro k s h hk hj
    obtain ⟨k, rfl⟩ : ∃ q, k = q + 1 := ⟨k - 1, by omega⟩
    have hs : s = m := by omega
    subst hs
    right
    refine ⟨fun j h2 => hj j (by rw [Nat.add_mul, Nat.one_mul] at h2; exact h2), ?_⟩
    simp only [warrenerlaw21_HazardSlots.l1]
    rw [if_neg (by omega), slots_wrap (n := (t : Int) + 1) (by omega), Nat.add_mul, Nat.one_mul]
    rfl
  | succ d ih =>
    intro k s h hk hj
    obtain ⟨k, rfl⟩ : ∃ q, k = q + 1 := ⟨k - 1, by omega⟩
    have hlt : t * m + s < n * m := by
      have : (t + 1) * m ≤ n * m := Nat.mul_le_mul_right m ht
      rw [Nat.add_mul, Nat.one_mul] at this
      omega
    by_cases c : ((t * m + s : Nat) : Int) = i
    · left
      refine ⟨true, ?_, rfl⟩
      subst c
      have e : slotOf ((t * m + s : Nat) : Int) n m = (5, (t : Int), (s : Int), true) := by
        unfold slotOf
        rw [if_pos ⟨by omega, by omega⟩]
        have h1 : ((t * m + s : Nat) : Int) / (m : Int) = (t : Int) := by
          rw [← Int.natCast_ediv, Nat.mul_comm, Nat.mul_add_div (by omega), Nat.div_eq_of_lt (by omega), Nat.add_zero]
        have h2 : ((t * m + s : Nat) : Int) % (m : Int) = (s : Int) := by
          rw [← Int.natCast_emod, Nat.mul_comm, Nat.mul_add_mod, Nat.mod_eq_of_lt (by omega)]
        rw [h1, h2]
      rw [e]
      simp only [warrenerlaw21_HazardSlots.l1]
      rw [if_pos (by omega)]
      simp [hc, prod_wrap n m hn hm]
    · have e2 : (((t * m + s : Nat) : Int) + 1) = ((t * m + (s + 1) : Nat) : Int) := by omega
      have := ih k (s + 1) (by omega) (by omega) (fun j h2 => by
        rcases Nat.lt_or_ge j (t * m + s) with h3 | h3
        · exact hj j h3
        · have : j = t * m + s := by omega
          rw [this]
          exact c)
      simp only [warrenerlaw21_HazardSlots.l1]
      rw [if_pos (by omega), if_neg c, slots_wrap (n := ((t * m + s : Nat) : Int) + 1) (by omega), slots_wrap (n := (s : Int) + 1) (by omega), e2, show k + 1 - (d + 1) - 1 = k - d - 1 by omega]
      exact this
theorem slots_outer (d : Nat) : ∀ (k t : Nat), t + d = n → d * 4 + 4 < k → (∀ j : Nat, j < t * m → (j : Int) ≠ i) →
    warrenerlaw21_HazardSlots.l0 k i a1 a2 n m (slotOf i n m).2.2.2 ((t * m : Nat) : Int) t (slotOf i n m).1 (slotOf i n m).2.1 (slotOf i n m).2.2.1 = some true := by
  induction d with
  | zero =>
    intro k t h hk hj
    obtain ⟨k, rfl⟩ : ∃ q, k = q + 1 := ⟨k - 1, by omega⟩
    have ht : t = n := by omega
    subst ht
    have e : slotOf i t m = (0, 0, 0, false) := by
      unfold slotOf
      rw [if_neg]
      rintro ⟨h1, h2⟩
      exact hj i.toNat (by omega) (by omega)
    rw [e]
    simp only [warrenerlaw21_HazardSlots.l0]
    rw [if_neg (by omega), if_neg (by simp), if_pos (by simp), hc, prod_wrap t m hn hm]
    simp
  | succ d ih =>
    intro k t h hk hj
    obtain ⟨k, rfl⟩ : ∃ q, k = q + 1 := ⟨k - 1, by omega⟩
    simp only [warrenerlaw21_HazardSlots.l0]
    rw [if_pos (by omega)]
    rcases slots_inner i a1 a2 n m hn hm hc t (by omega) m k 0 (by omega) (by omega) hj with ⟨_, h1, _⟩ | ⟨h1, h2⟩
    · exact h1
    · have e0 : ((t * m + 0 : Nat) : Int) = ((t * m : Nat) : Int) := by rw [Nat.add_zero]
      rw [e0] at h2
      have e1 : ((0 : Nat) : Int) = 0 := rfl
      rw [e1] at h2
      rw [h2]
      exact ih (k - m - 1) (t + 1) (by omega) (by omega) h1
end
theorem HazardSlots : warrenerlaw21_HazardSlots.Pure := by
  intro i a1 a2 _ _ _
  refine ⟨60, ?_⟩
  obtain ⟨n, hn, hn1, hn2⟩ := near_is a1 4
  obtain ⟨m, hm, hm1, hm2⟩ := near_is a2 2
  have hp : n * m ≤ 8 := Nat.le_trans (Nat.mul_le_mul hn hm) (by decide)
  have h1 : ((n * m : Nat) : Int) = (n : Int) * (m : Int) := Int.natCast_mul n m
  have hc : hazard_Count.f a1 a2 = some ((n * m : Nat) : Int) := by
    unfold hazard_Count.f
    have hn2' : num_Clamp.f a1 0 4 = some (n : Int) := hn2
    have hm2' : num_Clamp.f a2 0 2 = some (m : Int) := hm2
    rw [hn2']
    simp only [Option.bind_some]
    rw [hm2']
    simp only [Option.bind_some]
    rw [← h1, slots_wrap (by omega)]
  have hs : hazard_Slot.f i a1 a2 = some (slotOf i n m) := by
    unfold hazard_Slot.f num_In.f slotOf
    have hm2' : num_Clamp.f a2 0 2 = some (m : Int) := hm2
    rw [hc]
    simp only [Option.bind_some]
    rw [slots_wrap (by omega)]
    by_cases c0 : 0 ≤ i
    · rw [if_pos c0]
      simp only [Option.bind_some]
      by_cases c1 : i < ((n * m : Nat) : Int)
      · rw [if_pos (by simp; omega), hm2', if_pos ⟨c0, c1⟩]
        simp only [Option.bind_some]
        have hm0 : m ≠ 0 := by
          rintro rfl
          rw [Nat.mul_zero] at c1
          omega
        rw [if_neg (by omega)]
        have e1 : Int.tdiv i (m : Int) = i / (m : Int) := Int.tdiv_eq_ediv_of_nonneg c0
        have e2 : Int.tmod i (m : Int) = i % (m : Int) := Int.tmod_eq_emod_of_nonneg c0
        have e3 : 0 ≤ i / (m : Int) ∧ i / (m : Int) ≤ i := ⟨Int.ediv_nonneg c0 (by omega), Int.ediv_le_self _ c0⟩
        rw [e1, e2, slots_wrap (by omega)]
      · rw [if_neg (by simp; omega), if_neg (fun h => c1 h.2)]
    · rw [if_neg c0, if_neg (fun h => c0 h.1)]
      rfl
  unfold warrenerlaw21_HazardSlots.f
  have hn1' : warrenerplain_Near.f a1 0 4 = some (n : Int) := hn1
  have hm1' : warrenerplain_Near.f a2 0 2 = some (m : Int) := hm1
  rw [slots_alive 60 (by decide)]
  simp only [Option.bind_some, if_true]
  rw [hn1']
  simp only [Option.bind_some]
  rw [hm1']
  simp only [Option.bind_some]
  rw [hs]
  simp only [Option.bind_some]
  have := slots_outer i a1 a2 n m hn hm hc n 60 0 (by omega) (by omega) (fun j hj => by rw [Nat.zero_mul] at hj; omega)
  rw [Nat.zero_mul] at this
  exact this

end Go.Proofs.Ythllggfimndklab.Pure
