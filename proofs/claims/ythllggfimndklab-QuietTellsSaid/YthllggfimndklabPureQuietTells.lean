/- Of any counts and any snapshot it is told whether one has passed, and whether all have. No condition. -/
import Derived.Test.YthllggfimndklabQQuietTellsx2
namespace Go.Proofs.Ythllggfimndklab.Pure
open Go.RowKit Go.Proofs.Ythllggfimndklab.QQuietTells Go.Proofs.YthllggfimndklabW.PrintWords Go.Proofs.YthllggfimndklabW.PrintLast Go.Proofs.YthllggfimndklabW.PrintMore Go.Proofs.YthllggfimndklabW.HWords

theorem tells_wrap {n : Int} (h : -9223372036854775808 ≤ n ∧ n ≤ 9223372036854775807) : wrap64 n = n := by
  unfold wrap64
  omega
def pB (me : Int) (snap : List Int) (i n : Int) : Bool := decide (i = me) || (!(decide (0 ≤ i) && decide (i < (snap.length : Int))) || n != rd snap i)
theorem passed_is (i me n : Int) (snap : List Int) (hs : snap.length ≤ 20) : quiet_Passed.f i me n snap = some (pB me snap i n) := by
  unfold quiet_Passed.f num_In.f pB
  by_cases c : i = me
  · simp [c]
  · rw [if_neg c, tells_wrap (by omega)]
    by_cases c0 : 0 ≤ i
    · by_cases c1 : i < (snap.length : Int)
      · have c2 : i ≤ (snap.length : Int) - 1 := by omega
        simp [c, c0, c1, c2]
      · have c2 : ¬ i ≤ (snap.length : Int) - 1 := by omega
        simp [c, c0, c1, c2]
    · simp [c, c0]
def allTo (me : Int) (snap counts : List Int) : Nat → Bool
  | 0 => true
  | i + 1 => allTo me snap counts i && pB me snap i (rd counts i)
theorem allTo_no {me : Int} {snap counts : List Int} {i : Nat} (h : allTo me snap counts i = false) (m : Nat) : allTo me snap counts (i + m) = false := by
  induction m with
  | zero => exact h
  | succ m ih =>
    show (allTo me snap counts (i + m) && _) = false
    rw [ih, Bool.false_and]
theorem over_loop (me : Int) (snap counts : List Int) (hs : snap.length ≤ 20) (hc : counts.length ≤ 20) (d : Nat) : ∀ (k i : Nat), i + d = counts.length → d < k → allTo me snap counts i = true →
    quiet_Over.l0 k me snap counts (counts.length : Int) i = some (allTo me snap counts counts.length) := by
  induction d with
  | zero =>
    intro k i h hk ha
    obtain ⟨k, rfl⟩ : ∃ m, k = m + 1 := ⟨k - 1, by omega⟩
    simp only [quiet_Over.l0]
    rw [if_neg (by omega), show counts.length = i by omega, ha]
  | succ d ih =>
    intro k i h hk ha
    obtain ⟨k, rfl⟩ : ∃ m, k = m + 1 := ⟨k - 1, by omega⟩
    simp only [quiet_Over.l0]
    rw [if_pos (by omega), if_pos (by omega), if_pos (by omega), passed_is _ _ _ _ hs, tells_wrap (n := (i : Int) + 1) (by omega)]
    simp only [Option.bind_some]
    cases hp : pB me snap i (rd counts i) with
    | true =>
      rw [if_pos rfl]
      exact ih k (i + 1) (by omega) (by omega) (by simp [allTo, ha, hp])
    | false =>
      have := allTo_no (me := me) (snap := snap) (counts := counts) (i := i + 1) (by simp [allTo, hp]) d
      rw [show i + 1 + d = counts.length by omega] at this
      rw [this]
      simp
theorem over_is (me : Int) (snap counts : List Int) (hs : snap.length ≤ 20) (hc : counts.length ≤ 20) (k : Nat) (hk : 30 ≤ k) : quiet_Over.f k me counts snap = some (allTo me snap counts counts.length) := by
  unfold quiet_Over.f
  exact over_loop me snap counts hs hc counts.length k 0 (by omega) (by omega) rfl
theorem tells_alive (k : Nat) (hk : 30 ≤ k) : warrenerlaw23_alive.f k = some true :=
  at_rounds (g := fun k => warrenerlaw23_alive.f k) (fun k => warrenerlaw23_alive.mono k) hk (by decide +kernel)

theorem tells_end (i me n : Int) (snap counts : List Int) (hs : snap.length ≤ 20) (hc : counts.length ≤ 20) (k : Nat) (hk : 30 ≤ k) :
    warrenerlaw23_QuietTells.l0 (k + 1) i me n counts snap (allTo me snap counts counts.length) counts.length = some true := by
  simp only [warrenerlaw23_QuietTells.l0]
  rw [if_neg (by omega)]
  simp only [passed_is _ _ _ _ hs, over_is _ _ _ hs hc k hk, Option.bind_some]
  by_cases c0 : i ≥ 0
  · rw [if_pos c0]
    by_cases c1 : i = me
    · simp [c1, pB]
    · rw [if_neg c1]
      by_cases c2 : i < (snap.length : Int)
      · rw [if_pos c2, tells_wrap (by omega)]
        have hn : warrenerplain_Near.f i 0 ((snap.length : Int) - 1) = some i := by
          unfold warrenerplain_Near.f
          rw [if_neg (by omega), if_neg (by omega)]
        rw [hn]
        simp only [Option.bind_some]
        rw [if_pos (by omega), if_pos c2]
        have : pB me snap i n = (n != rd snap i) := by
          have c0' : 0 ≤ i := c0
          simp [pB, c1, c2, c0']
        rw [this]
        simp
      · rw [if_neg c2]
        have : pB me snap i n = true := by simp [pB, c2]
        rw [this]
        simp
  · rw [if_neg c0]
    have c0' : ¬ 0 ≤ i := c0
    have : pB me snap i n = true := by simp [pB, c0']
    rw [this]
    simp

theorem tells_loop (i me n : Int) (snap counts : List Int) (hs : snap.length ≤ 20) (hc : counts.length ≤ 20) (d : Nat) : ∀ (k j : Nat), j + d = counts.length → d + 30 < k →
    warrenerlaw23_QuietTells.l0 k i me n counts snap (allTo me snap counts j) j = some true := by
  induction d with
  | zero =>
    intro k j h hk
    obtain ⟨k, rfl⟩ : ∃ m, k = m + 1 := ⟨k - 1, by omega⟩
    rw [show j = counts.length by omega]
    exact tells_end i me n snap counts hs hc k (by omega)
  | succ d ih =>
    intro k j h hk
    obtain ⟨k, rfl⟩ : ∃ m, k = m + 1 := ⟨k - 1, by omega⟩
    have next := ih k (j + 1) (by omega) (by omega)
    simp only [warrenerlaw23_QuietTells.l0]
    rw [if_pos (by omega), tells_wrap (n := (j : Int) + 1) (by omega)]
    cases ha : allTo me snap counts j with
    | false =>
      have hf : allTo me snap counts (j + 1) = false := by simp [allTo, ha]
      rw [hf] at next
      simpa using next
    | true =>
      have hf : allTo me snap counts (j + 1) = pB me snap j (rd counts j) := by simp [allTo, ha]
      rw [hf] at next
      rw [if_pos rfl]
      by_cases c1 : (j : Int) = me
      · rw [if_pos c1]
        have : pB me snap j (rd counts j) = true := by simp [pB, c1]
        rw [this] at next
        exact next
      · rw [if_neg c1]
        by_cases c2 : (j : Int) ≥ (snap.length : Int)
        · rw [if_pos c2]
          have c3 : ¬ (j : Int) < (snap.length : Int) := by omega
          have : pB me snap j (rd counts j) = true := by simp [pB, c3]
          rw [this] at next
          exact next
        · rw [if_neg c2, if_pos (by omega), if_pos (by omega)]
          have c3 : (j : Int) < (snap.length : Int) := by omega
          have : pB me snap j (rd counts j) = (rd counts j != rd snap j) := by simp [pB, c1, c3]
          rw [this] at next
          exact next

theorem tells_near (n : Nat) (hn : n ≤ 9223372036854775807) : warrenerplain_Near.f (n : Int) 0 20 = some ((min n 20 : Nat) : Int) := by
  unfold warrenerplain_Near.f
  rw [if_neg (by omega)]
  by_cases c : (n : Int) > 20
  · rw [if_pos c, show min n 20 = 20 by omega]
    rfl
  · rw [if_neg c, show min n 20 = n by omega]

theorem QuietTells : warrenerlaw23_QuietTells.Pure := by
  intro i me n counts snap _ _ _ hc hs
  refine ⟨100, ?_⟩
  unfold warrenerlaw23_QuietTells.f
  rw [tells_alive 100 (by decide)]
  simp only [Option.bind_some, if_true]
  rw [tells_near _ hc.2.1, tells_near _ hs.2.1]
  simp only [Option.bind_some]
  rw [if_pos (by omega), if_pos (by omega), if_pos (by omega), if_pos (by omega)]
  simp only [Int.toNat_natCast]
  have h1 : (counts.take (min counts.length 20)).length ≤ 20 := by rw [List.length_take]; omega
  have h2 : (snap.take (min snap.length 20)).length ≤ 20 := by rw [List.length_take]; omega
  exact tells_loop i me n _ _ h2 h1 _ 100 0 (Nat.zero_add _) (by omega)

end Go.Proofs.Ythllggfimndklab.Pure
