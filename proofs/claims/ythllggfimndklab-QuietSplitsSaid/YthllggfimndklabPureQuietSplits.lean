/- Of any bag the first ones may go, the others not. No condition. -/
import Derived.Test.YthllggfimndklabQQuietSplitsx3
namespace Go.Proofs.Ythllggfimndklab.Pure
open Go.RowKit Go.Proofs.Ythllggfimndklab.QQuietSplits Go.Proofs.YthllggfimndklabW.PrintWords Go.Proofs.YthllggfimndklabW.PrintLast Go.Proofs.YthllggfimndklabW.PrintMore Go.Proofs.YthllggfimndklabW.HWords

theorem parts_wrap {n : Int} (h : -9223372036854775808 ≤ n ∧ n ≤ 9223372036854775807) : wrap64 n = n := by
  unfold wrap64
  omega
theorem parts_bags_loop (l : List S52) (hl : l.length ≤ 9223372036854775806) (d : Nat) : ∀ (k i : Nat), i + d = l.length → d < k → warrenerplain_Bags.l0 k l l i = some true := by
  induction d with
  | zero =>
    intro k i h hk
    obtain ⟨k, rfl⟩ : ∃ m, k = m + 1 := ⟨k - 1, by omega⟩
    simp only [warrenerplain_Bags.l0]
    rw [if_neg (by omega)]
  | succ d ih =>
    intro k i h hk
    obtain ⟨k, rfl⟩ : ∃ m, k = m + 1 := ⟨k - 1, by omega⟩
    simp only [warrenerplain_Bags.l0]
    rw [if_pos (by omega), if_pos (by omega), if_pos (by omega), parts_wrap (by omega)]
    simp only [beq_self_eq_true, Bool.not_true, Bool.or_false, Bool.false_eq_true, if_false]
    exact ih k (i + 1) (by omega) (by omega)
theorem parts_bags (l : List S52) (hl : l.length ≤ 9223372036854775806) (k : Nat) (hk : l.length < k) : warrenerplain_Bags.f k l l = some true := by
  unfold warrenerplain_Bags.f
  rw [if_pos rfl]
  exact parts_bags_loop l hl l.length k 0 (by omega) hk
theorem parts_alive (k : Nat) (hk : 30 ≤ k) : warrenerlaw23_alive.f k = some true :=
  at_rounds (g := fun k => warrenerlaw23_alive.f k) (fun k => warrenerlaw23_alive.mono k) hk (by decide +kernel)

theorem QuietSplits : warrenerlaw23_QuietSplits.Pure := by
  intro L old hL _
  refine ⟨L.length + 50, ?_⟩
  unfold warrenerlaw23_QuietSplits.f
  rw [parts_alive _ (by omega)]
  simp only [Option.bind_some, if_true]
  obtain ⟨n, hn, h1, h2⟩ : ∃ n : Nat, n ≤ L.length ∧ warrenerplain_Near.f old 0 (L.length : Int) = some (n : Int) ∧ num_Clamp.f old 0 (L.length : Int) = some (n : Int) := by
    unfold warrenerplain_Near.f num_Clamp.f mn
    by_cases c0 : old < 0
    · exact ⟨0, by omega, by rw [if_pos c0]; rfl, by rw [if_pos c0]; rfl⟩
    · by_cases c1 : old > (L.length : Int)
      · exact ⟨L.length, by omega, by rw [if_neg c0, if_pos c1], by rw [if_neg c0, if_pos (by omega)]⟩
      · exact ⟨old.toNat, by omega, by rw [if_neg c0, if_neg c1, Int.toNat_of_nonneg (by omega)], by rw [if_neg c0, if_neg (by omega), Int.toNat_of_nonneg (by omega)]⟩
  have e1 : api_Bagged.f (L.take n) = some (L.take n) := by
    unfold api_Bagged.f
    rw [if_pos (by rw [List.length_take]; omega)]
  have e2 : api_Bagged.f (L.drop n) = some (L.drop n) := by
    unfold api_Bagged.f
    rw [if_pos (by rw [List.length_drop]; omega)]
  have e3 : quiet_Split.f L old = some (L.take n, L.drop n) := by
    unfold quiet_Split.f
    rw [h2]
    simp only [Option.bind_some, Int.toNat_natCast]
    rw [if_pos (by omega), if_pos (by omega), e1]
    simp only [Option.bind_some]
    rw [e2]
    rfl
  rw [h1, e3]
  simp only [Option.bind_some, Int.toNat_natCast]
  rw [if_pos (by omega), if_pos (by omega), parts_bags _ (by rw [List.length_take]; omega) _ (by rw [List.length_take]; omega)]
  simp only [Option.bind_some, if_true]
  rw [parts_bags _ (by rw [List.length_drop]; omega) _ (by rw [List.length_drop]; omega)]
  rfl

end Go.Proofs.Ythllggfimndklab.Pure
