/- Of any bag those may go whose cells' numbers were not seen; both parts are together the bag, in order. No condition. -/
import Derived.Test.YthllggfimndklacQHazardSplitsx4
namespace Go.Proofs.Ythllggfimndklac.Pure
open Go.RowKit Go.Proofs.Ythllggfimndklac.QHazardSplits Go.Proofs.YthllggfimndklacW.PrintWords Go.Proofs.YthllggfimndklacW.PrintLast Go.Proofs.YthllggfimndklacW.PrintMore Go.Proofs.YthllggfimndklacW.HWords

theorem haz_wrap {n : Int} (h : -9223372036854775808 ≤ n ∧ n ≤ 9223372036854775807) : wrap64 n = n := by
  unfold wrap64
  omega
theorem haz_bags_loop (l : List S26) (hl : l.length ≤ 9223372036854775806) (d : Nat) : ∀ (k i : Nat), i + d = l.length → d < k → warrenerplain_Bags.l0 k l l i = some true := by
  induction d with
  | zero =>
    intro k i h hk
    obtain ⟨k, rfl⟩ : ∃ m, k = m + 1 := ⟨k - 1, by omega⟩
    simp only [warrenerplain_Bags.l0]
    rw [if_neg (by omega)]
  | succ d ih =>
    intro k i h hk
    obtain ⟨k, rfl⟩ : ∃ m, k = m + 1 := ⟨k - 1, by omega⟩
    simp only [warrenerplain_Bags.l0]
    rw [if_pos (by omega), if_pos (by omega), if_pos (by omega), haz_wrap (by omega)]
    simp only [beq_self_eq_true, Bool.not_true, Bool.or_false, Bool.false_eq_true, if_false]
    exact ih k (i + 1) (by omega) (by omega)
theorem haz_bags (l : List S26) (hl : l.length ≤ 9223372036854775806) (k : Nat) (hk : l.length < k) : warrenerplain_Bags.f k l l = some true := by
  unfold warrenerplain_Bags.f
  rw [if_pos rfl]
  exact haz_bags_loop l hl l.length k 0 (by omega) hk
theorem haz_alive (k : Nat) (hk : 30 ≤ k) : warrenerlaw21_alive.f k = some true :=
  at_rounds (g := fun k => warrenerlaw21_alive.f k) (fun k => warrenerlaw21_alive.mono k) hk (by decide +kernel)
theorem haz_eta (x : S26) : (⟨x.f0, x.f1, x.f2⟩ : S26) = x := rfl
theorem haz_fr_len (e : List Int) (l : List S26) : (hazard_Split.fr e l).length ≤ l.length := List.length_filter_le _ _
theorem haz_ke_len (e : List Int) (l : List S26) : (hazard_Split.ke e l).length ≤ l.length := List.length_filter_le _ _
theorem haz_near (n : Nat) : warrenerplain_Near.f (n : Int) 0 40 = some ((min n 40 : Nat) : Int) := by
  unfold warrenerplain_Near.f
  rw [if_neg (by omega)]
  by_cases c : (n : Int) > 40
  · rw [if_pos c, show min n 40 = 40 by omega]
    rfl
  · rw [if_neg c, show min n 40 = n by omega]

/-- What the inner loop finds, and where it goes on. -/
def haz_go (k : Nat) (x0 : List S26) (x1 : List Int) (x5 x6 : List S26) (i : Nat) (b : Bool) : Option Bool :=
  if b = true then warrenerlaw21_HazardSplits.l0 k x0 x1 x5 (x6 ++ [rd_T26 x0 i]) ((i + 1 : Nat) : Int)
  else warrenerlaw21_HazardSplits.l0 k x0 x1 (x5 ++ [rd_T26 x0 i]) x6 ((i + 1 : Nat) : Int)
theorem haz_inner (x0 : List S26) (x1 : List Int) (x5 x6 : List S26) (i : Nat) (hi : i < x0.length) (hi2 : i < 40) (h5 : x5.length ≤ 40) (h6 : x6.length ≤ 40) (d : Nat) :
    ∀ (k j : Nat) (b : Bool), j + d = min x1.length 40 → 
      warrenerlaw21_HazardSplits.l1 (k + d + 1) x0 x1 x5 x6 i b j = haz_go k x0 x1 x5 x6 i (b || decide ((rd_T26 x0 i).f0 ∈ (x1.take 40).drop j)) := by
  induction d with
  | zero =>
    intro k j b h
    have hn : (x1.take 40).drop j = [] := List.drop_of_length_le (by rw [List.length_take]; omega)
    rw [hn]
    simp only [List.not_mem_nil, decide_false, Bool.or_false, Nat.add_zero]
    simp only [warrenerlaw21_HazardSplits.l1, haz_eta]
    unfold haz_go
    have hw : wrap64 ((i : Int) + 1) = ((i + 1 : Nat) : Int) := by unfold wrap64; omega
    by_cases c : (j : Int) < (x1.length : Int)
    · rw [if_pos c, if_neg (by omega)]
      cases b
      · simp only [Bool.false_eq_true, if_false]
        rw [if_pos (by omega), if_pos (by omega), if_pos (by omega), hw]
      · simp only [if_true]
        rw [if_pos (by omega), if_pos (by omega), if_pos (by omega), hw]
    · rw [if_neg c]
      cases b
      · simp only [Bool.false_eq_true, if_false]
        rw [if_pos (by omega), if_pos (by omega), if_pos (by omega), hw]
      · simp only [if_true]
        rw [if_pos (by omega), if_pos (by omega), if_pos (by omega), hw]
  | succ d ih =>
    intro k j b h
    have hd : (x1.take 40).drop j = rd x1 j :: (x1.take 40).drop (j + 1) := by
      rw [List.drop_eq_getElem_cons (by rw [List.length_take]; omega)]
      simp [rd, List.getD_eq_getElem?_getD, List.getElem?_eq_getElem (show j < x1.length by omega)]
    have hw : wrap64 ((j : Int) + 1) = ((j + 1 : Nat) : Int) := by unfold wrap64; omega
    have ih := ih k (j + 1)
    obtain ⟨q, hq⟩ : ∃ q, q = k + d + 1 := ⟨_, rfl⟩
    rw [show k + (d + 1) + 1 = q + 1 by omega]
    rw [← hq] at ih
    simp only [warrenerlaw21_HazardSplits.l1]
    rw [if_pos (by omega), if_pos (by omega), hw, hd]
    cases b
    · simp only [Bool.false_eq_true, if_false]
      rw [if_pos (by omega), if_pos (by omega), if_pos (by omega), ih _ (by omega)]
      congr 1
      by_cases c : rd x1 j = (rd_T26 x0 i).f0
      · simp [c]
      · have c2 : ¬ (rd_T26 x0 i).f0 = rd x1 j := fun e => c e.symm
        simp [c, c2]
    · simp only [if_true]
      rw [ih _ (by omega)]
      simp

theorem haz_loop (L : List S26) (S : List Int) (hL : L.length * 24 ≤ 140737488351232) (d : Nat) :
    ∀ (k i : Nat), i + d = min L.length 40 → d * 50 + 100 < k → warrenerlaw21_HazardSplits.l0 k L S (hazard_Split.fr (S.take 40) (L.take i)) (hazard_Split.ke (S.take 40) (L.take i)) i = some true := by
  induction d with
  | zero =>
    intro k i h hk
    obtain ⟨k, rfl⟩ : ∃ m, k = m + 2 := ⟨k - 2, by omega⟩
    have hb1 := haz_bags (hazard_Split.fr (S.take 40) (L.take i)) (by have := haz_fr_len (S.take 40) (L.take i); rw [List.length_take] at this; omega) k (by have := haz_fr_len (S.take 40) (L.take i); rw [List.length_take] at this; omega)
    have hb2 := haz_bags (hazard_Split.ke (S.take 40) (L.take i)) (by have := haz_ke_len (S.take 40) (L.take i); rw [List.length_take] at this; omega) k (by have := haz_ke_len (S.take 40) (L.take i); rw [List.length_take] at this; omega)
    have hj : warrenerlaw21_HazardSplits.j1 (k + 1) L S (hazard_Split.fr (S.take 40) (L.take i)) (hazard_Split.ke (S.take 40) (L.take i)) i false = some true := by
      simp only [warrenerlaw21_HazardSplits.j1, Bool.false_eq_true, if_false]
      have hi : i = min L.length 40 := by omega
      have e1 : S.take (min S.length 40) = S.take 40 := by
        by_cases c : S.length ≤ 40
        · rw [List.take_of_length_le (by omega), List.take_of_length_le c]
        · rw [show min S.length 40 = 40 by omega]
      rw [haz_near L.length, ← hi]
      simp only [Option.bind_some]
      rw [if_pos (by omega), if_pos (by omega), haz_near S.length]
      simp only [Option.bind_some, Int.toNat_natCast]
      rw [if_pos (by omega), if_pos (by omega), e1]
      unfold hazard_Split.f
      rw [if_pos (by rw [List.length_take]; omega), if_pos (by rw [List.length_take]; omega)]
      simp only [Option.bind_some]
      rw [hb1]
      simp only [Option.bind_some, if_true]
      rw [hb2]
      rfl
    simp only [warrenerlaw21_HazardSplits.l0]
    by_cases c : (i : Int) < (L.length : Int)
    · rw [if_pos c, show decide ((i : Int) < 40) = false from decide_eq_false (by omega)]
      exact hj
    · rw [if_neg c]
      exact hj
  | succ d ih =>
    intro k i h hk
    have hlt : i < L.length := by omega
    obtain ⟨m, hm⟩ : ∃ m, k = m + min S.length 40 + 1 + 1 + 1 := ⟨k - min S.length 40 - 3, by omega⟩
    have q1 : i + 1 + d = min L.length 40 := by omega
    have q2 : d * 50 + 100 < m := by
      clear ih q1 hL
      have : min S.length 40 ≤ 40 := Nat.min_le_right _ _
      omega
    have next := ih m (i + 1) q1 q2
    have l7 := haz_fr_len (S.take 40) (L.take i)
    have l8 := haz_ke_len (S.take 40) (L.take i)
    rw [List.length_take] at l7 l8
    subst hm
    simp only [warrenerlaw21_HazardSplits.l0]
    rw [if_pos (by omega), decide_eq_true (show (i : Int) < 40 by omega)]
    simp only [warrenerlaw21_HazardSplits.j1, if_true]
    have hin := haz_inner L S (hazard_Split.fr (S.take 40) (L.take i)) (hazard_Split.ke (S.take 40) (L.take i)) i hlt (by omega) (by omega) (by omega) (min S.length 40) m 0 false (by omega)
    have z0 : ((0 : Nat) : Int) = 0 := rfl
    rw [z0] at hin
    rw [hin]
    simp only [Bool.false_or, List.drop_zero]
    unfold haz_go
    by_cases hs : decide ((rd_T26 L i).f0 ∈ S.take 40) = true
    · rw [if_pos hs]
      have hst := hazard_Split.step_ke hlt hs
      rw [hst.1, hst.2] at next
      exact next
    · rw [if_neg hs]
      have hs' : decide ((rd_T26 L i).f0 ∈ S.take 40) = false := by
        cases hb : decide ((rd_T26 L i).f0 ∈ S.take 40)
        · rfl
        · exact absurd hb hs
      have hst := hazard_Split.step_fr hlt hs'
      rw [hst.1, hst.2] at next
      exact next

theorem HazardSplits : warrenerlaw21_HazardSplits.Pure := by
  intro L S hL _
  refine ⟨3000, ?_⟩
  unfold warrenerlaw21_HazardSplits.f
  rw [haz_alive _ (by omega)]
  simp only [Option.bind_some, if_true]
  exact haz_loop L S hL.1 (min L.length 40) 3000 0 (by omega) (by omega)

end Go.Proofs.Ythllggfimndklac.Pure
