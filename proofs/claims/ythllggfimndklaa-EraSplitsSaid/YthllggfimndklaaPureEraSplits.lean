/- Of any bag those may go that were retired two epochs ago or earlier; both parts are together the bag, in order; with a later epoch no fewer go. No condition. -/
import Derived.Test.YthllggfimndklaaQEraSplitsx3
namespace Go.Proofs.Ythllggfimndklaa.Pure
open Go.RowKit Go.Proofs.Ythllggfimndklaa.QEraSplits Go.Proofs.YthllggfimndklaaW.PrintWords Go.Proofs.YthllggfimndklaaW.PrintLast Go.Proofs.YthllggfimndklaaW.PrintMore Go.Proofs.YthllggfimndklaaW.HWords

theorem wrap_up {n : Int} (h : -9223372036854775808 ≤ n ∧ n ≤ 9223372036854775807) : wrap64 n = n := by
  unfold wrap64
  omega
theorem wf_bd {a : Int} (h : (Lit.int .i64 a).wf = true) : -9223372036854775808 ≤ a ∧ a ≤ 9223372036854775807 := by
  simp only [Lit.wf, Bool.and_eq_true, decide_eq_true_eq] at h
  exact h
theorem bags_loop (l : List S33) (hl : l.length ≤ 9223372036854775806) (d : Nat) : ∀ (k i : Nat), i + d = l.length → d < k → warrenerplain_Bags.l0 k l l i = some true := by
  induction d with
  | zero =>
    intro k i h hk
    obtain ⟨k, rfl⟩ : ∃ m, k = m + 1 := ⟨k - 1, by omega⟩
    simp only [warrenerplain_Bags.l0]
    rw [if_neg (by omega)]
  | succ d ih =>
    intro k i h hk
    obtain ⟨k, rfl⟩ : ∃ m, k = m + 1 := ⟨k - 1, by omega⟩
    simp only [warrenerplain_Bags.l0]
    rw [if_pos (by omega), if_pos (by omega), if_pos (by omega), wrap_up (by omega)]
    simp only [beq_self_eq_true, Bool.not_true, Bool.or_false, Bool.false_eq_true, if_false]
    exact ih k (i + 1) (by omega) (by omega)
theorem bags_same (l : List S33) (hl : l.length ≤ 9223372036854775806) (k : Nat) (hk : l.length < k) : warrenerplain_Bags.f k l l = some true := by
  unfold warrenerplain_Bags.f
  rw [if_pos rfl]
  exact bags_loop l hl l.length k 0 (by omega) hk
theorem alive_yes : warrenerlaw22_alive.f = some true := by decide +kernel

theorem goes_of {e : Int} {x : S33} (he : -9223372036854775808 ≤ e ∧ e ≤ 9223372036854775807) (hx : -9223372036854775808 ≤ x.f2 ∧ x.f2 ≤ 9223372036854775807) :
    (x.f2 ≤ 9223372036854775805 ∧ wrap64 (x.f2 + 2) ≤ e) ↔ era_Split.stays e x = false := by
  unfold era_Split.stays
  simp only [Bool.or_eq_false_iff, decide_eq_false_iff_not]
  unfold wrap64
  omega
theorem goes_later {e e' : Int} {x : S33} (he : -9223372036854775808 ≤ e ∧ e ≤ 9223372036854775807) (he' : -9223372036854775808 ≤ e' ∧ e' ≤ 9223372036854775807) (hx : -9223372036854775808 ≤ x.f2 ∧ x.f2 ≤ 9223372036854775807) (h : e ≤ e')
    (hs : era_Split.stays e x = false) : era_Split.stays e' x = false := by
  rw [← goes_of he' hx]
  rw [← goes_of he hx] at hs
  omega
theorem filter_more {p q : S33 → Bool} (l : List S33) (h : ∀ x ∈ l, p x = true → q x = true) : (l.filter p).length ≤ (l.filter q).length := by
  induction l with
  | nil => simp
  | cons x r ih =>
    have := ih (fun y hy => h y (List.mem_cons_of_mem _ hy))
    by_cases hp : p x = true
    · have hq := h x List.mem_cons_self hp
      simp [hp, hq, this]
    · by_cases hq : q x = true
      · simp [hp, hq]
        omega
      · simp [hp, hq, this]
theorem fr_len (e : Int) (l : List S33) : (era_Split.fr e l).length ≤ l.length := List.length_filter_le _ _
theorem ke_len (e : Int) (l : List S33) : (era_Split.ke e l).length ≤ l.length := List.length_filter_le _ _
theorem item_eta (x : S33) : (⟨x.f0, x.f1, x.f2⟩ : S33) = x := rfl

theorem splits_loop (L : List S33) (e e' : Int) (hL : L.length ≤ 40) (hx : ∀ x ∈ L, G33 x) (he : -9223372036854775808 ≤ e ∧ e ≤ 9223372036854775807) (he' : -9223372036854775808 ≤ e' ∧ e' ≤ 9223372036854775807) (d : Nat) :
    ∀ (k i : Nat), i + d = L.length → d + 50 < k → warrenerlaw22_EraSplits.l0 k L e e' (era_Split.fr e (L.take i)) (era_Split.ke e (L.take i)) i = some true := by
  induction d with
  | zero =>
    intro k i h hk
    obtain ⟨k, rfl⟩ : ∃ m, k = m + 1 := ⟨k - 1, by omega⟩
    have hi : i = L.length := by omega
    have hb1 := bags_same (era_Split.fr e L) (by have := fr_len e L; omega) k (by have := fr_len e L; omega)
    have hb2 := bags_same (era_Split.ke e L) (by have := ke_len e L; omega) k (by have := ke_len e L; omega)
    simp only [warrenerlaw22_EraSplits.l0]
    rw [if_neg (by omega), hi, List.take_length]
    unfold era_Split.f
    rw [if_pos (by omega), if_pos (by omega)]
    simp only [Option.bind_some]
    rw [hb1]
    simp only [Option.bind_some, if_true]
    rw [hb2]
    simp only [Option.bind_some, if_true]
    by_cases hlt : e' < e
    · rw [if_pos hlt]
    · rw [if_neg hlt]
      have := filter_more (p := fun x => !era_Split.stays e x) (q := fun x => !era_Split.stays e' x) L (fun x hm hp => by
        have hg := wf_bd (hx x hm).2.2
        have := goes_later he he' hg (by omega) (by simpa using hp)
        simp [this])
      have h2 : (era_Split.fr e L).length ≤ (era_Split.fr e' L).length := this
      have h3 : ((era_Split.fr e' L).length : Int) ≥ ((era_Split.fr e L).length : Int) := by omega
      rw [decide_eq_true h3]
  | succ d ih =>
    intro k i h hk
    obtain ⟨k, rfl⟩ : ∃ m, k = m + 1 := ⟨k - 1, by omega⟩
    have hlt : i < L.length := by omega
    have hm : rd_T33 L i ∈ L := by
      unfold rd_T33
      rw [List.getD_eq_getElem?_getD, List.getElem?_eq_getElem (by omega)]
      simp
    have hg := wf_bd (hx _ hm).2.2
    have l7 : (era_Split.fr e (L.take i)).length ≤ 40 := by have := fr_len e (L.take i); rw [List.length_take] at this; omega
    have l8 : (era_Split.ke e (L.take i)).length ≤ 40 := by have := ke_len e (L.take i); rw [List.length_take] at this; omega
    have next := ih k (i + 1) (by omega) (by omega)
    simp only [warrenerlaw22_EraSplits.l0]
    rw [if_pos (by omega), if_pos (by omega), wrap_up (n := (i : Int) + 1) (by omega)]
    simp only [item_eta]
    by_cases hs : era_Split.stays e (rd_T33 L i) = true
    · have hst := era_Split.step_ke hlt hs
      rw [hst.1, hst.2] at next
      have hno : ¬ ((rd_T33 L i).f2 ≤ 9223372036854775805 ∧ wrap64 ((rd_T33 L i).f2 + 2) ≤ e) := by
        rw [goes_of he hg, hs]
        simp
      by_cases c1 : (rd_T33 L i).f2 ≤ 9223372036854775805
      · rw [if_pos c1, if_neg (fun c2 => hno ⟨c1, c2⟩), if_pos (by omega)]
        exact next
      · rw [if_neg c1, if_pos (by omega)]
        exact next
    · have hs' : era_Split.stays e (rd_T33 L i) = false := by simpa using hs
      have hst := era_Split.step_fr hlt hs'
      rw [hst.1, hst.2] at next
      obtain ⟨c1, c2⟩ := (goes_of he hg).2 hs'
      rw [if_pos c1, if_pos c2, if_pos (by omega)]
      exact next

theorem EraSplits : warrenerlaw22_EraSplits.Pure := by
  intro L e e' hL he he'
  have he := wf_bd he
  have he' := wf_bd he'
  refine ⟨200, ?_⟩
  unfold warrenerlaw22_EraSplits.f
  rw [alive_yes]
  simp only [Option.bind_some, if_true]
  by_cases c : (L.length : Int) > 40
  · rw [if_pos c, if_pos (by omega)]
    have h := splits_loop (L.take 40) e e' (by rw [List.length_take]; omega) (fun x hx => hL.2.2 x (List.mem_of_mem_take hx)) he he' (L.take 40).length 199 0 (by omega) (by rw [List.length_take]; omega)
    simp only [warrenerlaw22_EraSplits.j0]
    exact h
  · rw [if_neg c]
    have h := splits_loop L e e' (by omega) hL.2.2 he he' L.length 199 0 (by omega) (by omega)
    simp only [warrenerlaw22_EraSplits.j0]
    exact h

end Go.Proofs.Ythllggfimndklaa.Pure
