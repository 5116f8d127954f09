/- What is reached, round by round, plainly. No condition beside those that each theorem names. -/
import Derived.Test.YthcmcekjgecnhabReB
namespace Go.Proofs.Ythcmcekjgecnhab.Sr
open Go.RowKit Go.Proofs.YthcmcekjgecnhabM.Mach
set_option linter.unusedVariables false
set_option linter.unusedSimpArgs false
def byF (w : W3) (cl : List C10) (i : Nat) : Bool := decide (w.2.1 = (i : Int) + 1 ∧ (cl[i]!).1 ≠ 0 ∧ (cl[i]!).2.1 = w.2.2)
def FromP (lw : List W3) (cl : List C10) (bs : List Bool) (i : Nat) : Prop := (∃ j, j < lw.length ∧ byF lw[j]! cl i = true) ∨ ∃ k, k < cl.length ∧ bs[k]! = true ∧ (byF (f0 cl[k]!) cl i = true ∨ byF (f1 cl[k]!) cl i = true)
def fromB (lw : List W3) (cl : List C10) (bs : List Bool) (i : Nat) : Bool := (List.range lw.length).any (fun j => byF lw[j]! cl i) || (List.range cl.length).any (fun k => bs[k]! && (byF (f0 cl[k]!) cl i || byF (f1 cl[k]!) cl i))
theorem fromB_iff {lw : List W3} {cl : List C10} {bs : List Bool} {i : Nat} : fromB lw cl bs i = true ↔ FromP lw cl bs i := by
  simp [fromB, FromP, List.any_eq_true]
theorem from_t {lw : List W3} {cl : List C10} {bs : List Bool} {i : Nat} (h : FromP lw cl bs i) : fromB lw cl bs i = true := fromB_iff.2 h
theorem from_f {lw : List W3} {cl : List C10} {bs : List Bool} {i : Nat} (h : ¬ FromP lw cl bs i) : fromB lw cl bs i = false := by
  cases hb : fromB lw cl bs i with
  | false => rfl
  | true => exact absurd (fromB_iff.1 hb) h
theorem by_there {w : W3} {cl : List C10} {i : Nat} (hi : i < cl.length) (h : byF w cl i = true) : thereF w cl = true ∧ jx w = i := by
  unfold byF at h
  obtain ⟨h1, h2, h3⟩ := of_decide_eq_true h
  have hj : (w.2.1 - 1).toNat = i := by omega
  unfold thereF jx
  rw [hj]
  exact ⟨decide_eq_true ⟨by omega, by omega, h2, h3⟩, rfl⟩
theorem there_by {w : W3} {cl : List C10} (h : thereF w cl = true) : byF w cl (jx w) = true := by
  unfold thereF at h
  obtain ⟨h1, h2, h3, h4⟩ := of_decide_eq_true h
  unfold byF jx
  exact decide_eq_true ⟨by omega, h3, h4⟩
structure SInv (lw : List W3) (cl : List C10) (bs : List Bool) : Prop where
  len : bs.length = cl.length
  snd : ∀ i, i < cl.length → bs[i]! = true → ReachC lw cl i
def ClosedB (lw : List W3) (cl : List C10) (bs : List Bool) : Prop := ∀ i, i < cl.length → fromB lw cl bs i = true → bs[i]! = true
theorem from_reach {lw : List W3} {cl : List C10} {bs : List Bool} (h : SInv lw cl bs) {i : Nat} (hi : i < cl.length) (hf : fromB lw cl bs i = true) : ReachC lw cl i := by
  rcases fromB_iff.1 hf with ⟨j, hj, hb⟩ | ⟨k, hk, hbk, hb⟩
  · obtain ⟨ht, e⟩ := by_there hi hb
    exact ⟨_, .root (by rw [getElem!_pos lw j hj]; exact List.getElem_mem hj), ht, e⟩
  · obtain ⟨w, hw, hwt, e⟩ := h.snd k hk hbk
    subst e
    rcases hb with hb | hb
    · obtain ⟨ht, e⟩ := by_there hi hb
      exact ⟨_, .a hw hwt, ht, e⟩
    · obtain ⟨ht, e⟩ := by_there hi hb
      exact ⟨_, .b hw hwt, ht, e⟩
theorem closed_reachs {lw : List W3} {cl : List C10} {bs : List Bool} (h : SInv lw cl bs) (hc : ClosedB lw cl bs) : Reachs lw cl bs := by
  have key : ∀ w, RW lw cl w → thereF w cl = true → bs[jx w]! = true := by
    intro w hw
    induction hw with
    | root hm =>
      intro ht
      obtain ⟨j, hj, e⟩ := List.getElem_of_mem hm
      refine hc _ (jx_lt ht) (from_t (.inl ⟨j, hj, ?_⟩))
      rw [getElem!_pos lw j hj, e]
      exact there_by ht
    | a hw ht ih => exact fun ht2 => hc _ (jx_lt ht2) (from_t (.inr ⟨_, jx_lt ht, ih ht, .inl (there_by ht2)⟩))
    | b hw ht ih => exact fun ht2 => hc _ (jx_lt ht2) (from_t (.inr ⟨_, jx_lt ht, ih ht, .inr (there_by ht2)⟩))
  exact ⟨h.len, fun i hi => ⟨h.snd i hi, fun ⟨w, hw, ht, e⟩ => e ▸ key w hw ht⟩⟩
structure PInv (lw : List W3) (cl : List C10) (b0 bs : List Bool) (i : Nat) : Prop where
  s : SInv lw cl bs
  s0 : SInv lw cl b0
  mono : ∀ j : Nat, b0[j]! = true → bs[j]! = true
  done : ∀ j, j < i → j < cl.length → fromB lw cl b0 j = true → bs[j]! = true
  same : ClosedB lw cl b0 → bs = b0
theorem from_mono {lw : List W3} {cl : List C10} {b0 bs : List Bool} (h : ∀ j : Nat, b0[j]! = true → bs[j]! = true) {i : Nat} (hf : fromB lw cl b0 i = true) : fromB lw cl bs i = true := by
  rcases fromB_iff.1 hf with h1 | ⟨k, hk, hb, h2⟩
  · exact from_t (.inl h1)
  · exact from_t (.inr ⟨k, hk, h k hb, h2⟩)
theorem pinv0 {lw : List W3} {cl : List C10} {bs : List Bool} (h : SInv lw cl bs) : PInv lw cl bs bs 0 := ⟨h, h, fun _ h => h, fun j hj => absurd hj (Nat.not_lt_zero j), fun _ => rfl⟩
theorem setb {bs : List Bool} {i j : Nat} {v : Bool} (hi : i < bs.length) : (bs.set i v)[j]! = if i = j then v else bs[j]! := by
  by_cases hj : j < bs.length
  · rw [getElem!_pos _ j (by simpa using hj), List.getElem_set, getElem!_pos bs j hj]
  · rw [getElem!_neg _ j (by simpa using hj), getElem!_neg bs j hj, if_neg (by omega)]
theorem set_same {bs : List Bool} {i : Nat} {v : Bool} (h : v = bs[i]!) : bs.set i v = bs := by
  by_cases hi : i < bs.length
  · rw [getElem!_pos bs i hi] at h
    rw [h, List.set_getElem_self]
  · rw [List.set_eq_of_length_le (by omega)]
theorem pinv_step {lw : List W3} {cl : List C10} {b0 bs : List Bool} {i : Nat} (h : PInv lw cl b0 bs i) (hi : i < cl.length) {v : Bool} (hv : v = (bs[i]! || fromB lw cl bs i)) : PInv lw cl b0 (bs.set i v) (i + 1) := by
  have hib : i < bs.length := by rw [h.s.len]; exact hi
  refine ⟨⟨by rw [List.length_set, h.s.len], fun j hj hb => ?_⟩, h.s0, fun j hb => ?_, fun j hj hjl hf => ?_, fun hc => ?_⟩
  · rw [setb hib] at hb
    split at hb
    · rename_i e
      subst e
      rw [hv, Bool.or_eq_true] at hb
      rcases hb with hb | hb
      · exact h.s.snd i hi hb
      · exact from_reach h.s hi hb
    · exact h.s.snd j hj hb
  · rw [setb hib]
    split
    · rename_i e
      subst e
      rw [hv, h.mono i hb, Bool.true_or]
    · exact h.mono j hb
  · rw [setb hib]
    split
    · rename_i e
      subst e
      rw [hv, from_mono h.mono hf, Bool.or_true]
    · exact h.done j (by omega) hjl hf
  · have e := h.same hc
    subst e
    refine set_same ?_
    rw [hv]
    cases hb : bs[i]! with
    | true => rfl
    | false =>
      rw [Bool.false_or]
      cases hf : fromB lw cl bs i with
      | false => rfl
      | true =>
        rw [hc i hi hf] at hb
        cases hb
theorem count_mono : ∀ (a b : List Bool), a.length = b.length → (∀ j : Nat, a[j]! = true → b[j]! = true) → a.count true ≤ b.count true
  | [], [], _, _ => Nat.le_refl _
  | [], _ :: _, h, _ => by cases h
  | _ :: _, [], h, _ => by cases h
  | x :: a, y :: b, h, hm => by
    have h1 := count_mono a b (by simpa using h) fun j hj => by simpa using hm (j + 1) (by simpa using hj)
    have h2 := hm 0
    cases x <;> cases y <;> simp_all <;> omega
theorem count_strict : ∀ (a b : List Bool), a.length = b.length → (∀ j : Nat, a[j]! = true → b[j]! = true) → ∀ i, i < a.length → a[i]! = false → b[i]! = true → a.count true + 1 ≤ b.count true
  | [], _, _, _, i, hi, _, _ => by simp at hi
  | _ :: _, [], h, _, _, _, _, _ => by cases h
  | x :: a, y :: b, h, hm, 0, _, h1, h2 => by
    have h3 := count_mono a b (by simpa using h) fun j hj => by simpa using hm (j + 1) (by simpa using hj)
    simp at h1 h2
    subst h1 h2
    simp
    omega
  | x :: a, y :: b, h, hm, i + 1, hi, h1, h2 => by
    have h3 := count_strict a b (by simpa using h) (fun j hj => by simpa using hm (j + 1) (by simpa using hj)) i (by simpa using hi) (by simpa using h1) (by simpa using h2)
    have h4 := hm 0
    cases x <;> cases y <;> simp_all <;> omega
theorem pinv_round {lw : List W3} {cl : List C10} {b0 bs : List Bool} {r : Nat} (h : PInv lw cl b0 bs cl.length) (hr : ClosedB lw cl b0 ∨ r ≤ b0.count true) : ClosedB lw cl bs ∨ r + 1 ≤ bs.count true := by
  by_cases hc : ClosedB lw cl b0
  · left
    rw [h.same hc]
    exact hc
  · have hr' := hr.resolve_left hc
    right
    have : ∃ i, i < cl.length ∧ fromB lw cl b0 i = true ∧ b0[i]! = false := by
      apply Classical.byContradiction
      intro hno
      refine hc fun i hi hf => ?_
      cases hb : b0[i]! with
      | true => rfl
      | false => exact absurd ⟨i, hi, hf, hb⟩ hno
    obtain ⟨i, hi, hf, hb⟩ := this
    have := count_strict b0 bs (by rw [h.s.len, h.s0.len]) h.mono i (by rw [h.s0.len]; exact hi) hb (h.done i hi hi hf)
    omega
theorem all_true : ∀ (b : List Bool), b.length ≤ b.count true → ∀ i, i < b.length → b[i]! = true
  | [], _, i, hi => by simp at hi
  | true :: b, h, 0, _ => by simp
  | true :: b, h, i + 1, hi => by simpa using all_true b (by simpa using h) i (by simpa using hi)
  | false :: b, h, i, _ => by
    have := List.count_le_length (a := true) (l := b)
    simp at h
    omega
theorem ref_end {lw : List W3} {cl : List C10} {bs : List Bool} (h : SInv lw cl bs) (hr : ClosedB lw cl bs ∨ cl.length ≤ bs.count true) : Reachs lw cl bs := by
  refine closed_reachs h ?_
  rcases hr with hr | hr
  · exact hr
  · exact fun i hi _ => all_true bs (by rw [h.len]; exact hr) i (by rw [h.len]; exact hi)
theorem sinv0 (lw : List W3) (cl : List C10) : SInv lw cl (List.replicate cl.length false) := ⟨by simp, fun i hi h => by rw [rep_get _ _ hi] at h; cases h⟩
theorem reachs_eq {lw : List W3} {cl : List C10} {a b : List Bool} (ha : Reachs lw cl a) (hb : Reachs lw cl b) : a = b := by
  refine List.ext_getElem (ha.1.trans hb.1.symm) fun i h1 h2 => ?_
  have h3 := ha.2 i (by rw [← ha.1]; exact h1)
  have h4 := hb.2 i (by rw [← ha.1]; exact h1)
  rw [getElem!_pos a i h1] at h3
  rw [getElem!_pos b i h2] at h4
  cases hx : a[i] <;> cases hy : b[i] <;> simp_all
theorem reach_mono {lw lw2 : List W3} {cl : List C10} (h : ∀ w ∈ lw, w ∈ lw2) {i : Nat} (hr : ReachC lw cl i) : ReachC lw2 cl i := by
  obtain ⟨w, hw, ht, e⟩ := hr
  refine ⟨w, ?_, ht, e⟩
  clear ht e
  induction hw with
  | root hm => exact .root (h _ hm)
  | a _ ht ih => exact .a ih ht
  | b _ ht ih => exact .b ih ht
end Go.Proofs.Ythcmcekjgecnhab.Sr
