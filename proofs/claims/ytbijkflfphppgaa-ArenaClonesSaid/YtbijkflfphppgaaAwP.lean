/- What the calls do, to lists. No condition beside those that each theorem names. -/
import Derived.Test.YtbijkflfphppgaaAw0
namespace Go.Proofs.Ytbijkflfphppgaa.Sr
open Go.RowKit Go.Proofs.YtbijkflfphppgaaM.Mach
set_option linter.unusedVariables false
set_option linter.unusedSimpArgs false
/-- What a call does, to lists: cells, the row, whether something turned. -/
def thr (cl : List C10) (cell : Int) : Prop := 1 ≤ cell ∧ cell ≤ (cl.length : Int)
instance (cl : List C10) (cell : Int) : Decidable (thr cl cell) := inferInstanceAs (Decidable (_ ∧ _))
def cellAt (cl : List C10) (cell : Int) : C10 := cl[(cell - 1).toNat]!
def stepA (k cell f b_y pc wn wc wg : Int) (cl : List C10) (rl : List Int) : List C10 × List Int × Bool :=
  if k = 1 then
    if thr cl cell ∧ (cellAt cl cell).1 ≠ 0 then (cl.set (cell - 1).toNat (0, (cellAt cl cell).2.1, 0, 0, 0, 0, 0, 0, 0, 0), cell :: rl, true) else (cl, rl, false)
  else if k = 2 then
    if thr cl cell ∧ (cellAt cl cell).1 = 1 then (cl.set (cell - 1).toNat (2, (cellAt cl cell).2), rl, true) else (cl, rl, false)
  else if k = 3 then
    if thr cl cell ∧ f = 0 then (cl.set (cell - 1).toNat ((cellAt cl cell).1, (cellAt cl cell).2.1, (cellAt cl cell).2.2.1, (cellAt cl cell).2.2.2.1, wn, wc, wg, (cellAt cl cell).2.2.2.2.2.2.2), rl, true)
    else if thr cl cell ∧ f = 1 then (cl.set (cell - 1).toNat ((cellAt cl cell).1, (cellAt cl cell).2.1, (cellAt cl cell).2.2.1, (cellAt cl cell).2.2.2.1, (cellAt cl cell).2.2.2.2.1, (cellAt cl cell).2.2.2.2.2.1, (cellAt cl cell).2.2.2.2.2.2.1, wn, wc, wg), rl, true)
    else (cl, rl, false)
  else match rl with
    | [] => (cl, rl, false)
    | r :: rest => (cl.set (r - 1).toNat (1, IntKind.wrap .i64 ((cellAt cl r).2.1 + 1), b_y, pc, 0, 0, 0, 0, 0, 0), rest, true)
structure INV (cl : List C10) (rl : List Int) : Prop where
  rng : ∀ x ∈ rl, thr cl x
  nd : rl.Nodup
  free : ∀ i, i < cl.length → ((cl[i]!).1 = 0 ↔ ((i : Int) + 1) ∈ rl)
theorem get_set_ite {cl : List C10} {j : Nat} (v : C10) {i : Nat} (hi : i < cl.length) : (cl.set j v)[i]! = if j = i then v else cl[i]! := by
  rw [getElem!_pos (cl.set j v) i (by simpa using hi), getElem!_pos cl i hi, List.getElem_set]
theorem INV.keep {cl : List C10} {rl : List Int} (h : INV cl rl) {cell : Int} (hc : thr cl cell) (v : C10) (hv : v.1 = 0 ↔ (cellAt cl cell).1 = 0) : INV (cl.set (cell - 1).toNat v) rl := by
  refine ⟨fun x hx => by have := h.rng x hx; unfold thr at *; simpa using this, h.nd, fun i hi => ?_⟩
  have hi' : i < cl.length := by simpa using hi
  rw [get_set_ite v hi']
  split
  · rename_i e
    have h2 := h.free i hi'
    unfold cellAt at hv
    rw [e] at hv
    rw [hv, h2]
  · exact h.free i hi'
theorem inv_step {cl : List C10} {rl : List Int} (h : INV cl rl) (k cell f b_y pc wn wc wg : Int) : INV (stepA k cell f b_y pc wn wc wg cl rl).1 (stepA k cell f b_y pc wn wc wg cl rl).2.1 ∧ (stepA k cell f b_y pc wn wc wg cl rl).1.length = cl.length := by
  unfold stepA
  split
  · split
    · rename_i hc
      obtain ⟨hc, hs⟩ := hc
      have hc' := hc
      unfold thr at hc'
      have hidx : (cell - 1).toNat < cl.length := by omega
      have hself : (((cell - 1).toNat : Nat) : Int) + 1 = cell := by omega
      have hnm : cell ∉ rl := fun hm => by
        have h2 := (h.free _ hidx).2 (by rw [hself]; exact hm)
        exact hs h2
      refine ⟨⟨fun x hx => ?_, List.nodup_cons.2 ⟨hnm, h.nd⟩, fun i hi => ?_⟩, by simp⟩
      · have : thr cl x := by
          rcases List.mem_cons.1 hx with rfl | hx
          · exact hc
          · exact h.rng x hx
        unfold thr at *
        simpa using this
      · have hi' : i < cl.length := by simpa using hi
        rw [get_set_ite _ hi', List.mem_cons]
        split
        · rename_i e
          constructor
          · intro _
            left
            omega
          · intro _
            rfl
        · rename_i e
          rw [h.free i hi']
          constructor
          · exact fun hm => .inr hm
          · rintro (e2 | hm)
            · omega
            · exact hm
    · exact ⟨h, rfl⟩
  · split
    · split
      · rename_i hc
        refine ⟨h.keep hc.1 _ ?_, by simp⟩
        rw [hc.2]
        simp
      · exact ⟨h, rfl⟩
    · split
      · split
        · rename_i hc
          exact ⟨h.keep hc.1 _ Iff.rfl, by simp⟩
        · split
          · rename_i hc
            exact ⟨h.keep hc.1 _ Iff.rfl, by simp⟩
          · exact ⟨h, rfl⟩
      · cases rl with
        | nil => exact ⟨h, rfl⟩
        | cons r rest =>
          have hr := h.rng r List.mem_cons_self
          have hr' := hr
          unfold thr at hr'
          have hnd := List.nodup_cons.1 h.nd
          refine ⟨⟨fun x hx => ?_, hnd.2, fun i hi => ?_⟩, by simp⟩
          · have : thr cl x := h.rng x (List.mem_cons_of_mem _ hx)
            unfold thr at *
            simpa using this
          · have hi' : i < cl.length := by simpa using hi
            simp only
            rw [get_set_ite _ hi']
            split
            · rename_i e
              have e2 : (i : Int) + 1 = r := by omega
              rw [e2]
              constructor
              · intro h9
                exact absurd (show (1 : Int) = 0 from h9) (by decide)
              · intro h9
                exact absurd h9 hnd.1
            · rename_i e
              rw [h.free i hi', List.mem_cons]
              constructor
              · rintro (e2 | hm)
                · omega
                · exact hm
              · exact fun hm => .inr hm
end Go.Proofs.Ytbijkflfphppgaa.Sr
