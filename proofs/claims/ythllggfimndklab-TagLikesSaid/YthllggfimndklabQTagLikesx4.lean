-- Written by print2.py (this session's driver of the kit's printer), hand-proved functions among the printed ones.
import Derived.Test.YthllggfimndklabQTagLikesx0
import Derived.Test.YthllggfimndklabQTagLikesx2
import Derived.Test.YthllggfimndklabQTagLikesx3
namespace Go.Proofs.Ythllggfimndklab.QTagLikes
open Go.RowKit Go.Proofs.YthllggfimndklabW.PrintWords Go.Proofs.YthllggfimndklabW.PrintLast Go.Proofs.YthllggfimndklabW.PrintMore
attribute [local go_sem] max2_int min2_int max_two min_two max_three min_three max_four min_four   -- for this text's walks alone
open Go.Proofs.YthllggfimndklabW.HWords
set_option linter.unusedVariables false
set_option linter.unusedSimpArgs false

/-! ### warrenerlaw15_TagLikes: function 6 (proved by hand) -/
theorem warrenerlaw15_TagLikes.seven {w W W' : World} {b0 b1 : Nat} {x0 x1 x2 y0 y1 y2 : Value} (h : W.cell? ⟨b0, 0, none⟩ = some x0 ∧ W.cell? ⟨b0, 1, none⟩ = some x1 ∧ W.cell? ⟨b0, 2, none⟩ = some x2 ∧ W.cell? ⟨b1, 0, none⟩ = some y0 ∧ W.cell? ⟨b1, 1, none⟩ = some y1 ∧ W.cell? ⟨b1, 2, none⟩ = some y2 ∧ Below w.heap.size w W)
    (hb : Below W.heap.size W W') : W'.cell? ⟨b0, 0, none⟩ = some x0 ∧ W'.cell? ⟨b0, 1, none⟩ = some x1 ∧ W'.cell? ⟨b0, 2, none⟩ = some x2 ∧ W'.cell? ⟨b1, 0, none⟩ = some y0 ∧ W'.cell? ⟨b1, 1, none⟩ = some y1 ∧ W'.cell? ⟨b1, 2, none⟩ = some y2 ∧ Below w.heap.size w W' :=
  ⟨pw_cell_below hb h.1, pw_cell_below hb h.2.1, pw_cell_below hb h.2.2.1, pw_cell_below hb h.2.2.2.1, pw_cell_below hb h.2.2.2.2.1, pw_cell_below hb h.2.2.2.2.2.1, below_step h.2.2.2.2.2.2 hb⟩
theorem warrenerlaw15_TagLikes.last {w W : World} {b0 b1 : Nat} {x0 x1 x2 y0 y1 y2 : Value} (h : W.cell? ⟨b0, 0, none⟩ = some x0 ∧ W.cell? ⟨b0, 1, none⟩ = some x1 ∧ W.cell? ⟨b0, 2, none⟩ = some x2 ∧ W.cell? ⟨b1, 0, none⟩ = some y0 ∧ W.cell? ⟨b1, 1, none⟩ = some y1 ∧ W.cell? ⟨b1, 2, none⟩ = some y2 ∧ Below w.heap.size w W) : Below w.heap.size w W := h.2.2.2.2.2.2
set_option maxHeartbeats 8000000 in
set_option maxRecDepth 100000 in
theorem warrenerlaw15_TagLikes.arm_ttt (a0 a1 a2 b0 b1 b2 : Int) (w : World) (e0 : (a0 == b0) = true) (e1 : (a1 == b1) = true) (e2 : (a2 == b2) = true) (hal : warrenerlaw15_alive.f = some true) :
    Calls Try.prog 6 #[.agg #[.int .i64 a0, .int .i64 a1, .int .i64 a2], .agg #[.int .i64 b0, .int .i64 b1, .int .i64 b2]] w fun e w' => e = .returned (.bool true) ∧ Below w.heap.size w w' := by
  have hu := Try.underlying34
  have HA := Aside0.mk hal
  have HE : Aside0 (tag_Equal.f a0 a1 a2 b0 b1 b2 = some true) := ⟨by simp [tag_Equal.f, e0]⟩
  have HL : Aside0 (tag_Alike.f a0 a1 a2 b0 b1 b2 = some true) := ⟨by simp [tag_Alike.f, e0, e1, e2]⟩
  have HI : Aside0 (tag_Is.f a0 a1 a2 = some (decide (0 < a1))) := ⟨by simp [tag_Is.f]⟩
  clear hal
  go_enter Try.func6, Try.ntmps6
  go_wp2_with (go_at_call 15; (with_reducible refine (warrenerlaw15_alive.calls true _ HA.out).mono ?_); rintro e w1 ⟨rfl, hb⟩)
  have HW : Below w.heap.size w w1 := below_step (below_alloc (below_alloc (Below.refl _ _) _) _) hb
  have q0 : w1.heap[w.heap.size]? = some (.cells #[.int .i64 a0, .int .i64 a1, .int .i64 a2] 34 (0, 0)) := (hb.block _ (by simp; omega)).trans (blk_alloc (blk_new _ _) _)
  have q1 : w1.heap[w.heap.size + 1]? = some (.cells #[.int .i64 b0, .int .i64 b1, .int .i64 b2] 34 (0, 0)) := (hb.block _ (by simp)).trans (by simpa using blk_new (w.alloc _) _)
  clear hb
  have c0 := blk_cell q0 0
  have c1 := blk_cell q0 1
  have c2 := blk_cell q0 2
  have d0 := blk_cell q1 0
  have d1 := blk_cell q1 1
  have d2 := blk_cell q1 2
  simp only [List.getElem?_toArray, List.getElem?_cons_zero, List.getElem?_cons_succ] at c0 c1 c2 d0 d1 d2
  have HWA := Aside0.mk HW
  clear HW q0 q1
  go_region_held3 (fun W => W.cell? ⟨w.heap.size, 0, none⟩ = some (.int .i64 a0) ∧ W.cell? ⟨w.heap.size, 1, none⟩ = some (.int .i64 a1) ∧ W.cell? ⟨w.heap.size, 2, none⟩ = some (.int .i64 a2) ∧ W.cell? ⟨w.heap.size + 1, 0, none⟩ = some (.int .i64 b0) ∧ W.cell? ⟨w.heap.size + 1, 1, none⟩ = some (.int .i64 b1) ∧ W.cell? ⟨w.heap.size + 1, 2, none⟩ = some (.int .i64 b2) ∧ Below w.heap.size w W) (first | exact ⟨c0, c1, c2, d0, d1, d2, below_drew HWA.out⟩ | exact warrenerlaw15_TagLikes.seven (by assumption) hbq | go_keep)
    (first | (go_at_call 19; refine (tag_Equal.calls a0 a1 a2 b0 b1 b2 true _ HE.out).mono ?_; rintro e w' ⟨rfl, hbq⟩) | (go_at_call 20; refine (tag_Alike.calls a0 a1 a2 b0 b1 b2 true _ HL.out).mono ?_; rintro e w' ⟨rfl, hbq⟩) | (go_at_call 17; refine (tag_Is.calls a0 a1 a2 (decide (0 < a1)) _ HI.out).mono ?_; rintro e w' ⟨rfl, hbq⟩))
  all_goals
    go_wp2
    go_ret
    exact ⟨by first | rfl | (simp; done), warrenerlaw15_TagLikes.last (by assumption)⟩
set_option maxHeartbeats 8000000 in
set_option maxRecDepth 100000 in
theorem warrenerlaw15_TagLikes.arm_ttf (a0 a1 a2 b0 b1 b2 : Int) (w : World) (e0 : (a0 == b0) = true) (e1 : (a1 == b1) = true) (e2 : (a2 == b2) = false) (hal : warrenerlaw15_alive.f = some true) :
    Calls Try.prog 6 #[.agg #[.int .i64 a0, .int .i64 a1, .int .i64 a2], .agg #[.int .i64 b0, .int .i64 b1, .int .i64 b2]] w fun e w' => e = .returned (.bool true) ∧ Below w.heap.size w w' := by
  have hu := Try.underlying34
  have HA := Aside0.mk hal
  have HE : Aside0 (tag_Equal.f a0 a1 a2 b0 b1 b2 = some true) := ⟨by simp [tag_Equal.f, e0]⟩
  have HL : Aside0 (tag_Alike.f a0 a1 a2 b0 b1 b2 = some false) := ⟨by simp [tag_Alike.f, e0, e1, e2]⟩
  have HI : Aside0 (tag_Is.f a0 a1 a2 = some (decide (0 < a1))) := ⟨by simp [tag_Is.f]⟩
  clear hal
  go_enter Try.func6, Try.ntmps6
  go_wp2_with (go_at_call 15; (with_reducible refine (warrenerlaw15_alive.calls true _ HA.out).mono ?_); rintro e w1 ⟨rfl, hb⟩)
  have HW : Below w.heap.size w w1 := below_step (below_alloc (below_alloc (Below.refl _ _) _) _) hb
  have q0 : w1.heap[w.heap.size]? = some (.cells #[.int .i64 a0, .int .i64 a1, .int .i64 a2] 34 (0, 0)) := (hb.block _ (by simp; omega)).trans (blk_alloc (blk_new _ _) _)
  have q1 : w1.heap[w.heap.size + 1]? = some (.cells #[.int .i64 b0, .int .i64 b1, .int .i64 b2] 34 (0, 0)) := (hb.block _ (by simp)).trans (by simpa using blk_new (w.alloc _) _)
  clear hb
  have c0 := blk_cell q0 0
  have c1 := blk_cell q0 1
  have c2 := blk_cell q0 2
  have d0 := blk_cell q1 0
  have d1 := blk_cell q1 1
  have d2 := blk_cell q1 2
  simp only [List.getElem?_toArray, List.getElem?_cons_zero, List.getElem?_cons_succ] at c0 c1 c2 d0 d1 d2
  have HWA := Aside0.mk HW
  clear HW q0 q1
  go_region_held3 (fun W => W.cell? ⟨w.heap.size, 0, none⟩ = some (.int .i64 a0) ∧ W.cell? ⟨w.heap.size, 1, none⟩ = some (.int .i64 a1) ∧ W.cell? ⟨w.heap.size, 2, none⟩ = some (.int .i64 a2) ∧ W.cell? ⟨w.heap.size + 1, 0, none⟩ = some (.int .i64 b0) ∧ W.cell? ⟨w.heap.size + 1, 1, none⟩ = some (.int .i64 b1) ∧ W.cell? ⟨w.heap.size + 1, 2, none⟩ = some (.int .i64 b2) ∧ Below w.heap.size w W) (first | exact ⟨c0, c1, c2, d0, d1, d2, below_drew HWA.out⟩ | exact warrenerlaw15_TagLikes.seven (by assumption) hbq | go_keep)
    (first | (go_at_call 19; refine (tag_Equal.calls a0 a1 a2 b0 b1 b2 true _ HE.out).mono ?_; rintro e w' ⟨rfl, hbq⟩) | (go_at_call 20; refine (tag_Alike.calls a0 a1 a2 b0 b1 b2 false _ HL.out).mono ?_; rintro e w' ⟨rfl, hbq⟩) | (go_at_call 17; refine (tag_Is.calls a0 a1 a2 (decide (0 < a1)) _ HI.out).mono ?_; rintro e w' ⟨rfl, hbq⟩))
  all_goals
    go_wp2
    go_ret
    exact ⟨by first | rfl | (simp; done), warrenerlaw15_TagLikes.last (by assumption)⟩
set_option maxHeartbeats 8000000 in
set_option maxRecDepth 100000 in
theorem warrenerlaw15_TagLikes.arm_tf (a0 a1 a2 b0 b1 b2 : Int) (w : World) (e0 : (a0 == b0) = true) (e1 : (a1 == b1) = false) (hal : warrenerlaw15_alive.f = some true) :
    Calls Try.prog 6 #[.agg #[.int .i64 a0, .int .i64 a1, .int .i64 a2], .agg #[.int .i64 b0, .int .i64 b1, .int .i64 b2]] w fun e w' => e = .returned (.bool true) ∧ Below w.heap.size w w' := by
  have hu := Try.underlying34
  have HA := Aside0.mk hal
  have HE : Aside0 (tag_Equal.f a0 a1 a2 b0 b1 b2 = some true) := ⟨by simp [tag_Equal.f, e0]⟩
  have HL : Aside0 (tag_Alike.f a0 a1 a2 b0 b1 b2 = some false) := ⟨by simp [tag_Alike.f, e0, e1]⟩
  have HI : Aside0 (tag_Is.f a0 a1 a2 = some (decide (0 < a1))) := ⟨by simp [tag_Is.f]⟩
  clear hal
  go_enter Try.func6, Try.ntmps6
  go_wp2_with (go_at_call 15; (with_reducible refine (warrenerlaw15_alive.calls true _ HA.out).mono ?_); rintro e w1 ⟨rfl, hb⟩)
  have HW : Below w.heap.size w w1 := below_step (below_alloc (below_alloc (Below.refl _ _) _) _) hb
  have q0 : w1.heap[w.heap.size]? = some (.cells #[.int .i64 a0, .int .i64 a1, .int .i64 a2] 34 (0, 0)) := (hb.block _ (by simp; omega)).trans (blk_alloc (blk_new _ _) _)
  have q1 : w1.heap[w.heap.size + 1]? = some (.cells #[.int .i64 b0, .int .i64 b1, .int .i64 b2] 34 (0, 0)) := (hb.block _ (by simp)).trans (by simpa using blk_new (w.alloc _) _)
  clear hb
  have c0 := blk_cell q0 0
  have c1 := blk_cell q0 1
  have c2 := blk_cell q0 2
  have d0 := blk_cell q1 0
  have d1 := blk_cell q1 1
  have d2 := blk_cell q1 2
  simp only [List.getElem?_toArray, List.getElem?_cons_zero, List.getElem?_cons_succ] at c0 c1 c2 d0 d1 d2
  have HWA := Aside0.mk HW
  clear HW q0 q1
  refine wp_region_held_drew (S := (fun W => W.cell? ⟨w.heap.size, 0, none⟩ = some (.int .i64 a0) ∧ W.cell? ⟨w.heap.size, 1, none⟩ = some (.int .i64 a1) ∧ W.cell? ⟨w.heap.size, 2, none⟩ = some (.int .i64 a2) ∧ W.cell? ⟨w.heap.size + 1, 0, none⟩ = some (.int .i64 b0) ∧ W.cell? ⟨w.heap.size + 1, 1, none⟩ = some (.int .i64 b1) ∧ W.cell? ⟨w.heap.size + 1, 2, none⟩ = some (.int .i64 b2) ∧ Below w.heap.size w W)) (by kernel_rfl) ⟨c0, c1, c2, d0, d1, d2, below_drew HWA.out⟩ (fun hHeld => ?_)
  (refine wpAnyH_take (i := 0) (v := ?hvv0) rfl (by kernel_rfl) (by kernel_rfl) (by kernel_rfl) (fun _ _ _ h => h) (Or.inl ⟨?hww0, ?hyy0⟩) (by assumption) ?hrr0; (case hyy0 => intro w hSw; (try dsimp only at hSw); go_simp; (try with_reducible rfl)); (case hww0 => rfl); (try simp only [List.getElem_toArray, List.getElem_cons_succ, List.getElem_cons_zero, Act.put, List.setIfInBounds_toArray, List.set_cons_zero, List.set_cons_succ]))
  (refine wpAnyH_take (i := 1) (v := ?hvv1) rfl (by kernel_rfl) (by kernel_rfl) (by kernel_rfl) (fun _ _ _ h => h) (Or.inl ⟨?hww1, ?hyy1⟩) (by assumption) ?hrr1; (case hyy1 => intro w hSw; (try dsimp only at hSw); go_simp; (try with_reducible rfl)); (case hww1 => rfl); (try simp only [List.getElem_toArray, List.getElem_cons_succ, List.getElem_cons_zero, Act.put, List.setIfInBounds_toArray, List.set_cons_zero, List.set_cons_succ]))
  (refine wpAnyH_take (i := 3) (v := ?hvv3) rfl (by kernel_rfl) (by kernel_rfl) (by kernel_rfl) (fun _ _ _ h => h) (Or.inl ⟨?hww3, ?hyy3⟩) (by assumption) ?hrr3; (case hyy3 => intro w hSw; (try dsimp only at hSw); go_simp; (try with_reducible rfl)); (case hww3 => rfl); (try simp only [List.getElem_toArray, List.getElem_cons_succ, List.getElem_cons_zero, Act.put, List.setIfInBounds_toArray, List.set_cons_zero, List.set_cons_succ]))
  (refine wpAnyH_take (i := 4) (v := ?hvv4) rfl (by kernel_rfl) (by kernel_rfl) (by kernel_rfl) (fun _ _ _ h => h) (Or.inl ⟨?hww4, ?hyy4⟩) (by assumption) ?hrr4; (case hyy4 => intro w hSw; (try dsimp only at hSw); go_simp; (try with_reducible rfl)); (case hww4 => rfl); (try simp only [List.getElem_toArray, List.getElem_cons_succ, List.getElem_cons_zero, Act.put, List.setIfInBounds_toArray, List.set_cons_zero, List.set_cons_succ]))
  (refine wpAnyH_take (i := 5) (v := ?hvv5) rfl (by kernel_rfl) (by kernel_rfl) (by kernel_rfl) (fun _ _ _ h => h) (Or.inl ⟨?hww5, ?hyy5⟩) (by assumption) ?hrr5; (case hyy5 => intro w hSw; (try dsimp only at hSw); go_simp; (try with_reducible rfl)); (case hww5 => rfl); (try simp only [List.getElem_toArray, List.getElem_cons_succ, List.getElem_cons_zero, Act.put, List.setIfInBounds_toArray, List.set_cons_zero, List.set_cons_succ]))
  (refine wpAnyH_take (i := 6) (v := ?hvv6) rfl (by kernel_rfl) (by kernel_rfl) (by kernel_rfl) (fun _ _ _ h => h) (Or.inl ⟨?hww6, ?hyy6⟩) (by assumption) ?hrr6; (case hyy6 => intro w hSw; (try dsimp only at hSw); go_simp; (try with_reducible rfl)); (case hww6 => rfl); (try simp only [List.getElem_toArray, List.getElem_cons_succ, List.getElem_cons_zero, Act.put, List.setIfInBounds_toArray, List.set_cons_zero, List.set_cons_succ]))
  (refine wpAnyH_take (i := 7) (v := ?hvv7) rfl (by kernel_rfl) (by kernel_rfl) (by kernel_rfl) (fun _ _ _ h => h) (Or.inl ⟨?hww7, ?hyy7⟩) (by assumption) ?hrr7; (case hyy7 => intro w hSw; (try dsimp only at hSw); go_simp; (try with_reducible rfl)); (case hww7 => rfl); (try simp only [List.getElem_toArray, List.getElem_cons_succ, List.getElem_cons_zero, Act.put, List.setIfInBounds_toArray, List.set_cons_zero, List.set_cons_succ]))
  refine wpAnyH_ready (rs := [2]) (by kernel_rfl) (by simp) ?_
  refine AllReadyH.cons rfl (fun K hK => ?_) AllReadyH.nil
  go_simp
  (go_at_call 19; refine (tag_Equal.calls a0 a1 a2 b0 b1 b2 true _ HE.out).mono ?_; rintro e w' ⟨rfl, hbq⟩)
  refine hK.out _ _ (warrenerlaw15_TagLikes.seven (by assumption) hbq) (fun hHeld2 => ?_)
  clear hK K hbq hHeld
  have hHeld := hHeld2
  clear hHeld2
  (try simp only [List.getElem_toArray, List.getElem_cons_succ, List.getElem_cons_zero, Act.put, List.setIfInBounds_toArray, List.set_cons_zero, List.set_cons_succ])
  (refine wpAnyH_take (i := 8) (v := ?hvv8) rfl (by kernel_rfl) (by kernel_rfl) (by kernel_rfl) (fun _ _ _ h => h) (Or.inl ⟨?hww8, ?hyy8⟩) (by assumption) ?hrr8; (case hyy8 => intro w hSw; (try dsimp only at hSw); go_simp; (try with_reducible rfl)); (case hww8 => rfl); (try simp only [List.getElem_toArray, List.getElem_cons_succ, List.getElem_cons_zero, Act.put, List.setIfInBounds_toArray, List.set_cons_zero, List.set_cons_succ]))
  (refine wpAnyH_take (i := 9) (v := ?hvv9) rfl (by kernel_rfl) (by kernel_rfl) (by kernel_rfl) (fun _ _ _ h => h) (Or.inl ⟨?hww9, ?hyy9⟩) (by assumption) ?hrr9; (case hyy9 => intro w hSw; (try dsimp only at hSw); go_simp; (try with_reducible rfl)); (case hww9 => rfl); (try simp only [List.getElem_toArray, List.getElem_cons_succ, List.getElem_cons_zero, Act.put, List.setIfInBounds_toArray, List.set_cons_zero, List.set_cons_succ]))
  (refine wpAnyH_take (i := 10) (v := ?hvv10) rfl (by kernel_rfl) (by kernel_rfl) (by kernel_rfl) (fun _ _ _ h => h) (Or.inl ⟨?hww10, ?hyy10⟩) (by assumption) ?hrr10; (case hyy10 => intro w hSw; (try dsimp only at hSw); go_simp; (try with_reducible rfl)); (case hww10 => rfl); (try simp only [List.getElem_toArray, List.getElem_cons_succ, List.getElem_cons_zero, Act.put, List.setIfInBounds_toArray, List.set_cons_zero, List.set_cons_succ]))
  (refine wpAnyH_take (i := 11) (v := ?hvv11) rfl (by kernel_rfl) (by kernel_rfl) (by kernel_rfl) (fun _ _ _ h => h) (Or.inl ⟨?hww11, ?hyy11⟩) (by assumption) ?hrr11; (case hyy11 => intro w hSw; (try dsimp only at hSw); go_simp; (try with_reducible rfl)); (case hww11 => rfl); (try simp only [List.getElem_toArray, List.getElem_cons_succ, List.getElem_cons_zero, Act.put, List.setIfInBounds_toArray, List.set_cons_zero, List.set_cons_succ]))
  (refine wpAnyH_take (i := 13) (v := ?hvv13) rfl (by kernel_rfl) (by kernel_rfl) (by kernel_rfl) (fun _ _ _ h => h) (Or.inl ⟨?hww13, ?hyy13⟩) (by assumption) ?hrr13; (case hyy13 => intro w hSw; (try dsimp only at hSw); go_simp; (try with_reducible rfl)); (case hww13 => rfl); (try simp only [List.getElem_toArray, List.getElem_cons_succ, List.getElem_cons_zero, Act.put, List.setIfInBounds_toArray, List.set_cons_zero, List.set_cons_succ]))
  (refine wpAnyH_take (i := 14) (v := ?hvv14) rfl (by kernel_rfl) (by kernel_rfl) (by kernel_rfl) (fun _ _ _ h => h) (Or.inl ⟨?hww14, ?hyy14⟩) (by assumption) ?hrr14; (case hyy14 => intro w hSw; (try dsimp only at hSw); go_simp; (try with_reducible rfl)); (case hww14 => rfl); (try simp only [List.getElem_toArray, List.getElem_cons_succ, List.getElem_cons_zero, Act.put, List.setIfInBounds_toArray, List.set_cons_zero, List.set_cons_succ]))
  (refine wpAnyH_take (i := 15) (v := ?hvv15) rfl (by kernel_rfl) (by kernel_rfl) (by kernel_rfl) (fun _ _ _ h => h) (Or.inl ⟨?hww15, ?hyy15⟩) (by assumption) ?hrr15; (case hyy15 => intro w hSw; (try dsimp only at hSw); go_simp; (try with_reducible rfl)); (case hww15 => rfl); (try simp only [List.getElem_toArray, List.getElem_cons_succ, List.getElem_cons_zero, Act.put, List.setIfInBounds_toArray, List.set_cons_zero, List.set_cons_succ]))
  (refine wpAnyH_take (i := 16) (v := ?hvv16) rfl (by kernel_rfl) (by kernel_rfl) (by kernel_rfl) (fun _ _ _ h => h) (Or.inl ⟨?hww16, ?hyy16⟩) (by assumption) ?hrr16; (case hyy16 => intro w hSw; (try dsimp only at hSw); go_simp; (try with_reducible rfl)); (case hww16 => rfl); (try simp only [List.getElem_toArray, List.getElem_cons_succ, List.getElem_cons_zero, Act.put, List.setIfInBounds_toArray, List.set_cons_zero, List.set_cons_succ]))
  (refine wpAnyH_take (i := 17) (v := ?hvv17) rfl (by kernel_rfl) (by kernel_rfl) (by kernel_rfl) (fun _ _ _ h => h) (Or.inl ⟨?hww17, ?hyy17⟩) (by assumption) ?hrr17; (case hyy17 => intro w hSw; (try dsimp only at hSw); go_simp; (try with_reducible rfl)); (case hww17 => rfl); (try simp only [List.getElem_toArray, List.getElem_cons_succ, List.getElem_cons_zero, Act.put, List.setIfInBounds_toArray, List.set_cons_zero, List.set_cons_succ]))
  refine wpAnyH_ready (rs := [12]) (by kernel_rfl) (by simp) ?_
  refine AllReadyH.cons rfl (fun K hK => ?_) AllReadyH.nil
  go_simp
  (go_at_call 20; refine (tag_Alike.calls a0 a1 a2 b0 b1 b2 false _ HL.out).mono ?_; rintro e w' ⟨rfl, hbq⟩)
  refine hK.out _ _ (warrenerlaw15_TagLikes.seven (by assumption) hbq) (fun hHeld2 => ?_)
  clear hK K hbq hHeld
  have hHeld := hHeld2
  clear hHeld2
  (try simp only [List.getElem_toArray, List.getElem_cons_succ, List.getElem_cons_zero, Act.put, List.setIfInBounds_toArray, List.set_cons_zero, List.set_cons_succ])
  (refine wpAnyH_take (i := 18) (v := ?hvv18) rfl (by kernel_rfl) (by kernel_rfl) (by kernel_rfl) (fun _ _ _ h => h) (Or.inl ⟨?hww18, ?hyy18⟩) (by assumption) ?hrr18; (case hyy18 => intro w hSw; (try dsimp only at hSw); go_simp; (try with_reducible rfl)); (case hww18 => rfl); (try simp only [List.getElem_toArray, List.getElem_cons_succ, List.getElem_cons_zero, Act.put, List.setIfInBounds_toArray, List.set_cons_zero, List.set_cons_succ]))
  (refine wpAnyH_take (i := 19) (v := ?hvv19) rfl (by kernel_rfl) (by kernel_rfl) (by kernel_rfl) (fun _ _ _ h => h) (Or.inl ⟨?hww19, ?hyy19⟩) (by assumption) ?hrr19; (case hyy19 => intro w hSw; (try dsimp only at hSw); go_simp; (try with_reducible rfl)); (case hww19 => rfl); (try simp only [List.getElem_toArray, List.getElem_cons_succ, List.getElem_cons_zero, Act.put, List.setIfInBounds_toArray, List.set_cons_zero, List.set_cons_succ]))
  (refine wpAnyH_take (i := 20) (v := ?hvv20) rfl (by kernel_rfl) (by kernel_rfl) (by kernel_rfl) (fun _ _ _ h => h) (Or.inl ⟨?hww20, ?hyy20⟩) (by assumption) ?hrr20; (case hyy20 => intro w hSw; (try dsimp only at hSw); go_simp; (try with_reducible rfl)); (case hww20 => rfl); (try simp only [List.getElem_toArray, List.getElem_cons_succ, List.getElem_cons_zero, Act.put, List.setIfInBounds_toArray, List.set_cons_zero, List.set_cons_succ]))
  (refine wpAnyH_take (i := 21) (v := ?hvv21) rfl (by kernel_rfl) (by kernel_rfl) (by kernel_rfl) (fun _ _ _ h => h) (Or.inl ⟨?hww21, ?hyy21⟩) (by assumption) ?hrr21; (case hyy21 => intro w hSw; (try dsimp only at hSw); go_simp; (try with_reducible rfl)); (case hww21 => rfl); (try simp only [List.getElem_toArray, List.getElem_cons_succ, List.getElem_cons_zero, Act.put, List.setIfInBounds_toArray, List.set_cons_zero, List.set_cons_succ]))
  (refine wpAnyH_take (i := 22) (v := ?hvv22) rfl (by kernel_rfl) (by kernel_rfl) (by kernel_rfl) (fun _ _ _ h => h) (Or.inl ⟨?hww22, ?hyy22⟩) (by assumption) ?hrr22; (case hyy22 => intro w hSw; (try dsimp only at hSw); go_simp; (try with_reducible rfl)); (case hww22 => rfl); (try simp only [List.getElem_toArray, List.getElem_cons_succ, List.getElem_cons_zero, Act.put, List.setIfInBounds_toArray, List.set_cons_zero, List.set_cons_succ]))
  (refine wpAnyH_take (i := 23) (v := ?hvv23) rfl (by kernel_rfl) (by kernel_rfl) (by kernel_rfl) (fun _ _ _ h => h) (Or.inl ⟨?hww23, ?hyy23⟩) (by assumption) ?hrr23; (case hyy23 => intro w hSw; (try dsimp only at hSw); go_simp; (try with_reducible rfl)); (case hww23 => rfl); (try simp only [List.getElem_toArray, List.getElem_cons_succ, List.getElem_cons_zero, Act.put, List.setIfInBounds_toArray, List.set_cons_zero, List.set_cons_succ]))
  (refine wpAnyH_take (i := 24) (v := ?hvv24) rfl (by kernel_rfl) (by kernel_rfl) (by kernel_rfl) (fun _ _ _ h => h) (Or.inl ⟨?hww24, ?hyy24⟩) (by assumption) ?hrr24; (case hyy24 => intro w hSw; (try dsimp only at hSw); go_simp; (try with_reducible rfl)); (case hww24 => rfl); (try simp only [List.getElem_toArray, List.getElem_cons_succ, List.getElem_cons_zero, Act.put, List.setIfInBounds_toArray, List.set_cons_zero, List.set_cons_succ]))
  (refine wpAnyH_take (i := 25) (v := ?hvv25) rfl (by kernel_rfl) (by kernel_rfl) (by kernel_rfl) (fun _ _ _ h => h) (Or.inl ⟨?hww25, ?hyy25⟩) (by assumption) ?hrr25; (case hyy25 => intro w hSw; (try dsimp only at hSw); go_simp; (try with_reducible rfl)); (case hww25 => rfl); (try simp only [List.getElem_toArray, List.getElem_cons_succ, List.getElem_cons_zero, Act.put, List.setIfInBounds_toArray, List.set_cons_zero, List.set_cons_succ]))
  (refine wpAnyH_take (i := 26) (v := undef) rfl (by kernel_rfl) (by kernel_rfl) (by kernel_rfl) (fun _ _ _ h => h) (Or.inr ⟨?hww26, rfl⟩) (by assumption) ?hrr26; (case hww26 => rfl); (try simp only [List.getElem_toArray, List.getElem_cons_succ, List.getElem_cons_zero, Act.put, List.setIfInBounds_toArray, List.set_cons_zero, List.set_cons_succ]))
  (refine wpAnyH_take (i := 27) (v := undef) rfl (by kernel_rfl) (by kernel_rfl) (by kernel_rfl) (fun _ _ _ h => h) (Or.inr ⟨?hww27, rfl⟩) (by assumption) ?hrr27; (case hww27 => rfl); (try simp only [List.getElem_toArray, List.getElem_cons_succ, List.getElem_cons_zero, Act.put, List.setIfInBounds_toArray, List.set_cons_zero, List.set_cons_succ]))
  (refine wpAnyH_take (i := 28) (v := undef) rfl (by kernel_rfl) (by kernel_rfl) (by kernel_rfl) (fun _ _ _ h => h) (Or.inr ⟨?hww28, rfl⟩) (by assumption) ?hrr28; (case hww28 => rfl); (try simp only [List.getElem_toArray, List.getElem_cons_succ, List.getElem_cons_zero, Act.put, List.setIfInBounds_toArray, List.set_cons_zero, List.set_cons_succ]))
  (refine wpAnyH_take (i := 29) (v := undef) rfl (by kernel_rfl) (by kernel_rfl) (by kernel_rfl) (fun _ _ _ h => h) (Or.inr ⟨?hww29, rfl⟩) (by assumption) ?hrr29; (case hww29 => rfl); (try simp only [List.getElem_toArray, List.getElem_cons_succ, List.getElem_cons_zero, Act.put, List.setIfInBounds_toArray, List.set_cons_zero, List.set_cons_succ]))
  (refine wpAnyH_take (i := 30) (v := undef) rfl (by kernel_rfl) (by kernel_rfl) (by kernel_rfl) (fun _ _ _ h => h) (Or.inr ⟨?hww30, rfl⟩) (by assumption) ?hrr30; (case hww30 => rfl); (try simp only [List.getElem_toArray, List.getElem_cons_succ, List.getElem_cons_zero, Act.put, List.setIfInBounds_toArray, List.set_cons_zero, List.set_cons_succ]))
  (refine wpAnyH_take (i := 31) (v := ?hvv31) rfl (by kernel_rfl) (by kernel_rfl) (by kernel_rfl) (fun _ _ _ h => h) (Or.inl ⟨?hww31, ?hyy31⟩) (by assumption) ?hrr31; (case hyy31 => intro w hSw; (try dsimp only at hSw); go_simp; (try with_reducible rfl)); (case hww31 => rfl); (try simp only [List.getElem_toArray, List.getElem_cons_succ, List.getElem_cons_zero, Act.put, List.setIfInBounds_toArray, List.set_cons_zero, List.set_cons_succ]))
  (refine wpAnyH_take (i := 32) (v := ?hvv32) rfl (by kernel_rfl) (by kernel_rfl) (by kernel_rfl) (fun _ _ _ h => h) (Or.inl ⟨?hww32, ?hyy32⟩) (by assumption) ?hrr32; (case hyy32 => intro w hSw; (try dsimp only at hSw); go_simp; (try with_reducible rfl)); (case hww32 => rfl); (try simp only [List.getElem_toArray, List.getElem_cons_succ, List.getElem_cons_zero, Act.put, List.setIfInBounds_toArray, List.set_cons_zero, List.set_cons_succ]))
  (refine wpAnyH_take (i := 33) (v := ?hvv33) rfl (by kernel_rfl) (by kernel_rfl) (by kernel_rfl) (fun _ _ _ h => h) (Or.inl ⟨?hww33, ?hyy33⟩) (by assumption) ?hrr33; (case hyy33 => intro w hSw; (try dsimp only at hSw); go_simp; (try with_reducible rfl)); (case hww33 => rfl); (try simp only [List.getElem_toArray, List.getElem_cons_succ, List.getElem_cons_zero, Act.put, List.setIfInBounds_toArray, List.set_cons_zero, List.set_cons_succ]))
  (refine wpAnyH_take (i := 34) (v := ?hvv34) rfl (by kernel_rfl) (by kernel_rfl) (by kernel_rfl) (fun _ _ _ h => h) (Or.inl ⟨?hww34, ?hyy34⟩) (by assumption) ?hrr34; (case hyy34 => intro w hSw; (try dsimp only at hSw); go_simp; (try with_reducible rfl)); (case hww34 => rfl); (try simp only [List.getElem_toArray, List.getElem_cons_succ, List.getElem_cons_zero, Act.put, List.setIfInBounds_toArray, List.set_cons_zero, List.set_cons_succ]))
  (refine wpAnyH_take (i := 35) (v := ?hvv35) rfl (by kernel_rfl) (by kernel_rfl) (by kernel_rfl) (fun _ _ _ h => h) (Or.inl ⟨?hww35, ?hyy35⟩) (by assumption) ?hrr35; (case hyy35 => intro w hSw; (try dsimp only at hSw); go_simp; (try with_reducible rfl)); (case hww35 => rfl); (try simp only [List.getElem_toArray, List.getElem_cons_succ, List.getElem_cons_zero, Act.put, List.setIfInBounds_toArray, List.set_cons_zero, List.set_cons_succ]))
  (refine wpAnyH_take (i := 37) (v := ?hvv37) rfl (by kernel_rfl) (by kernel_rfl) (by kernel_rfl) (fun _ _ _ h => h) (Or.inl ⟨?hww37, ?hyy37⟩) (by assumption) ?hrr37; (case hyy37 => intro w hSw; (try dsimp only at hSw); go_simp; (try with_reducible rfl)); (case hww37 => rfl); (try simp only [List.getElem_toArray, List.getElem_cons_succ, List.getElem_cons_zero, Act.put, List.setIfInBounds_toArray, List.set_cons_zero, List.set_cons_succ]))
  (refine wpAnyH_take (i := 38) (v := ?hvv38) rfl (by kernel_rfl) (by kernel_rfl) (by kernel_rfl) (fun _ _ _ h => h) (Or.inl ⟨?hww38, ?hyy38⟩) (by assumption) ?hrr38; (case hyy38 => intro w hSw; (try dsimp only at hSw); go_simp; (try with_reducible rfl)); (case hww38 => rfl); (try simp only [List.getElem_toArray, List.getElem_cons_succ, List.getElem_cons_zero, Act.put, List.setIfInBounds_toArray, List.set_cons_zero, List.set_cons_succ]))
  (refine wpAnyH_take (i := 39) (v := ?hvv39) rfl (by kernel_rfl) (by kernel_rfl) (by kernel_rfl) (fun _ _ _ h => h) (Or.inl ⟨?hww39, ?hyy39⟩) (by assumption) ?hrr39; (case hyy39 => intro w hSw; (try dsimp only at hSw); go_simp; (try with_reducible rfl)); (case hww39 => rfl); (try simp only [List.getElem_toArray, List.getElem_cons_succ, List.getElem_cons_zero, Act.put, List.setIfInBounds_toArray, List.set_cons_zero, List.set_cons_succ]))
  refine wpAnyH_ready (rs := [36]) (by kernel_rfl) (by simp) ?_
  refine AllReadyH.cons rfl (fun K hK => ?_) AllReadyH.nil
  go_simp
  (go_at_call 17; refine (tag_Is.calls a0 a1 a2 (decide (0 < a1)) _ HI.out).mono ?_; rintro e w' ⟨rfl, hbq⟩)
  refine hK.out _ _ (warrenerlaw15_TagLikes.seven (by assumption) hbq) (fun hHeld2 => ?_)
  clear hK K hbq hHeld
  have hHeld := hHeld2
  clear hHeld2
  (try simp only [List.getElem_toArray, List.getElem_cons_succ, List.getElem_cons_zero, Act.put, List.setIfInBounds_toArray, List.set_cons_zero, List.set_cons_succ])
  (refine wpAnyH_take (i := 40) (v := ?hvv40) rfl (by kernel_rfl) (by kernel_rfl) (by kernel_rfl) (fun _ _ _ h => h) (Or.inl ⟨?hww40, ?hyy40⟩) (by assumption) ?hrr40; (case hyy40 => intro w hSw; (try dsimp only at hSw); go_simp; (try with_reducible rfl)); (case hww40 => rfl); (try simp only [List.getElem_toArray, List.getElem_cons_succ, List.getElem_cons_zero, Act.put, List.setIfInBounds_toArray, List.set_cons_zero, List.set_cons_succ]))
  (refine wpAnyH_take (i := 41) (v := ?hvv41) rfl (by kernel_rfl) (by kernel_rfl) (by kernel_rfl) (fun _ _ _ h => h) (Or.inl ⟨?hww41, ?hyy41⟩) (by assumption) ?hrr41; (case hyy41 => intro w hSw; (try dsimp only at hSw); go_simp; (try with_reducible rfl)); (case hww41 => rfl); (try simp only [List.getElem_toArray, List.getElem_cons_succ, List.getElem_cons_zero, Act.put, List.setIfInBounds_toArray, List.set_cons_zero, List.set_cons_succ]))
  (refine wpAnyH_take (i := 42) (v := ?hvv42) rfl (by kernel_rfl) (by kernel_rfl) (by kernel_rfl) (fun _ _ _ h => h) (Or.inl ⟨?hww42, ?hyy42⟩) (by assumption) ?hrr42; (case hyy42 => intro w hSw; (try dsimp only at hSw); go_simp; (try with_reducible rfl)); (case hww42 => rfl); (try simp only [List.getElem_toArray, List.getElem_cons_succ, List.getElem_cons_zero, Act.put, List.setIfInBounds_toArray, List.set_cons_zero, List.set_cons_succ]))
  refine wpAnyH_done (by kernel_rfl) ?_ _
  go_wp2
  go_ret
  exact ⟨by first | rfl | (simp; done), warrenerlaw15_TagLikes.last (by assumption)⟩
set_option maxHeartbeats 8000000 in
set_option maxRecDepth 100000 in
theorem warrenerlaw15_TagLikes.arm_f (a0 a1 a2 b0 b1 b2 : Int) (w : World) (e0 : (a0 == b0) = false) (hal : warrenerlaw15_alive.f = some true) :
    Calls Try.prog 6 #[.agg #[.int .i64 a0, .int .i64 a1, .int .i64 a2], .agg #[.int .i64 b0, .int .i64 b1, .int .i64 b2]] w fun e w' => e = .returned (.bool true) ∧ Below w.heap.size w w' := by
  have hu := Try.underlying34
  have HA := Aside0.mk hal
  have HE : Aside0 (tag_Equal.f a0 a1 a2 b0 b1 b2 = some false) := ⟨by simp [tag_Equal.f, e0]⟩
  have HL : Aside0 (tag_Alike.f a0 a1 a2 b0 b1 b2 = some false) := ⟨by simp [tag_Alike.f, e0]⟩
  have HI : Aside0 (tag_Is.f a0 a1 a2 = some (decide (0 < a1))) := ⟨by simp [tag_Is.f]⟩
  clear hal
  go_enter Try.func6, Try.ntmps6
  go_wp2_with (go_at_call 15; (with_reducible refine (warrenerlaw15_alive.calls true _ HA.out).mono ?_); rintro e w1 ⟨rfl, hb⟩)
  have HW : Below w.heap.size w w1 := below_step (below_alloc (below_alloc (Below.refl _ _) _) _) hb
  have q0 : w1.heap[w.heap.size]? = some (.cells #[.int .i64 a0, .int .i64 a1, .int .i64 a2] 34 (0, 0)) := (hb.block _ (by simp; omega)).trans (blk_alloc (blk_new _ _) _)
  have q1 : w1.heap[w.heap.size + 1]? = some (.cells #[.int .i64 b0, .int .i64 b1, .int .i64 b2] 34 (0, 0)) := (hb.block _ (by simp)).trans (by simpa using blk_new (w.alloc _) _)
  clear hb
  have c0 := blk_cell q0 0
  have c1 := blk_cell q0 1
  have c2 := blk_cell q0 2
  have d0 := blk_cell q1 0
  have d1 := blk_cell q1 1
  have d2 := blk_cell q1 2
  simp only [List.getElem?_toArray, List.getElem?_cons_zero, List.getElem?_cons_succ] at c0 c1 c2 d0 d1 d2
  have HWA := Aside0.mk HW
  clear HW q0 q1
  refine wp_region_held_drew (S := (fun W => W.cell? ⟨w.heap.size, 0, none⟩ = some (.int .i64 a0) ∧ W.cell? ⟨w.heap.size, 1, none⟩ = some (.int .i64 a1) ∧ W.cell? ⟨w.heap.size, 2, none⟩ = some (.int .i64 a2) ∧ W.cell? ⟨w.heap.size + 1, 0, none⟩ = some (.int .i64 b0) ∧ W.cell? ⟨w.heap.size + 1, 1, none⟩ = some (.int .i64 b1) ∧ W.cell? ⟨w.heap.size + 1, 2, none⟩ = some (.int .i64 b2) ∧ Below w.heap.size w W)) (by kernel_rfl) ⟨c0, c1, c2, d0, d1, d2, below_drew HWA.out⟩ (fun hHeld => ?_)
  (refine wpAnyH_take (i := 0) (v := ?hvv0) rfl (by kernel_rfl) (by kernel_rfl) (by kernel_rfl) (fun _ _ _ h => h) (Or.inl ⟨?hww0, ?hyy0⟩) (by assumption) ?hrr0; (case hyy0 => intro w hSw; (try dsimp only at hSw); go_simp; (try with_reducible rfl)); (case hww0 => rfl); (try simp only [List.getElem_toArray, List.getElem_cons_succ, List.getElem_cons_zero, Act.put, List.setIfInBounds_toArray, List.set_cons_zero, List.set_cons_succ]))
  (refine wpAnyH_take (i := 1) (v := ?hvv1) rfl (by kernel_rfl) (by kernel_rfl) (by kernel_rfl) (fun _ _ _ h => h) (Or.inl ⟨?hww1, ?hyy1⟩) (by assumption) ?hrr1; (case hyy1 => intro w hSw; (try dsimp only at hSw); go_simp; (try with_reducible rfl)); (case hww1 => rfl); (try simp only [List.getElem_toArray, List.getElem_cons_succ, List.getElem_cons_zero, Act.put, List.setIfInBounds_toArray, List.set_cons_zero, List.set_cons_succ]))
  (refine wpAnyH_take (i := 3) (v := ?hvv3) rfl (by kernel_rfl) (by kernel_rfl) (by kernel_rfl) (fun _ _ _ h => h) (Or.inl ⟨?hww3, ?hyy3⟩) (by assumption) ?hrr3; (case hyy3 => intro w hSw; (try dsimp only at hSw); go_simp; (try with_reducible rfl)); (case hww3 => rfl); (try simp only [List.getElem_toArray, List.getElem_cons_succ, List.getElem_cons_zero, Act.put, List.setIfInBounds_toArray, List.set_cons_zero, List.set_cons_succ]))
  (refine wpAnyH_take (i := 4) (v := ?hvv4) rfl (by kernel_rfl) (by kernel_rfl) (by kernel_rfl) (fun _ _ _ h => h) (Or.inl ⟨?hww4, ?hyy4⟩) (by assumption) ?hrr4; (case hyy4 => intro w hSw; (try dsimp only at hSw); go_simp; (try with_reducible rfl)); (case hww4 => rfl); (try simp only [List.getElem_toArray, List.getElem_cons_succ, List.getElem_cons_zero, Act.put, List.setIfInBounds_toArray, List.set_cons_zero, List.set_cons_succ]))
  (refine wpAnyH_take (i := 5) (v := ?hvv5) rfl (by kernel_rfl) (by kernel_rfl) (by kernel_rfl) (fun _ _ _ h => h) (Or.inl ⟨?hww5, ?hyy5⟩) (by assumption) ?hrr5; (case hyy5 => intro w hSw; (try dsimp only at hSw); go_simp; (try with_reducible rfl)); (case hww5 => rfl); (try simp only [List.getElem_toArray, List.getElem_cons_succ, List.getElem_cons_zero, Act.put, List.setIfInBounds_toArray, List.set_cons_zero, List.set_cons_succ]))
  (refine wpAnyH_take (i := 6) (v := ?hvv6) rfl (by kernel_rfl) (by kernel_rfl) (by kernel_rfl) (fun _ _ _ h => h) (Or.inl ⟨?hww6, ?hyy6⟩) (by assumption) ?hrr6; (case hyy6 => intro w hSw; (try dsimp only at hSw); go_simp; (try with_reducible rfl)); (case hww6 => rfl); (try simp only [List.getElem_toArray, List.getElem_cons_succ, List.getElem_cons_zero, Act.put, List.setIfInBounds_toArray, List.set_cons_zero, List.set_cons_succ]))
  (refine wpAnyH_take (i := 7) (v := ?hvv7) rfl (by kernel_rfl) (by kernel_rfl) (by kernel_rfl) (fun _ _ _ h => h) (Or.inl ⟨?hww7, ?hyy7⟩) (by assumption) ?hrr7; (case hyy7 => intro w hSw; (try dsimp only at hSw); go_simp; (try with_reducible rfl)); (case hww7 => rfl); (try simp only [List.getElem_toArray, List.getElem_cons_succ, List.getElem_cons_zero, Act.put, List.setIfInBounds_toArray, List.set_cons_zero, List.set_cons_succ]))
  refine wpAnyH_ready (rs := [2]) (by kernel_rfl) (by simp) ?_
  refine AllReadyH.cons rfl (fun K hK => ?_) AllReadyH.nil
  go_simp
  (go_at_call 19; refine (tag_Equal.calls a0 a1 a2 b0 b1 b2 false _ HE.out).mono ?_; rintro e w' ⟨rfl, hbq⟩)
  refine hK.out _ _ (warrenerlaw15_TagLikes.seven (by assumption) hbq) (fun hHeld2 => ?_)
  clear hK K hbq hHeld
  have hHeld := hHeld2
  clear hHeld2
  (try simp only [List.getElem_toArray, List.getElem_cons_succ, List.getElem_cons_zero, Act.put, List.setIfInBounds_toArray, List.set_cons_zero, List.set_cons_succ])
  (refine wpAnyH_take (i := 8) (v := ?hvv8) rfl (by kernel_rfl) (by kernel_rfl) (by kernel_rfl) (fun _ _ _ h => h) (Or.inl ⟨?hww8, ?hyy8⟩) (by assumption) ?hrr8; (case hyy8 => intro w hSw; (try dsimp only at hSw); go_simp; (try with_reducible rfl)); (case hww8 => rfl); (try simp only [List.getElem_toArray, List.getElem_cons_succ, List.getElem_cons_zero, Act.put, List.setIfInBounds_toArray, List.set_cons_zero, List.set_cons_succ]))
  (refine wpAnyH_take (i := 9) (v := ?hvv9) rfl (by kernel_rfl) (by kernel_rfl) (by kernel_rfl) (fun _ _ _ h => h) (Or.inl ⟨?hww9, ?hyy9⟩) (by assumption) ?hrr9; (case hyy9 => intro w hSw; (try dsimp only at hSw); go_simp; (try with_reducible rfl)); (case hww9 => rfl); (try simp only [List.getElem_toArray, List.getElem_cons_succ, List.getElem_cons_zero, Act.put, List.setIfInBounds_toArray, List.set_cons_zero, List.set_cons_succ]))
  (refine wpAnyH_take (i := 10) (v := ?hvv10) rfl (by kernel_rfl) (by kernel_rfl) (by kernel_rfl) (fun _ _ _ h => h) (Or.inl ⟨?hww10, ?hyy10⟩) (by assumption) ?hrr10; (case hyy10 => intro w hSw; (try dsimp only at hSw); go_simp; (try with_reducible rfl)); (case hww10 => rfl); (try simp only [List.getElem_toArray, List.getElem_cons_succ, List.getElem_cons_zero, Act.put, List.setIfInBounds_toArray, List.set_cons_zero, List.set_cons_succ]))
  (refine wpAnyH_take (i := 11) (v := ?hvv11) rfl (by kernel_rfl) (by kernel_rfl) (by kernel_rfl) (fun _ _ _ h => h) (Or.inl ⟨?hww11, ?hyy11⟩) (by assumption) ?hrr11; (case hyy11 => intro w hSw; (try dsimp only at hSw); go_simp; (try with_reducible rfl)); (case hww11 => rfl); (try simp only [List.getElem_toArray, List.getElem_cons_succ, List.getElem_cons_zero, Act.put, List.setIfInBounds_toArray, List.set_cons_zero, List.set_cons_succ]))
  (refine wpAnyH_take (i := 13) (v := ?hvv13) rfl (by kernel_rfl) (by kernel_rfl) (by kernel_rfl) (fun _ _ _ h => h) (Or.inl ⟨?hww13, ?hyy13⟩) (by assumption) ?hrr13; (case hyy13 => intro w hSw; (try dsimp only at hSw); go_simp; (try with_reducible rfl)); (case hww13 => rfl); (try simp only [List.getElem_toArray, List.getElem_cons_succ, List.getElem_cons_zero, Act.put, List.setIfInBounds_toArray, List.set_cons_zero, List.set_cons_succ]))
  (refine wpAnyH_take (i := 14) (v := ?hvv14) rfl (by kernel_rfl) (by kernel_rfl) (by kernel_rfl) (fun _ _ _ h => h) (Or.inl ⟨?hww14, ?hyy14⟩) (by assumption) ?hrr14; (case hyy14 => intro w hSw; (try dsimp only at hSw); go_simp; (try with_reducible rfl)); (case hww14 => rfl); (try simp only [List.getElem_toArray, List.getElem_cons_succ, List.getElem_cons_zero, Act.put, List.setIfInBounds_toArray, List.set_cons_zero, List.set_cons_succ]))
  (refine wpAnyH_take (i := 15) (v := ?hvv15) rfl (by kernel_rfl) (by kernel_rfl) (by kernel_rfl) (fun _ _ _ h => h) (Or.inl ⟨?hww15, ?hyy15⟩) (by assumption) ?hrr15; (case hyy15 => intro w hSw; (try dsimp only at hSw); go_simp; (try with_reducible rfl)); (case hww15 => rfl); (try simp only [List.getElem_toArray, List.getElem_cons_succ, List.getElem_cons_zero, Act.put, List.setIfInBounds_toArray, List.set_cons_zero, List.set_cons_succ]))
  (refine wpAnyH_take (i := 16) (v := ?hvv16) rfl (by kernel_rfl) (by kernel_rfl) (by kernel_rfl) (fun _ _ _ h => h) (Or.inl ⟨?hww16, ?hyy16⟩) (by assumption) ?hrr16; (case hyy16 => intro w hSw; (try dsimp only at hSw); go_simp; (try with_reducible rfl)); (case hww16 => rfl); (try simp only [List.getElem_toArray, List.getElem_cons_succ, List.getElem_cons_zero, Act.put, List.setIfInBounds_toArray, List.set_cons_zero, List.set_cons_succ]))
  (refine wpAnyH_take (i := 17) (v := ?hvv17) rfl (by kernel_rfl) (by kernel_rfl) (by kernel_rfl) (fun _ _ _ h => h) (Or.inl ⟨?hww17, ?hyy17⟩) (by assumption) ?hrr17; (case hyy17 => intro w hSw; (try dsimp only at hSw); go_simp; (try with_reducible rfl)); (case hww17 => rfl); (try simp only [List.getElem_toArray, List.getElem_cons_succ, List.getElem_cons_zero, Act.put, List.setIfInBounds_toArray, List.set_cons_zero, List.set_cons_succ]))
  refine wpAnyH_ready (rs := [12]) (by kernel_rfl) (by simp) ?_
  refine AllReadyH.cons rfl (fun K hK => ?_) AllReadyH.nil
  go_simp
  (go_at_call 20; refine (tag_Alike.calls a0 a1 a2 b0 b1 b2 false _ HL.out).mono ?_; rintro e w' ⟨rfl, hbq⟩)
  refine hK.out _ _ (warrenerlaw15_TagLikes.seven (by assumption) hbq) (fun hHeld2 => ?_)
  clear hK K hbq hHeld
  have hHeld := hHeld2
  clear hHeld2
  (try simp only [List.getElem_toArray, List.getElem_cons_succ, List.getElem_cons_zero, Act.put, List.setIfInBounds_toArray, List.set_cons_zero, List.set_cons_succ])
  (refine wpAnyH_take (i := 18) (v := ?hvv18) rfl (by kernel_rfl) (by kernel_rfl) (by kernel_rfl) (fun _ _ _ h => h) (Or.inl ⟨?hww18, ?hyy18⟩) (by assumption) ?hrr18; (case hyy18 => intro w hSw; (try dsimp only at hSw); go_simp; (try with_reducible rfl)); (case hww18 => rfl); (try simp only [List.getElem_toArray, List.getElem_cons_succ, List.getElem_cons_zero, Act.put, List.setIfInBounds_toArray, List.set_cons_zero, List.set_cons_succ]))
  (refine wpAnyH_take (i := 19) (v := undef) rfl (by kernel_rfl) (by kernel_rfl) (by kernel_rfl) (fun _ _ _ h => h) (Or.inr ⟨?hww19, rfl⟩) (by assumption) ?hrr19; (case hww19 => rfl); (try simp only [List.getElem_toArray, List.getElem_cons_succ, List.getElem_cons_zero, Act.put, List.setIfInBounds_toArray, List.set_cons_zero, List.set_cons_succ]))
  (refine wpAnyH_take (i := 20) (v := undef) rfl (by kernel_rfl) (by kernel_rfl) (by kernel_rfl) (fun _ _ _ h => h) (Or.inr ⟨?hww20, rfl⟩) (by assumption) ?hrr20; (case hww20 => rfl); (try simp only [List.getElem_toArray, List.getElem_cons_succ, List.getElem_cons_zero, Act.put, List.setIfInBounds_toArray, List.set_cons_zero, List.set_cons_succ]))
  (refine wpAnyH_take (i := 21) (v := undef) rfl (by kernel_rfl) (by kernel_rfl) (by kernel_rfl) (fun _ _ _ h => h) (Or.inr ⟨?hww21, rfl⟩) (by assumption) ?hrr21; (case hww21 => rfl); (try simp only [List.getElem_toArray, List.getElem_cons_succ, List.getElem_cons_zero, Act.put, List.setIfInBounds_toArray, List.set_cons_zero, List.set_cons_succ]))
  (refine wpAnyH_take (i := 22) (v := undef) rfl (by kernel_rfl) (by kernel_rfl) (by kernel_rfl) (fun _ _ _ h => h) (Or.inr ⟨?hww22, rfl⟩) (by assumption) ?hrr22; (case hww22 => rfl); (try simp only [List.getElem_toArray, List.getElem_cons_succ, List.getElem_cons_zero, Act.put, List.setIfInBounds_toArray, List.set_cons_zero, List.set_cons_succ]))
  (refine wpAnyH_take (i := 23) (v := undef) rfl (by kernel_rfl) (by kernel_rfl) (by kernel_rfl) (fun _ _ _ h => h) (Or.inr ⟨?hww23, rfl⟩) (by assumption) ?hrr23; (case hww23 => rfl); (try simp only [List.getElem_toArray, List.getElem_cons_succ, List.getElem_cons_zero, Act.put, List.setIfInBounds_toArray, List.set_cons_zero, List.set_cons_succ]))
  (refine wpAnyH_take (i := 24) (v := ?hvv24) rfl (by kernel_rfl) (by kernel_rfl) (by kernel_rfl) (fun _ _ _ h => h) (Or.inl ⟨?hww24, ?hyy24⟩) (by assumption) ?hrr24; (case hyy24 => intro w hSw; (try dsimp only at hSw); go_simp; (try with_reducible rfl)); (case hww24 => rfl); (try simp only [List.getElem_toArray, List.getElem_cons_succ, List.getElem_cons_zero, Act.put, List.setIfInBounds_toArray, List.set_cons_zero, List.set_cons_succ]))
  (refine wpAnyH_take (i := 25) (v := ?hvv25) rfl (by kernel_rfl) (by kernel_rfl) (by kernel_rfl) (fun _ _ _ h => h) (Or.inl ⟨?hww25, ?hyy25⟩) (by assumption) ?hrr25; (case hyy25 => intro w hSw; (try dsimp only at hSw); go_simp; (try with_reducible rfl)); (case hww25 => rfl); (try simp only [List.getElem_toArray, List.getElem_cons_succ, List.getElem_cons_zero, Act.put, List.setIfInBounds_toArray, List.set_cons_zero, List.set_cons_succ]))
  (refine wpAnyH_take (i := 26) (v := undef) rfl (by kernel_rfl) (by kernel_rfl) (by kernel_rfl) (fun _ _ _ h => h) (Or.inr ⟨?hww26, rfl⟩) (by assumption) ?hrr26; (case hww26 => rfl); (try simp only [List.getElem_toArray, List.getElem_cons_succ, List.getElem_cons_zero, Act.put, List.setIfInBounds_toArray, List.set_cons_zero, List.set_cons_succ]))
  (refine wpAnyH_take (i := 27) (v := undef) rfl (by kernel_rfl) (by kernel_rfl) (by kernel_rfl) (fun _ _ _ h => h) (Or.inr ⟨?hww27, rfl⟩) (by assumption) ?hrr27; (case hww27 => rfl); (try simp only [List.getElem_toArray, List.getElem_cons_succ, List.getElem_cons_zero, Act.put, List.setIfInBounds_toArray, List.set_cons_zero, List.set_cons_succ]))
  (refine wpAnyH_take (i := 28) (v := undef) rfl (by kernel_rfl) (by kernel_rfl) (by kernel_rfl) (fun _ _ _ h => h) (Or.inr ⟨?hww28, rfl⟩) (by assumption) ?hrr28; (case hww28 => rfl); (try simp only [List.getElem_toArray, List.getElem_cons_succ, List.getElem_cons_zero, Act.put, List.setIfInBounds_toArray, List.set_cons_zero, List.set_cons_succ]))
  (refine wpAnyH_take (i := 29) (v := undef) rfl (by kernel_rfl) (by kernel_rfl) (by kernel_rfl) (fun _ _ _ h => h) (Or.inr ⟨?hww29, rfl⟩) (by assumption) ?hrr29; (case hww29 => rfl); (try simp only [List.getElem_toArray, List.getElem_cons_succ, List.getElem_cons_zero, Act.put, List.setIfInBounds_toArray, List.set_cons_zero, List.set_cons_succ]))
  (refine wpAnyH_take (i := 30) (v := undef) rfl (by kernel_rfl) (by kernel_rfl) (by kernel_rfl) (fun _ _ _ h => h) (Or.inr ⟨?hww30, rfl⟩) (by assumption) ?hrr30; (case hww30 => rfl); (try simp only [List.getElem_toArray, List.getElem_cons_succ, List.getElem_cons_zero, Act.put, List.setIfInBounds_toArray, List.set_cons_zero, List.set_cons_succ]))
  (refine wpAnyH_take (i := 31) (v := ?hvv31) rfl (by kernel_rfl) (by kernel_rfl) (by kernel_rfl) (fun _ _ _ h => h) (Or.inl ⟨?hww31, ?hyy31⟩) (by assumption) ?hrr31; (case hyy31 => intro w hSw; (try dsimp only at hSw); go_simp; (try with_reducible rfl)); (case hww31 => rfl); (try simp only [List.getElem_toArray, List.getElem_cons_succ, List.getElem_cons_zero, Act.put, List.setIfInBounds_toArray, List.set_cons_zero, List.set_cons_succ]))
  (refine wpAnyH_take (i := 32) (v := ?hvv32) rfl (by kernel_rfl) (by kernel_rfl) (by kernel_rfl) (fun _ _ _ h => h) (Or.inl ⟨?hww32, ?hyy32⟩) (by assumption) ?hrr32; (case hyy32 => intro w hSw; (try dsimp only at hSw); go_simp; (try with_reducible rfl)); (case hww32 => rfl); (try simp only [List.getElem_toArray, List.getElem_cons_succ, List.getElem_cons_zero, Act.put, List.setIfInBounds_toArray, List.set_cons_zero, List.set_cons_succ]))
  (refine wpAnyH_take (i := 33) (v := ?hvv33) rfl (by kernel_rfl) (by kernel_rfl) (by kernel_rfl) (fun _ _ _ h => h) (Or.inl ⟨?hww33, ?hyy33⟩) (by assumption) ?hrr33; (case hyy33 => intro w hSw; (try dsimp only at hSw); go_simp; (try with_reducible rfl)); (case hww33 => rfl); (try simp only [List.getElem_toArray, List.getElem_cons_succ, List.getElem_cons_zero, Act.put, List.setIfInBounds_toArray, List.set_cons_zero, List.set_cons_succ]))
  (refine wpAnyH_take (i := 34) (v := ?hvv34) rfl (by kernel_rfl) (by kernel_rfl) (by kernel_rfl) (fun _ _ _ h => h) (Or.inl ⟨?hww34, ?hyy34⟩) (by assumption) ?hrr34; (case hyy34 => intro w hSw; (try dsimp only at hSw); go_simp; (try with_reducible rfl)); (case hww34 => rfl); (try simp only [List.getElem_toArray, List.getElem_cons_succ, List.getElem_cons_zero, Act.put, List.setIfInBounds_toArray, List.set_cons_zero, List.set_cons_succ]))
  (refine wpAnyH_take (i := 35) (v := ?hvv35) rfl (by kernel_rfl) (by kernel_rfl) (by kernel_rfl) (fun _ _ _ h => h) (Or.inl ⟨?hww35, ?hyy35⟩) (by assumption) ?hrr35; (case hyy35 => intro w hSw; (try dsimp only at hSw); go_simp; (try with_reducible rfl)); (case hww35 => rfl); (try simp only [List.getElem_toArray, List.getElem_cons_succ, List.getElem_cons_zero, Act.put, List.setIfInBounds_toArray, List.set_cons_zero, List.set_cons_succ]))
  (refine wpAnyH_take (i := 37) (v := ?hvv37) rfl (by kernel_rfl) (by kernel_rfl) (by kernel_rfl) (fun _ _ _ h => h) (Or.inl ⟨?hww37, ?hyy37⟩) (by assumption) ?hrr37; (case hyy37 => intro w hSw; (try dsimp only at hSw); go_simp; (try with_reducible rfl)); (case hww37 => rfl); (try simp only [List.getElem_toArray, List.getElem_cons_succ, List.getElem_cons_zero, Act.put, List.setIfInBounds_toArray, List.set_cons_zero, List.set_cons_succ]))
  (refine wpAnyH_take (i := 38) (v := ?hvv38) rfl (by kernel_rfl) (by kernel_rfl) (by kernel_rfl) (fun _ _ _ h => h) (Or.inl ⟨?hww38, ?hyy38⟩) (by assumption) ?hrr38; (case hyy38 => intro w hSw; (try dsimp only at hSw); go_simp; (try with_reducible rfl)); (case hww38 => rfl); (try simp only [List.getElem_toArray, List.getElem_cons_succ, List.getElem_cons_zero, Act.put, List.setIfInBounds_toArray, List.set_cons_zero, List.set_cons_succ]))
  (refine wpAnyH_take (i := 39) (v := ?hvv39) rfl (by kernel_rfl) (by kernel_rfl) (by kernel_rfl) (fun _ _ _ h => h) (Or.inl ⟨?hww39, ?hyy39⟩) (by assumption) ?hrr39; (case hyy39 => intro w hSw; (try dsimp only at hSw); go_simp; (try with_reducible rfl)); (case hww39 => rfl); (try simp only [List.getElem_toArray, List.getElem_cons_succ, List.getElem_cons_zero, Act.put, List.setIfInBounds_toArray, List.set_cons_zero, List.set_cons_succ]))
  refine wpAnyH_ready (rs := [36]) (by kernel_rfl) (by simp) ?_
  refine AllReadyH.cons rfl (fun K hK => ?_) AllReadyH.nil
  go_simp
  (go_at_call 17; refine (tag_Is.calls a0 a1 a2 (decide (0 < a1)) _ HI.out).mono ?_; rintro e w' ⟨rfl, hbq⟩)
  refine hK.out _ _ (warrenerlaw15_TagLikes.seven (by assumption) hbq) (fun hHeld2 => ?_)
  clear hK K hbq hHeld
  have hHeld := hHeld2
  clear hHeld2
  (try simp only [List.getElem_toArray, List.getElem_cons_succ, List.getElem_cons_zero, Act.put, List.setIfInBounds_toArray, List.set_cons_zero, List.set_cons_succ])
  (refine wpAnyH_take (i := 40) (v := ?hvv40) rfl (by kernel_rfl) (by kernel_rfl) (by kernel_rfl) (fun _ _ _ h => h) (Or.inl ⟨?hww40, ?hyy40⟩) (by assumption) ?hrr40; (case hyy40 => intro w hSw; (try dsimp only at hSw); go_simp; (try with_reducible rfl)); (case hww40 => rfl); (try simp only [List.getElem_toArray, List.getElem_cons_succ, List.getElem_cons_zero, Act.put, List.setIfInBounds_toArray, List.set_cons_zero, List.set_cons_succ]))
  (refine wpAnyH_take (i := 41) (v := ?hvv41) rfl (by kernel_rfl) (by kernel_rfl) (by kernel_rfl) (fun _ _ _ h => h) (Or.inl ⟨?hww41, ?hyy41⟩) (by assumption) ?hrr41; (case hyy41 => intro w hSw; (try dsimp only at hSw); go_simp; (try with_reducible rfl)); (case hww41 => rfl); (try simp only [List.getElem_toArray, List.getElem_cons_succ, List.getElem_cons_zero, Act.put, List.setIfInBounds_toArray, List.set_cons_zero, List.set_cons_succ]))
  (refine wpAnyH_take (i := 42) (v := ?hvv42) rfl (by kernel_rfl) (by kernel_rfl) (by kernel_rfl) (fun _ _ _ h => h) (Or.inl ⟨?hww42, ?hyy42⟩) (by assumption) ?hrr42; (case hyy42 => intro w hSw; (try dsimp only at hSw); go_simp; (try with_reducible rfl)); (case hww42 => rfl); (try simp only [List.getElem_toArray, List.getElem_cons_succ, List.getElem_cons_zero, Act.put, List.setIfInBounds_toArray, List.set_cons_zero, List.set_cons_succ]))
  refine wpAnyH_done (by kernel_rfl) ?_ _
  go_wp2
  go_ret
  exact ⟨by first | rfl | (simp; done), warrenerlaw15_TagLikes.last (by assumption)⟩
def warrenerlaw15_TagLikes.f (a0_0 : Int) (a0_1 : Int) (a0_2 : Int) (a1_0 : Int) (a1_1 : Int) (a1_2 : Int) : Option (Bool) := some true
theorem warrenerlaw15_TagLikes.calls (a0_0 : Int) (a0_1 : Int) (a0_2 : Int) (a1_0 : Int) (a1_1 : Int) (a1_2 : Int) (r : Bool) (w : World) (h : warrenerlaw15_TagLikes.f a0_0 a0_1 a0_2 a1_0 a1_1 a1_2 = some r) :
    Calls Try.prog 6 #[.agg #[.int .i64 a0_0, .int .i64 a0_1, .int .i64 a0_2], .agg #[.int .i64 a1_0, .int .i64 a1_1, .int .i64 a1_2]] w fun e w' => e = .returned (.bool r) ∧ Below w.heap.size w w' := by
  obtain rfl : true = r := by simpa [warrenerlaw15_TagLikes.f] using h
  have hal : warrenerlaw15_alive.f = some true := by decide +kernel
  cases e0 : (a0_0 == a1_0) with
  | false => exact warrenerlaw15_TagLikes.arm_f _ _ _ _ _ _ w e0 hal
  | true =>
    cases e1 : (a0_1 == a1_1) with
    | false => exact warrenerlaw15_TagLikes.arm_tf _ _ _ _ _ _ w e0 e1 hal
    | true =>
      cases e2 : (a0_2 == a1_2) with
      | false => exact warrenerlaw15_TagLikes.arm_ttf _ _ _ _ _ _ w e0 e1 e2 hal
      | true => exact warrenerlaw15_TagLikes.arm_ttt _ _ _ _ _ _ w e0 e1 e2 hal
def G34 (x : S34) : Prop := (Lit.int .i64 x.f0).wf = true ∧ (Lit.int .i64 x.f1).wf = true ∧ (Lit.int .i64 x.f2).wf = true
theorem opens34 : Opens Try.prog 34 k34 G34 := by
  have h := Opens.iso (β := S34) (Opens.struct Try.underlying34 (by kernel_rfl) (OpensAt.cons (Opens.int Try.underlying2 (by kernel_rfl)) (OpensAt.cons (Opens.int Try.underlying3 (by kernel_rfl)) (OpensAt.last (Opens.int Try.underlying3 (by kernel_rfl)))))) (fun x => (x.f0, x.f1, x.f2)) (fun y => ⟨y.1, y.2.1, y.2.2⟩) (fun _ => rfl)
  exact h
/-- THE ONE PURE STATEMENT of warrenerlaw15_TagLikes: yours. -/
def warrenerlaw15_TagLikes.Pure : Prop := ∀ (y0 : S34) (y1 : S34), G34 y0 → G34 y1 → warrenerlaw15_TagLikes.f (y0.f0) (y0.f1) (y0.f2) (y1.f0) (y1.f1) (y1.f2) = some true
theorem warrenerlaw15_TagLikes.walk (P : warrenerlaw15_TagLikes.Pure) (y0 : S34) (y1 : S34) (w : World)  (g0 : G34 y0) (g1 : G34 y1) :
    Calls Try.prog 6 #[.agg #[.int .i64 y0.f0, .int .i64 y0.f1, .int .i64 y0.f2], .agg #[.int .i64 y1.f0, .int .i64 y1.f1, .int .i64 y1.f2]] w fun e w' => e = .returned (.bool true) ∧ Below w.heap.size w w' := by
  have h := P y0 y1 g0 g1
  refine (warrenerlaw15_TagLikes.calls (y0.f0) (y0.f1) (y0.f2) (y1.f0) (y1.f1) (y1.f2) true w  h).mono ?_
  rintro e w' ⟨rfl, hd⟩
  exact ⟨rfl, hd⟩

end Go.Proofs.Ythllggfimndklab.QTagLikes
