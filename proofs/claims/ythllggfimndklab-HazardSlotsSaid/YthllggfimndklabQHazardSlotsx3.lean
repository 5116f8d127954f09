-- Written by print2.py (this session's driver of the kit's printer), hand-proved functions among the printed ones.
import Derived.Test.YthllggfimndklabQHazardSlotsx0
import Derived.Test.YthllggfimndklabQHazardSlotsx1
import Derived.Test.YthllggfimndklabQHazardSlotsx2
namespace Go.Proofs.Ythllggfimndklab.QHazardSlots
open Go.RowKit Go.Proofs.YthllggfimndklabW.PrintWords Go.Proofs.YthllggfimndklabW.PrintLast Go.Proofs.YthllggfimndklabW.PrintMore
attribute [local go_sem] max2_int min2_int max_two min_two max_three min_three max_four min_four   -- for this text's walks alone
open Go.Proofs.YthllggfimndklabW.HWords
set_option linter.unusedVariables false
set_option linter.unusedSimpArgs false

attribute [local go_sem high] eqA46
/-! ### warrenerlaw21_HazardSlots: function 8 -/
mutual
def warrenerlaw21_HazardSlots.l0 : Nat → Int → Int → Int → Int → Int → Bool → Int → Int → Int → Int → Int → Option (Bool)
  | 0, _, _, _, _, _, _, _, _, _, _, _ => none
  | k + 1, x0, x1, x2, x7, x8, x10, x11, x12, x136000, x136001, x136002 => if x12 < x7 then (warrenerlaw21_HazardSlots.l1 k x0 x1 x2 x7 x8 x10 x11 x12 0 x136000 x136001 x136002) else (if x10 = true then (some false) else (if (x136000 == 0 && (x136001 == 0 && (x136002 == 0))) = true then ((hazard_Count.f x1 x2).bind fun t136 => (some (t136 == (wrap64 (x7 * x8))))) else (some false)))
def warrenerlaw21_HazardSlots.l1 : Nat → Int → Int → Int → Int → Int → Bool → Int → Int → Int → Int → Int → Int → Option (Bool)
  | 0, _, _, _, _, _, _, _, _, _, _, _, _ => none
  | k + 1, x0, x1, x2, x7, x8, x10, x11, x12, x13, x136000, x136001, x136002 => if x13 < x8 then (if x11 = x0 then (if x10 = true then (if (x136000 == 5 && (x136001 == x12 && (x136002 == x13))) = true then ((hazard_Count.f x1 x2).bind fun t137 => (some (t137 == (wrap64 (x7 * x8))))) else (some false)) else (some false)) else (warrenerlaw21_HazardSlots.l1 k x0 x1 x2 x7 x8 x10 (wrap64 (x11 + 1)) x12 (wrap64 (x13 + 1)) x136000 x136001 x136002)) else (warrenerlaw21_HazardSlots.l0 k x0 x1 x2 x7 x8 x10 x11 (wrap64 (x12 + 1)) x136000 x136001 x136002)
end
def warrenerlaw21_HazardSlots.f (k : Nat) (a0 : Int) (a1 : Int) (a2 : Int) : Option (Bool) := (warrenerlaw21_alive.f k).bind fun t128 => (if t128 = true then ((warrenerplain_Near.f a1 0 4).bind fun t129 => ((warrenerplain_Near.f a2 0 2).bind fun t130 => ((hazard_Slot.f a0 a1 a2).bind fun bt131 => (warrenerlaw21_HazardSlots.l0 k a0 a1 a2 t129 t130 bt131.2.2.2 0 0 bt131.1 bt131.2.1 bt131.2.2.1)))) else (some false))
theorem warrenerlaw21_HazardSlots.mono_l : ∀ k, (∀ y0 y1 y2 y3 y4 y5 y6 y7 y8 y9 y10, LeO (warrenerlaw21_HazardSlots.l0 k y0 y1 y2 y3 y4 y5 y6 y7 y8 y9 y10) (warrenerlaw21_HazardSlots.l0 (k + 1) y0 y1 y2 y3 y4 y5 y6 y7 y8 y9 y10)) ∧ (∀ y0 y1 y2 y3 y4 y5 y6 y7 y8 y9 y10 y11, LeO (warrenerlaw21_HazardSlots.l1 k y0 y1 y2 y3 y4 y5 y6 y7 y8 y9 y10 y11) (warrenerlaw21_HazardSlots.l1 (k + 1) y0 y1 y2 y3 y4 y5 y6 y7 y8 y9 y10 y11))
  | 0 => ⟨fun _ _ _ _ _ _ _ _ _ _ _ r h => by simp [warrenerlaw21_HazardSlots.l0] at h, fun _ _ _ _ _ _ _ _ _ _ _ _ r h => by simp [warrenerlaw21_HazardSlots.l1] at h⟩
  | k + 1 => by
    obtain ⟨ih0, ih1⟩ := warrenerlaw21_HazardSlots.mono_l k
    refine ⟨?_, ?_⟩
    · intro y0 y1 y2 y3 y4 y5 y6 y7 y8 y9 y10
      unfold warrenerlaw21_HazardSlots.l0
      repeat' first
      | (with_reducible exact ih0 _ _ _ _ _ _ _ _ _ _ _)
      | (with_reducible exact ih1 _ _ _ _ _ _ _ _ _ _ _ _)
      | (with_reducible exact warrenerlaw21_alive.mono _)
      | (with_reducible exact LeO.refl _)
      | (with_reducible exact LeO.none _)
      | (with_reducible refine LeO.ite ?_ ?_)
      | (with_reducible refine LeO.bind ?_ (fun _ => ?_))
      | exact ih0 _ _ _ _ _ _ _ _ _ _ _
      | exact ih1 _ _ _ _ _ _ _ _ _ _ _ _
      | exact warrenerlaw21_alive.mono _
      | exact LeO.none _
      | refine LeO.ite ?_ ?_
      | refine LeO.bind ?_ (fun _ => ?_)
    · intro y0 y1 y2 y3 y4 y5 y6 y7 y8 y9 y10 y11
      unfold warrenerlaw21_HazardSlots.l1
      repeat' first
      | (with_reducible exact ih0 _ _ _ _ _ _ _ _ _ _ _)
      | (with_reducible exact ih1 _ _ _ _ _ _ _ _ _ _ _ _)
      | (with_reducible exact warrenerlaw21_alive.mono _)
      | (with_reducible exact LeO.refl _)
      | (with_reducible exact LeO.none _)
      | (with_reducible refine LeO.ite ?_ ?_)
      | (with_reducible refine LeO.bind ?_ (fun _ => ?_))
      | exact ih0 _ _ _ _ _ _ _ _ _ _ _
      | exact ih1 _ _ _ _ _ _ _ _ _ _ _ _
      | exact warrenerlaw21_alive.mono _
      | exact LeO.none _
      | refine LeO.ite ?_ ?_
      | refine LeO.bind ?_ (fun _ => ?_)
theorem warrenerlaw21_HazardSlots.mono : ∀ a0 a1 a2 k, LeO (warrenerlaw21_HazardSlots.f k a0 a1 a2) (warrenerlaw21_HazardSlots.f (k + 1) a0 a1 a2) := by
  intro a0 a1 a2 k
  obtain ⟨ih0, ih1⟩ := warrenerlaw21_HazardSlots.mono_l k
  unfold warrenerlaw21_HazardSlots.f
  repeat' first
      | (with_reducible exact ih0 _ _ _ _ _ _ _ _ _ _ _)
      | (with_reducible exact ih1 _ _ _ _ _ _ _ _ _ _ _ _)
      | (with_reducible exact warrenerlaw21_alive.mono _)
      | (with_reducible exact LeO.refl _)
      | (with_reducible exact LeO.none _)
      | (with_reducible refine LeO.ite ?_ ?_)
      | (with_reducible refine LeO.bind ?_ (fun _ => ?_))
      | exact ih0 _ _ _ _ _ _ _ _ _ _ _
      | exact ih1 _ _ _ _ _ _ _ _ _ _ _ _
      | exact warrenerlaw21_alive.mono _
      | exact LeO.none _
      | refine LeO.ite ?_ ?_
      | refine LeO.bind ?_ (fun _ => ?_)
set_option maxHeartbeats 8000000 in
set_option maxRecDepth 100000 in
theorem warrenerlaw21_HazardSlots.calls (k : Nat) (a0 : Int) (a1 : Int) (a2 : Int) (r : Bool) (w : World) (h : warrenerlaw21_HazardSlots.f k a0 a1 a2 = some r) :
    Calls Try.prog 8 #[.int .i64 a0, .int .i64 a1, .int .i64 a2] w fun e w' => e = .returned (.bool r) ∧ Below w.heap.size w w' := by
  have hu46 := Try.underlying46
  have HB := Aside0.mk (Below.refl w.heap.size w)
  have H : ((warrenerlaw21_alive.f k).bind fun t128 => (if t128 = true then ((warrenerplain_Near.f a1 0 4).bind fun t129 => ((warrenerplain_Near.f a2 0 2).bind fun t130 => ((hazard_Slot.f a0 a1 a2).bind fun bt131 => (warrenerlaw21_HazardSlots.l0 k a0 a1 a2 t129 t130 bt131.2.2.2 0 0 bt131.1 bt131.2.1 bt131.2.2.1)))) else (some false))) = some r := h
  clear h
  replace H := Option.bind_eq_some_iff.mp H
  obtain ⟨t128, A40, H⟩ := H
  replace H : (if t128 = true then ((warrenerplain_Near.f a1 0 4).bind fun t129 => ((warrenerplain_Near.f a2 0 2).bind fun t130 => ((hazard_Slot.f a0 a1 a2).bind fun bt131 => (warrenerlaw21_HazardSlots.l0 k a0 a1 a2 t129 t130 bt131.2.2.2 0 0 bt131.1 bt131.2.1 bt131.2.2.1)))) else (some false)) = some r := H
  have A4 := Aside0.mk A40
  clear A40
  by_cases c5 : t128 = true
  · subst c5
    have H1 : ((warrenerplain_Near.f a1 0 4).bind fun t129 => ((warrenerplain_Near.f a2 0 2).bind fun t130 => ((hazard_Slot.f a0 a1 a2).bind fun bt131 => (warrenerlaw21_HazardSlots.l0 k a0 a1 a2 t129 t130 bt131.2.2.2 0 0 bt131.1 bt131.2.1 bt131.2.2.1)))) = some r := by rw [if_pos rfl] at H; exact H
    clear H
    have H := H1
    clear H1
    replace H := Option.bind_eq_some_iff.mp H
    obtain ⟨t129, A60, H⟩ := H
    replace H : ((warrenerplain_Near.f a2 0 2).bind fun t130 => ((hazard_Slot.f a0 a1 a2).bind fun bt131 => (warrenerlaw21_HazardSlots.l0 k a0 a1 a2 t129 t130 bt131.2.2.2 0 0 bt131.1 bt131.2.1 bt131.2.2.1))) = some r := H
    have A6 := Aside0.mk A60
    clear A60
    replace H := Option.bind_eq_some_iff.mp H
    obtain ⟨t130, A70, H⟩ := H
    replace H : ((hazard_Slot.f a0 a1 a2).bind fun bt131 => (warrenerlaw21_HazardSlots.l0 k a0 a1 a2 t129 t130 bt131.2.2.2 0 0 bt131.1 bt131.2.1 bt131.2.2.1)) = some r := H
    have A7 := Aside0.mk A70
    clear A70
    replace H := Option.bind_eq_some_iff.mp H
    obtain ⟨⟨t131, t132, t133, t134⟩, A80, H⟩ := H
    replace H : (warrenerlaw21_HazardSlots.l0 k a0 a1 a2 t129 t130 t134 0 0 t131 t132 t133) = some r := H
    have A8 := Aside0.mk A80
    clear A80
    have H' := Aside0.mk H
    clear H
    go_enter Try.func8, Try.ntmps8
    go_wp2_with (first | ((with_reducible refine gate_callee (f := 23) rfl ?_); refine goesL_ (some 14) rfl rfl Try.func23 (by kernel_rfl) rfl #[] rfl (by (try simp only [List.map_toArray, List.map_cons, List.map_nil]); first | done | rfl | (simp only [List.length_drop, List.length_take]; rfl)) ?_; (with_reducible refine (warrenerlaw21_alive.calls k  true _ A4.out).mono ?_); rintro e w9 ⟨rfl, hb⟩; (try clear A4); refine ⟨_, rfl, ?_⟩; have n0_ := Aside0.mk (below_step (by repeat (first | (with_reducible first | exact HB.out | apply below_alloc | apply pw_below_drewN | apply below_drew1) | exact HB.out)) hb); clear HB; have HB := n0_; clear n0_; (try clear hb); (try clear hb2); (try clear hk); (try clear hi)) | ((with_reducible refine gate_callee (f := 10) rfl ?_); refine goesL_ (some 17) rfl rfl Try.func10 (by kernel_rfl) rfl #[.int .i64 a1, .int .i64 0, .int .i64 4] rfl (by (try simp only [List.map_toArray, List.map_cons, List.map_nil]); first | done | rfl | (simp only [List.length_drop, List.length_take]; rfl)) ?_; (with_reducible refine (warrenerplain_Near.calls a1 0 4 t129 _ A6.out).mono ?_); rintro e w' ⟨rfl, ⟨nd, rfl⟩⟩; (try clear A6); refine ⟨_, rfl, ?_⟩; (try (rw [drewN_self w9]; generalize hq_ : World.drewN w9 _ = w9; have n0_ : Aside0 (Below w.heap.size w w9) := ⟨by rw [← hq_]; exact (by repeat (first | (with_reducible first | exact HB.out | apply below_alloc | apply pw_below_drewN | apply below_drew1) | exact HB.out))⟩; clear HB hq_; have HB := n0_; clear n0_))) | ((with_reducible refine gate_callee (f := 10) rfl ?_); refine goesL_ (some 19) rfl rfl Try.func10 (by kernel_rfl) rfl #[.int .i64 a2, .int .i64 0, .int .i64 2] rfl (by (try simp only [List.map_toArray, List.map_cons, List.map_nil]); first | done | rfl | (simp only [List.length_drop, List.length_take]; rfl)) ?_; (with_reducible refine (warrenerplain_Near.calls a2 0 2 t130 _ A7.out).mono ?_); rintro e w' ⟨rfl, ⟨nd, rfl⟩⟩; (try clear A7); refine ⟨_, rfl, ?_⟩; (try (rw [drewN_self w9]; generalize hq_ : World.drewN w9 _ = w9; have n0_ : Aside0 (Below w.heap.size w w9) := ⟨by rw [← hq_]; exact (by repeat (first | (with_reducible first | exact HB.out | apply below_alloc | apply pw_below_drewN | apply below_drew1) | exact HB.out))⟩; clear HB hq_; have HB := n0_; clear n0_))) | ((with_reducible refine gate_callee (f := 24) rfl ?_); refine goesL_ (some 24) rfl rfl Try.func24 (by kernel_rfl) rfl #[.int .i64 a0, .int .i64 a1, .int .i64 a2] rfl (by (try simp only [List.map_toArray, List.map_cons, List.map_nil]); first | done | rfl | (simp only [List.length_drop, List.length_take]; rfl)) ?_; (with_reducible refine (hazard_Slot.calls a0 a1 a2 t131 t132 t133 t134 _ A8.out).mono ?_); rintro e w10 ⟨rfl, hb⟩; (try clear A8); refine ⟨_, rfl, ?_⟩; have n0_ := Aside0.mk (below_step (by repeat (first | (with_reducible first | exact HB.out | apply below_alloc | apply pw_below_drewN | apply below_drew1) | exact HB.out)) hb); clear HB; have HB := n0_; clear n0_; (try clear hb); (try clear hb2); (try clear hk); (try clear hi)) | ((with_reducible refine gate_dst (N := 9) rfl ?_); refine box_event ?hg (N := 9) ?hd (cs := #[.int .i64 0, .int .i64 0, .int .i64 0]) (t := 46) ?hr ?_; (case hd => rfl); (case hg => rfl); (case hr => first | (go_simp; done) | (go_simp; rfl)); intro gb135 hg w11 hbox hb; have n0_ := Aside0.mk (below_step (by repeat (first | (with_reducible first | exact HB.out | apply below_alloc | apply pw_below_drewN | apply below_drew1) | exact HB.out)) hb); have n1_ := Aside0.mk (hbox); have n2_ := Aside0.mk ((by rw [hg]; exact (below_size (by repeat (first | (with_reducible first | exact HB.out | apply below_alloc | apply pw_below_drewN | apply below_drew1) | exact HB.out))) : w.heap.size ≤ gb135)); have n3_ := Aside0.mk ((by rw [hg]; exact (below_size (by repeat (first | (with_reducible first | exact HB.out | apply below_alloc | apply pw_below_drewN | apply below_drew1) | exact HB.out))) : w.heap.size ≤ gb135)); clear HB; have HB := n0_; have BK135 := n1_; have GW135 := n2_; have GE135 := n3_; clear n0_ n1_ n2_ n3_; clear hb hbox hg; have hcz12_0 : w11.cell? ⟨gb135, 0, none⟩ = some (.int .i64 0) := (blk_cell BK135.out 0).trans rfl; have hcz12_1 : w11.cell? ⟨gb135, 1, none⟩ = some (.int .i64 0) := (blk_cell BK135.out 1).trans rfl; have hcz12_2 : w11.cell? ⟨gb135, 2, none⟩ = some (.int .i64 0) := (blk_cell BK135.out 2).trans rfl; have hfz12_0 := blk_frozen BK135.out 0; have hfz12_1 := blk_frozen BK135.out 1; have hfz12_2 := blk_frozen BK135.out 2))
    go_loopg [11, 12] k (fun kq v11 v12 w' => ∃ (x11_1 : Int) (x12_1 : Int), v11 = .int .i64 x11_1 ∧ v12 = .int .i64 x12_1 ∧ Aside0 (warrenerlaw21_HazardSlots.l0 kq a0 a1 a2 t129 t130 t134 x11_1 x12_1 t131 t132 t133 = some r) ∧ Aside0 (kq ≤ k) ∧ Aside0 (w'.heap[gb135]? = some (.cells #[.int .i64 t131, .int .i64 t132, .int .i64 t133] 46 (0, 0))) ∧ Aside0 (Below w.heap.size w w'))
    case atStart => exact ⟨(0), (0), (by first | rfl | (simp; done) | (simp [*]; done)), (by first | rfl | (simp; done) | (simp [*]; done)), H', ⟨Nat.le_refl _⟩, ⟨by (with_reducible repeat (first | refine blk_drewN ?_ _ | refine blk_drew ?_ | refine blk_alloc ?_ _)); refine blk_put (cs := #[.int .i64 t131, .int .i64 t132, .int .i64 0]) ?_ 2 _ rfl; (with_reducible repeat (first | refine blk_drewN ?_ _ | refine blk_drew ?_ | refine blk_alloc ?_ _)); refine blk_put (cs := #[.int .i64 t131, .int .i64 0, .int .i64 0]) ?_ 1 _ rfl; (with_reducible repeat (first | refine blk_drewN ?_ _ | refine blk_drew ?_ | refine blk_alloc ?_ _)); refine blk_put (cs := #[.int .i64 0, .int .i64 0, .int .i64 0]) ?_ 0 _ rfl; (with_reducible repeat (first | refine blk_drewN ?_ _ | refine blk_drew ?_ | refine blk_alloc ?_ _)); exact BK135.out⟩, ⟨by repeat (first | (with_reducible first | exact HB.out | apply below_alloc | apply pw_below_drewN | apply below_drew1 | refine below_set ?_ GE135.out) | exact HB.out)⟩⟩
    case round =>
      clear H'
      try clear c1
      try clear c2
      try clear p2
      try clear c5
      try clear c8
      try clear c10
      try clear hcz12_0
      try clear hcz12_1
      try clear hcz12_2
      try clear hfz12_0
      try clear hfz12_1
      try clear hfz12_2
      obtain ⟨x11_1, x12_1, rfl, rfl, HA, HK1, BK135, HB⟩ := hrel
      cases gk with
      | zero => exact absurd HA.out (by simp [warrenerlaw21_HazardSlots.l0])
      | succ k1 =>
        have H := HA.out
        clear HA
        simp only [warrenerlaw21_HazardSlots.l0] at H
        by_cases c13 : x12_1 < t129
        · rw [if_pos c13] at H
          have c13b0 : decide (x12_1 < t129) = true := decide_eq_true c13
          clear c13
          have H' := Aside0.mk H
          clear H
          go_wp2
          go_loopg [11, 13] k1 (fun kq v11 v13 w' => ∃ (x11_2 : Int) (x13_2 : Int), v11 = .int .i64 x11_2 ∧ v13 = .int .i64 x13_2 ∧ Aside0 (warrenerlaw21_HazardSlots.l1 kq a0 a1 a2 t129 t130 t134 x11_2 x12_1 x13_2 t131 t132 t133 = some r) ∧ Aside0 (kq ≤ k1) ∧ Aside0 (w'.heap[gb135]? = some (.cells #[.int .i64 t131, .int .i64 t132, .int .i64 t133] 46 (0, 0))) ∧ Aside0 (Below w.heap.size w w'))
          case atStart => exact ⟨(x11_1), (0), (by first | rfl | (simp; done) | (simp [*]; done)), (by first | rfl | (simp; done) | (simp [*]; done)), H', ⟨Nat.le_refl _⟩, ⟨by (with_reducible repeat (first | refine blk_drewN ?_ _ | refine blk_drew ?_ | refine blk_alloc ?_ _)); exact BK135.out⟩, ⟨by repeat (first | (with_reducible first | exact HB.out | apply below_alloc | apply pw_below_drewN | apply below_drew1 | refine below_set ?_ GE135.out) | exact HB.out)⟩⟩
          case round =>
            clear H'
            try clear c1
            try clear c2
            try clear p2
            try clear c5
            try clear c8
            try clear c10
            try clear c13
            try clear c13b0
            try clear hcz12_0
            try clear hcz12_1
            try clear hcz12_2
            try clear hfz12_0
            try clear hfz12_1
            try clear hfz12_2
            try clear p2
            obtain ⟨x11_2, x13_2, rfl, rfl, HA, HK2, BK135, HB⟩ := hrel
            cases gk with
            | zero => exact absurd HA.out (by simp [warrenerlaw21_HazardSlots.l1])
            | succ k2 =>
              have H := HA.out
              clear HA
              simp only [warrenerlaw21_HazardSlots.l1] at H
              by_cases c14 : x13_2 < t130
              · rw [if_pos c14] at H
                have c14b0 : decide (x13_2 < t130) = true := decide_eq_true c14
                clear c14
                by_cases c15 : x11_2 = a0
                · rw [if_pos c15] at H
                  have c15b0 : (x11_2 == a0) = true := beq_iff_eq.mpr c15
                  have c15b1 : (x11_2 != a0) = false := bne_eq_false_iff_eq.mpr c15
                  clear c15
                  by_cases c16 : t134 = true
                  · subst c16
                    have H1 : (if (t131 == 5 && (t132 == x12_1 && (t133 == x13_2))) = true then ((hazard_Count.f a1 a2).bind fun t137 => (some (t137 == (wrap64 (t129 * t130))))) else (some false)) = some r := by rw [if_pos rfl] at H; exact H
                    clear H
                    have H := H1
                    clear H1
                    by_cases c17 : (t131 == 5 && (t132 == x12_1 && (t133 == x13_2))) = true
                    · rw [if_pos c17] at H
                      have c17b0 : (t131 == 5 && (t132 == x12_1 && (t133 == x13_2))) = true := c17
                      (try (have c17b1 : decide (t131 = 5 && (t132 == x12_1 && (t133 == x13_2))) = true := by simpa using c17))
                      (try (have c17b2 : (t131 == 5 && (t132 == x12_1 && (t133 == x13_2))) = true := by simpa using c17))
                      clear c17
                      replace H := Option.bind_eq_some_iff.mp H
                      obtain ⟨t137, A180, H⟩ := H
                      replace H : (some (t137 == (wrap64 (t129 * t130)))) = some r := H
                      have A18 := Aside0.mk A180
                      clear A180
                      obtain rfl := Option.some.inj H
                      have hcz19_0 : wr.cell? ⟨gb135, 0, none⟩ = some (.int .i64 t131) := (blk_cell BK135.out 0).trans rfl
                      have hcz19_1 : wr.cell? ⟨gb135, 1, none⟩ = some (.int .i64 t132) := (blk_cell BK135.out 1).trans rfl
                      have hcz19_2 : wr.cell? ⟨gb135, 2, none⟩ = some (.int .i64 t133) := (blk_cell BK135.out 2).trans rfl
                      have hfz19_0 := blk_frozen BK135.out 0
                      have hfz19_1 := blk_frozen BK135.out 1
                      have hfz19_2 := blk_frozen BK135.out 2
                      go_wp2_with (first | (go_at_call 25; (with_reducible refine (hazard_Count.calls a1 a2 t137 _ A18.out).mono ?_); rintro e w20 ⟨rfl, hb⟩; (try clear A18); have n0_ := Aside0.mk (blk_below (g := gb135) (o := .cells #[.int .i64 t131, .int .i64 t132, .int .i64 t133] 46 (0, 0)) (by (with_reducible repeat (first | refine blk_drewN ?_ _ | refine blk_drew ?_ | refine blk_alloc ?_ _)); exact BK135.out) hb); have n1_ := Aside0.mk (below_step (by repeat (first | (with_reducible first | exact HB.out | apply below_alloc | apply pw_below_drewN | apply below_drew1 | refine below_set ?_ GE135.out) | exact HB.out)) hb); clear BK135; clear HB; have BK135 := n0_; have HB := n1_; clear n0_ n1_; (try clear hb); (try clear hb2); (try clear hk); (try clear hi)))
                      go_ret
                      exact ⟨by first | rfl | (simp [errW_none, errW_some] <;> rfl) | (simp [*, errW_none, errW_some] <;> rfl), by repeat (first | (with_reducible first | exact HB.out | apply below_alloc | apply pw_below_drewN | apply below_drew1 | refine below_set ?_ GE135.out) | exact HB.out)⟩
                    · rw [if_neg c17] at H
                      have c17b0 : (t131 == 5 && (t132 == x12_1 && (t133 == x13_2))) = false := by simpa using c17
                      (try (have c17b1 : decide (t131 = 5 && (t132 == x12_1 && (t133 == x13_2))) = false := by simpa using c17))
                      (try (have c17b2 : (t131 == 5 && (t132 == x12_1 && (t133 == x13_2))) = false := by simpa using c17))
                      (try (have c17b3 : ¬ (t131 = 5 && (t132 == x12_1 && (t133 == x13_2))) := by simpa using c17))
                      clear c17
                      obtain rfl := Option.some.inj H
                      have hcz21_0 : wr.cell? ⟨gb135, 0, none⟩ = some (.int .i64 t131) := (blk_cell BK135.out 0).trans rfl
                      have hcz21_1 : wr.cell? ⟨gb135, 1, none⟩ = some (.int .i64 t132) := (blk_cell BK135.out 1).trans rfl
                      have hcz21_2 : wr.cell? ⟨gb135, 2, none⟩ = some (.int .i64 t133) := (blk_cell BK135.out 2).trans rfl
                      have hfz21_0 := blk_frozen BK135.out 0
                      have hfz21_1 := blk_frozen BK135.out 1
                      have hfz21_2 := blk_frozen BK135.out 2
                      go_wp2
                      go_ret
                      exact ⟨by first | rfl | (simp [errW_none, errW_some] <;> rfl) | (simp [*, errW_none, errW_some] <;> rfl), by repeat (first | (with_reducible first | exact HB.out | apply below_alloc | apply pw_below_drewN | apply below_drew1 | refine below_set ?_ GE135.out) | exact HB.out)⟩
                  · replace c16 := Bool.eq_false_iff.mpr c16
                    subst c16
                    have H1 : (some false) = some r := by rw [if_neg (show ¬ (false = true) by decide)] at H; exact H
                    clear H
                    have H := H1
                    clear H1
                    obtain rfl := Option.some.inj H
                    go_wp2
                    go_ret
                    exact ⟨by first | rfl | (simp [errW_none, errW_some] <;> rfl) | (simp [*, errW_none, errW_some] <;> rfl), by repeat (first | (with_reducible first | exact HB.out | apply below_alloc | apply pw_below_drewN | apply below_drew1 | refine below_set ?_ GE135.out) | exact HB.out)⟩
                · rw [if_neg c15] at H
                  have c15b0 : (x11_2 == a0) = false := beq_eq_false_iff_ne.mpr c15
                  have c15b1 : (x11_2 != a0) = true := bne_iff_ne.mpr c15
                  have H' := Aside0.mk H
                  clear H
                  go_wp2
                  go_roundg k2
                  case measure => have := HK1.out; have := HK2.out; omega
                  case rel => exact ⟨(wrap64 (x11_2 + 1)), (wrap64 (x13_2 + 1)), (by first | rfl | (simp; done) | (simp [*]; done)), (by first | rfl | (simp; done) | (simp [*]; done)), H', ⟨by have := HK1.out; have := HK2.out; omega⟩, ⟨by (with_reducible repeat (first | refine blk_drewN ?_ _ | refine blk_drew ?_ | refine blk_alloc ?_ _)); exact BK135.out⟩, ⟨by repeat (first | (with_reducible first | exact HB.out | apply below_alloc | apply pw_below_drewN | apply below_drew1 | refine below_set ?_ GE135.out) | exact HB.out)⟩⟩
              · rw [if_neg c14] at H
                have c14b0 : decide (x13_2 < t130) = false := decide_eq_false c14
                clear c14
                have H' := Aside0.mk H
                clear H
                go_wp2
                go_roundg k2
                case measure => have := HK1.out; have := HK2.out; omega
                case rel => exact ⟨(x11_2), (wrap64 (x12_1 + 1)), (by first | rfl | (simp; done) | (simp [*]; done)), (by first | rfl | (simp; done) | (simp [*]; done)), H', ⟨by have := HK1.out; have := HK2.out; omega⟩, ⟨by (with_reducible repeat (first | refine blk_drewN ?_ _ | refine blk_drew ?_ | refine blk_alloc ?_ _)); exact BK135.out⟩, ⟨by repeat (first | (with_reducible first | exact HB.out | apply below_alloc | apply pw_below_drewN | apply below_drew1 | refine below_set ?_ GE135.out) | exact HB.out)⟩⟩
        · rw [if_neg c13] at H
          have c13b0 : decide (x12_1 < t129) = false := decide_eq_false c13
          clear c13
          by_cases c22 : t134 = true
          · subst c22
            have H1 : (some false) = some r := by rw [if_pos rfl] at H; exact H
            clear H
            have H := H1
            clear H1
            obtain rfl := Option.some.inj H
            go_wp2
            go_ret
            exact ⟨by first | rfl | (simp [errW_none, errW_some] <;> rfl) | (simp [*, errW_none, errW_some] <;> rfl), by repeat (first | (with_reducible first | exact HB.out | apply below_alloc | apply pw_below_drewN | apply below_drew1 | refine below_set ?_ GE135.out) | exact HB.out)⟩
          · replace c22 := Bool.eq_false_iff.mpr c22
            subst c22
            have H1 : (if (t131 == 0 && (t132 == 0 && (t133 == 0))) = true then ((hazard_Count.f a1 a2).bind fun t136 => (some (t136 == (wrap64 (t129 * t130))))) else (some false)) = some r := by rw [if_neg (show ¬ (false = true) by decide)] at H; exact H
            clear H
            have H := H1
            clear H1
            by_cases c23 : (t131 == 0 && (t132 == 0 && (t133 == 0))) = true
            · rw [if_pos c23] at H
              have c23b0 : (t131 == 0 && (t132 == 0 && (t133 == 0))) = true := c23
              (try (have c23b1 : decide (t131 = 0 && (t132 == 0 && (t133 == 0))) = true := by simpa using c23))
              (try (have c23b2 : (t131 == 0 && (t132 == 0 && (t133 == 0))) = true := by simpa using c23))
              clear c23
              replace H := Option.bind_eq_some_iff.mp H
              obtain ⟨t136, A240, H⟩ := H
              replace H : (some (t136 == (wrap64 (t129 * t130)))) = some r := H
              have A24 := Aside0.mk A240
              clear A240
              obtain rfl := Option.some.inj H
              have hcz25_0 : wr.cell? ⟨gb135, 0, none⟩ = some (.int .i64 t131) := (blk_cell BK135.out 0).trans rfl
              have hcz25_1 : wr.cell? ⟨gb135, 1, none⟩ = some (.int .i64 t132) := (blk_cell BK135.out 1).trans rfl
              have hcz25_2 : wr.cell? ⟨gb135, 2, none⟩ = some (.int .i64 t133) := (blk_cell BK135.out 2).trans rfl
              have hfz25_0 := blk_frozen BK135.out 0
              have hfz25_1 := blk_frozen BK135.out 1
              have hfz25_2 := blk_frozen BK135.out 2
              go_wp2_with (first | (go_at_call 25; (with_reducible refine (hazard_Count.calls a1 a2 t136 _ A24.out).mono ?_); rintro e w26 ⟨rfl, hb⟩; (try clear A24); have n0_ := Aside0.mk (blk_below (g := gb135) (o := .cells #[.int .i64 t131, .int .i64 t132, .int .i64 t133] 46 (0, 0)) (by (with_reducible repeat (first | refine blk_drewN ?_ _ | refine blk_drew ?_ | refine blk_alloc ?_ _)); exact BK135.out) hb); have n1_ := Aside0.mk (below_step (by repeat (first | (with_reducible first | exact HB.out | apply below_alloc | apply pw_below_drewN | apply below_drew1 | refine below_set ?_ GE135.out) | exact HB.out)) hb); clear BK135; clear HB; have BK135 := n0_; have HB := n1_; clear n0_ n1_; (try clear hb); (try clear hb2); (try clear hk); (try clear hi)))
              go_ret
              exact ⟨by first | rfl | (simp [errW_none, errW_some] <;> rfl) | (simp [*, errW_none, errW_some] <;> rfl), by repeat (first | (with_reducible first | exact HB.out | apply below_alloc | apply pw_below_drewN | apply below_drew1 | refine below_set ?_ GE135.out) | exact HB.out)⟩
            · rw [if_neg c23] at H
              have c23b0 : (t131 == 0 && (t132 == 0 && (t133 == 0))) = false := by simpa using c23
              (try (have c23b1 : decide (t131 = 0 && (t132 == 0 && (t133 == 0))) = false := by simpa using c23))
              (try (have c23b2 : (t131 == 0 && (t132 == 0 && (t133 == 0))) = false := by simpa using c23))
              (try (have c23b3 : ¬ (t131 = 0 && (t132 == 0 && (t133 == 0))) := by simpa using c23))
              clear c23
              obtain rfl := Option.some.inj H
              have hcz27_0 : wr.cell? ⟨gb135, 0, none⟩ = some (.int .i64 t131) := (blk_cell BK135.out 0).trans rfl
              have hcz27_1 : wr.cell? ⟨gb135, 1, none⟩ = some (.int .i64 t132) := (blk_cell BK135.out 1).trans rfl
              have hcz27_2 : wr.cell? ⟨gb135, 2, none⟩ = some (.int .i64 t133) := (blk_cell BK135.out 2).trans rfl
              have hfz27_0 := blk_frozen BK135.out 0
              have hfz27_1 := blk_frozen BK135.out 1
              have hfz27_2 := blk_frozen BK135.out 2
              go_wp2
              go_ret
              exact ⟨by first | rfl | (simp [errW_none, errW_some] <;> rfl) | (simp [*, errW_none, errW_some] <;> rfl), by repeat (first | (with_reducible first | exact HB.out | apply below_alloc | apply pw_below_drewN | apply below_drew1 | refine below_set ?_ GE135.out) | exact HB.out)⟩
  · replace c5 := Bool.eq_false_iff.mpr c5
    subst c5
    have H1 : (some false) = some r := by rw [if_neg (show ¬ (false = true) by decide)] at H; exact H
    clear H
    have H := H1
    clear H1
    obtain rfl := Option.some.inj H
    go_enter Try.func8, Try.ntmps8
    go_wp2_with (first | ((with_reducible refine gate_callee (f := 23) rfl ?_); refine goesL_ (some 14) rfl rfl Try.func23 (by kernel_rfl) rfl #[] rfl (by (try simp only [List.map_toArray, List.map_cons, List.map_nil]); first | done | rfl | (simp only [List.length_drop, List.length_take]; rfl)) ?_; (with_reducible refine (warrenerlaw21_alive.calls k  false _ A4.out).mono ?_); rintro e w28 ⟨rfl, hb⟩; (try clear A4); refine ⟨_, rfl, ?_⟩; have n0_ := Aside0.mk (below_step (by repeat (first | (with_reducible first | exact HB.out | apply below_alloc | apply pw_below_drewN | apply below_drew1) | exact HB.out)) hb); clear HB; have HB := n0_; clear n0_; (try clear hb); (try clear hb2); (try clear hk); (try clear hi)))
    go_ret
    exact ⟨by first | rfl | (simp [errW_none, errW_some] <;> rfl) | (simp [*, errW_none, errW_some] <;> rfl), by repeat (first | (with_reducible first | exact HB.out | apply below_alloc | apply pw_below_drewN | apply below_drew1) | exact HB.out)⟩
/-- THE ONE PURE STATEMENT of warrenerlaw21_HazardSlots: yours. -/
def warrenerlaw21_HazardSlots.Pure : Prop := ∀ (y0 : Int) (y1 : Int) (y2 : Int), (Lit.int .i64 y0).wf = true → (Lit.int .i64 y1).wf = true → (Lit.int .i64 y2).wf = true → ∃ k, warrenerlaw21_HazardSlots.f k y0 y1 y2 = some true
theorem warrenerlaw21_HazardSlots.walk (P : warrenerlaw21_HazardSlots.Pure) (y0 : Int) (y1 : Int) (y2 : Int) (w : World)  (g0 : (Lit.int .i64 y0).wf = true) (g1 : (Lit.int .i64 y1).wf = true) (g2 : (Lit.int .i64 y2).wf = true) :
    Calls Try.prog 8 #[.int .i64 y0, .int .i64 y1, .int .i64 y2] w fun e w' => e = .returned (.bool true) ∧ Below w.heap.size w w' := by
  obtain ⟨k, h⟩ := P y0 y1 y2 g0 g1 g2
  refine (warrenerlaw21_HazardSlots.calls k (y0) (y1) (y2) true w  h).mono ?_
  rintro e w' ⟨rfl, hd⟩
  exact ⟨rfl, hd⟩

end Go.Proofs.Ythllggfimndklab.QHazardSlots
