-- Written by print2.py (this session's driver of the kit's printer), hand-proved functions among the printed ones.
import Derived.Test.YthllggfimndklabQTagWordsx0
import Derived.Test.YthllggfimndklabQTagWordsx1
import Derived.Test.YthllggfimndklabQTagWordsx2
import Derived.Test.YthllggfimndklabQTagWordsx3
namespace Go.Proofs.Ythllggfimndklab.QTagWords
open Go.RowKit Go.Proofs.YthllggfimndklabW.PrintWords Go.Proofs.YthllggfimndklabW.PrintLast Go.Proofs.YthllggfimndklabW.PrintMore
attribute [local go_sem] max2_int min2_int max_two min_two max_three min_three max_four min_four   -- for this text's walks alone
open Go.Proofs.YthllggfimndklabW.HWords
set_option linter.unusedVariables false
set_option linter.unusedSimpArgs false

attribute [local go_sem high] eqA34
/-! ### warrenerlaw15_TagWords: function 5 -/
def warrenerlaw15_TagWords.j0 : Nat → Int → Int → Int → Int → Int → Int → Int → Int → Option (Bool)
  | 0, _, _, _, _, _, _, _, _ => none
  | k + 1, x0, x2, x145000, x145001, x145002, x146000, x146001, x146002 => if (x145000 == x146000 && (x145001 == x146001 && (x145002 == x146002))) = true then ((tag_Is.f x145000 x145001 x145002).bind fun t146 => (if (t146 == (decide (x0 ≥ 1))) = true then ((tag_Plain.f x2).bind fun bt147 => (if (bt147.1 == x2 && (bt147.2.1 == 0 && (bt147.2.2 == 0))) = true then ((tag_Plain.f x2).bind fun bt150 => ((tag_Is.f bt150.1 bt150.2.1 bt150.2.2).bind fun t153 => (some (!t153)))) else (some false))) else (some false))) else (some false)
def warrenerlaw15_TagWords.f (k : Nat) (a0 : Int) (a1 : Int) (a2 : Int) : Option (Bool) := (warrenerlaw15_alive.f).bind fun t140 => (if t140 = true then ((tag_To.f a0 a1).bind fun bt141 => (if a0 < 1 then (warrenerlaw15_TagWords.j0 k a0 a2 bt141.1 bt141.2.1 bt141.2.2 0 0 0) else (warrenerlaw15_TagWords.j0 k a0 a2 bt141.1 bt141.2.1 bt141.2.2 a0 a0 a1))) else (some false))
theorem warrenerlaw15_TagWords.mono_l : ∀ k, (∀ y0 y1 y2 y3 y4 y5 y6 y7, LeO (warrenerlaw15_TagWords.j0 k y0 y1 y2 y3 y4 y5 y6 y7) (warrenerlaw15_TagWords.j0 (k + 1) y0 y1 y2 y3 y4 y5 y6 y7))
  | 0 => fun _ _ _ _ _ _ _ _ r h => by simp [warrenerlaw15_TagWords.j0] at h
  | k + 1 => by
    have ih0 := warrenerlaw15_TagWords.mono_l k
    · intro y0 y1 y2 y3 y4 y5 y6 y7
      unfold warrenerlaw15_TagWords.j0
      repeat' first
      | (with_reducible exact ih0 _ _ _ _ _ _ _ _)
      | (with_reducible exact LeO.refl _)
      | (with_reducible exact LeO.none _)
      | (with_reducible refine LeO.ite ?_ ?_)
      | (with_reducible refine LeO.bind ?_ (fun _ => ?_))
      | exact ih0 _ _ _ _ _ _ _ _
      | exact LeO.none _
      | refine LeO.ite ?_ ?_
      | refine LeO.bind ?_ (fun _ => ?_)
theorem warrenerlaw15_TagWords.mono : ∀ a0 a1 a2 k, LeO (warrenerlaw15_TagWords.f k a0 a1 a2) (warrenerlaw15_TagWords.f (k + 1) a0 a1 a2) := by
  intro a0 a1 a2 k
  have ih0 := warrenerlaw15_TagWords.mono_l k
  unfold warrenerlaw15_TagWords.f
  repeat' first
      | (with_reducible exact ih0 _ _ _ _ _ _ _ _)
      | (with_reducible exact LeO.refl _)
      | (with_reducible exact LeO.none _)
      | (with_reducible refine LeO.ite ?_ ?_)
      | (with_reducible refine LeO.bind ?_ (fun _ => ?_))
      | exact ih0 _ _ _ _ _ _ _ _
      | exact LeO.none _
      | refine LeO.ite ?_ ?_
      | refine LeO.bind ?_ (fun _ => ?_)
set_option maxHeartbeats 8000000 in
set_option maxRecDepth 100000 in
theorem warrenerlaw15_TagWords.calls (k : Nat) (a0 : Int) (a1 : Int) (a2 : Int) (r : Bool) (w : World) (h : warrenerlaw15_TagWords.f k a0 a1 a2 = some r) :
    Calls Try.prog 5 #[.int .i64 a0, .int .i64 a1, .int .i64 a2] w fun e w' => e = .returned (.bool r) ∧ Below w.heap.size w w' := by
  have hu34 := Try.underlying34
  have HB := Aside0.mk (Below.refl w.heap.size w)
  have H : ((warrenerlaw15_alive.f).bind fun t140 => (if t140 = true then ((tag_To.f a0 a1).bind fun bt141 => (if a0 < 1 then (warrenerlaw15_TagWords.j0 k a0 a2 bt141.1 bt141.2.1 bt141.2.2 0 0 0) else (warrenerlaw15_TagWords.j0 k a0 a2 bt141.1 bt141.2.1 bt141.2.2 a0 a0 a1))) else (some false))) = some r := h
  clear h
  replace H := Option.bind_eq_some_iff.mp H
  obtain ⟨t140, A40, H⟩ := H
  replace H : (if t140 = true then ((tag_To.f a0 a1).bind fun bt141 => (if a0 < 1 then (warrenerlaw15_TagWords.j0 k a0 a2 bt141.1 bt141.2.1 bt141.2.2 0 0 0) else (warrenerlaw15_TagWords.j0 k a0 a2 bt141.1 bt141.2.1 bt141.2.2 a0 a0 a1))) else (some false)) = some r := H
  have A4 := Aside0.mk A40
  clear A40
  by_cases c5 : t140 = true
  · subst c5
    have H1 : ((tag_To.f a0 a1).bind fun bt141 => (if a0 < 1 then (warrenerlaw15_TagWords.j0 k a0 a2 bt141.1 bt141.2.1 bt141.2.2 0 0 0) else (warrenerlaw15_TagWords.j0 k a0 a2 bt141.1 bt141.2.1 bt141.2.2 a0 a0 a1))) = some r := by rw [if_pos rfl] at H; exact H
    clear H
    have H := H1
    clear H1
    replace H := Option.bind_eq_some_iff.mp H
    obtain ⟨⟨t141, t142, t143⟩, A60, H⟩ := H
    replace H : (if a0 < 1 then (warrenerlaw15_TagWords.j0 k a0 a2 t141 t142 t143 0 0 0) else (warrenerlaw15_TagWords.j0 k a0 a2 t141 t142 t143 a0 a0 a1)) = some r := H
    have A6 := Aside0.mk A60
    clear A60
    have HC7 := Aside0.mk H
    clear H
    go_enter Try.func5, Try.ntmps5
    go_upto_if 19 with (first | ((with_reducible refine gate_callee (f := 15) rfl ?_); refine goesL_ (some 9) rfl rfl Try.func15 (by kernel_rfl) rfl #[] rfl (by (try simp only [List.map_toArray, List.map_cons, List.map_nil]); first | done | rfl | (simp only [List.length_drop, List.length_take]; rfl)) ?_; (with_reducible refine (warrenerlaw15_alive.calls  true _ A4.out).mono ?_); rintro e w8 ⟨rfl, hb⟩; (try clear A4); refine ⟨_, rfl, ?_⟩; have n0_ := Aside0.mk (below_step (by repeat (first | (with_reducible first | exact HB.out | apply below_alloc | apply pw_below_drewN | apply below_drew1) | exact HB.out)) hb); clear HB; have HB := n0_; clear n0_; (try clear hb); (try clear hb2); (try clear hk); (try clear hi)) | ((with_reducible refine gate_callee (f := 16) rfl ?_); refine goesL_ (some 13) rfl rfl Try.func16 (by kernel_rfl) rfl #[.int .i64 a0, .int .i64 a1] rfl (by (try simp only [List.map_toArray, List.map_cons, List.map_nil]); first | done | rfl | (simp only [List.length_drop, List.length_take]; rfl)) ?_; (with_reducible refine (tag_To.calls a0 a1 t141 t142 t143 _ A6.out).mono ?_); rintro e w9 ⟨rfl, hb⟩; (try clear A6); refine ⟨_, rfl, ?_⟩; have n0_ := Aside0.mk (below_step (by repeat (first | (with_reducible first | exact HB.out | apply below_alloc | apply pw_below_drewN | apply below_drew1) | exact HB.out)) hb); clear HB; have HB := n0_; clear n0_; (try clear hb); (try clear hb2); (try clear hk); (try clear hi)) | ((with_reducible refine gate_dst (N := 7) rfl ?_); refine box_event ?hg (N := 7) ?hd (cs := #[.int .i64 0, .int .i64 0, .int .i64 0]) (t := 34) ?hr ?_; (case hd => rfl); (case hg => rfl); (case hr => first | (go_simp; done) | (go_simp; rfl)); intro gb144 hg w10 hbox hb; have n0_ := Aside0.mk (below_step (by repeat (first | (with_reducible first | exact HB.out | apply below_alloc | apply pw_below_drewN | apply below_drew1) | exact HB.out)) hb); have n1_ := Aside0.mk (hbox); have n2_ := Aside0.mk ((by rw [hg]; exact (below_size (by repeat (first | (with_reducible first | exact HB.out | apply below_alloc | apply pw_below_drewN | apply below_drew1) | exact HB.out))) : w.heap.size ≤ gb144)); have n3_ := Aside0.mk ((by rw [hg]; exact (below_size (by repeat (first | (with_reducible first | exact HB.out | apply below_alloc | apply pw_below_drewN | apply below_drew1) | exact HB.out))) : w.heap.size ≤ gb144)); clear HB; have HB := n0_; have BK144 := n1_; have GW144 := n2_; have GE144 := n3_; clear n0_ n1_ n2_ n3_; clear hb hbox hg; have hcz11_0 : w10.cell? ⟨gb144, 0, none⟩ = some (.int .i64 0) := (blk_cell BK144.out 0).trans rfl; have hcz11_1 : w10.cell? ⟨gb144, 1, none⟩ = some (.int .i64 0) := (blk_cell BK144.out 1).trans rfl; have hcz11_2 : w10.cell? ⟨gb144, 2, none⟩ = some (.int .i64 0) := (blk_cell BK144.out 2).trans rfl; have hfz11_0 := blk_frozen BK144.out 0; have hfz11_1 := blk_frozen BK144.out 1; have hfz11_2 := blk_frozen BK144.out 2) | ((with_reducible refine gate_dst (N := 8) rfl ?_); refine box_event ?hg (N := 8) ?hd (cs := #[.int .i64 0, .int .i64 0, .int .i64 0]) (t := 34) ?hr ?_; (case hd => rfl); (case hg => rfl); (case hr => first | (go_simp; done) | (go_simp; rfl)); intro gb145 hg w12 hbox hb; have n0_ := Aside0.mk (blk_below (g := gb144) (o := .cells #[.int .i64 t141, .int .i64 t142, .int .i64 t143] 34 (0, 0)) (by (with_reducible repeat (first | refine blk_drewN ?_ _ | refine blk_drew ?_ | refine blk_alloc ?_ _)); refine blk_put (cs := #[.int .i64 t141, .int .i64 t142, .int .i64 0]) ?_ 2 _ rfl; (with_reducible repeat (first | refine blk_drewN ?_ _ | refine blk_drew ?_ | refine blk_alloc ?_ _)); refine blk_put (cs := #[.int .i64 t141, .int .i64 0, .int .i64 0]) ?_ 1 _ rfl; (with_reducible repeat (first | refine blk_drewN ?_ _ | refine blk_drew ?_ | refine blk_alloc ?_ _)); refine blk_put (cs := #[.int .i64 0, .int .i64 0, .int .i64 0]) ?_ 0 _ rfl; (with_reducible repeat (first | refine blk_drewN ?_ _ | refine blk_drew ?_ | refine blk_alloc ?_ _)); exact BK144.out) hb); have n1_ := Aside0.mk (below_step (by repeat (first | (with_reducible first | exact HB.out | apply below_alloc | apply pw_below_drewN | apply below_drew1 | refine below_set ?_ GE144.out) | exact HB.out)) hb); have n2_ := Aside0.mk (hbox); have n3_ := Aside0.mk ((by rw [hg]; exact (below_size (by repeat (first | (with_reducible first | exact HB.out | apply below_alloc | apply pw_below_drewN | apply below_drew1 | refine below_set ?_ GE144.out) | exact HB.out))) : w.heap.size ≤ gb145)); have n4_ := Aside0.mk ((by rw [hg]; exact (below_size (by repeat (first | (with_reducible first | exact HB.out | apply below_alloc | apply pw_below_drewN | apply below_drew1 | refine below_set ?_ GE144.out) | exact HB.out))) : w.heap.size ≤ gb145)); have n5_ := Aside0.mk ((by rw [hg]; exact Nat.ne_of_lt (blk_lt (g := gb144) (o := .cells #[.int .i64 t141, .int .i64 t142, .int .i64 t143] 34 (0, 0)) (by (with_reducible repeat (first | refine blk_drewN ?_ _ | refine blk_drew ?_ | refine blk_alloc ?_ _)); refine blk_put (cs := #[.int .i64 t141, .int .i64 t142, .int .i64 0]) ?_ 2 _ rfl; (with_reducible repeat (first | refine blk_drewN ?_ _ | refine blk_drew ?_ | refine blk_alloc ?_ _)); refine blk_put (cs := #[.int .i64 t141, .int .i64 0, .int .i64 0]) ?_ 1 _ rfl; (with_reducible repeat (first | refine blk_drewN ?_ _ | refine blk_drew ?_ | refine blk_alloc ?_ _)); refine blk_put (cs := #[.int .i64 0, .int .i64 0, .int .i64 0]) ?_ 0 _ rfl; (with_reducible repeat (first | refine blk_drewN ?_ _ | refine blk_drew ?_ | refine blk_alloc ?_ _)); exact BK144.out)) : gb144 ≠ gb145)); have n6_ := Aside0.mk ((by rw [hg]; exact Nat.ne_of_gt (blk_lt (g := gb144) (o := .cells #[.int .i64 t141, .int .i64 t142, .int .i64 t143] 34 (0, 0)) (by (with_reducible repeat (first | refine blk_drewN ?_ _ | refine blk_drew ?_ | refine blk_alloc ?_ _)); refine blk_put (cs := #[.int .i64 t141, .int .i64 t142, .int .i64 0]) ?_ 2 _ rfl; (with_reducible repeat (first | refine blk_drewN ?_ _ | refine blk_drew ?_ | refine blk_alloc ?_ _)); refine blk_put (cs := #[.int .i64 t141, .int .i64 0, .int .i64 0]) ?_ 1 _ rfl; (with_reducible repeat (first | refine blk_drewN ?_ _ | refine blk_drew ?_ | refine blk_alloc ?_ _)); refine blk_put (cs := #[.int .i64 0, .int .i64 0, .int .i64 0]) ?_ 0 _ rfl; (with_reducible repeat (first | refine blk_drewN ?_ _ | refine blk_drew ?_ | refine blk_alloc ?_ _)); exact BK144.out)) : gb145 ≠ gb144)); clear BK144; clear HB; have BK144 := n0_; have HB := n1_; have BK145 := n2_; have GW145 := n3_; have GE145 := n4_; have NB144_145 := n5_; have NB145_144 := n6_; clear n0_ n1_ n2_ n3_ n4_ n5_ n6_; clear hb hbox hg; have hnb13 := NB145_144.out; have hnc13 := NB144_145.out; have hcz14_0 : w12.cell? ⟨gb145, 0, none⟩ = some (.int .i64 0) := (blk_cell BK145.out 0).trans rfl; have hcz14_1 : w12.cell? ⟨gb145, 1, none⟩ = some (.int .i64 0) := (blk_cell BK145.out 1).trans rfl; have hcz14_2 : w12.cell? ⟨gb145, 2, none⟩ = some (.int .i64 0) := (blk_cell BK145.out 2).trans rfl; have hfz14_0 := blk_frozen BK145.out 0; have hfz14_1 := blk_frozen BK145.out 1; have hfz14_2 := blk_frozen BK145.out 2))
    (try simp only [Act.put, List.setIfInBounds_toArray, List.set_cons_zero, List.set_cons_succ])
    go_cut [] (fun wc => ∃ (kq : Nat) (x146000_6 : Int) (x146001_6 : Int) (x146002_6 : Int), Aside0 (warrenerlaw15_TagWords.j0 kq a0 a2 t141 t142 t143 x146000_6 x146001_6 x146002_6 = some r) ∧ Aside0 (kq ≤ k) ∧ Aside0 (wc.heap[gb144]? = some (.cells #[.int .i64 t141, .int .i64 t142, .int .i64 t143] 34 (0, 0))) ∧ Aside0 (wc.heap[gb145]? = some (.cells #[.int .i64 x146000_6, .int .i64 x146001_6, .int .i64 x146002_6] 34 (0, 0))) ∧ Aside0 (Below w.heap.size w wc))
    case first =>
      have H := HC7.out
      clear HC7
      by_cases c15 : a0 < 1
      · rw [if_pos c15] at H
        have c15b0 : decide (a0 < 1) = true := decide_eq_true c15
        clear c15
        (first | rw [c15b0] | (simp only [i64_w, i32_w]; rw [c15b0]) | skip)
        have H' := Aside0.mk H
        clear H
        have hnb16 := NB145_144.out
        have hnc16 := NB144_145.out
        have hcz17_0 : w12.cell? ⟨gb145, 0, none⟩ = some (.int .i64 0) := (blk_cell BK145.out 0).trans rfl
        have hcz17_1 : w12.cell? ⟨gb145, 1, none⟩ = some (.int .i64 0) := (blk_cell BK145.out 1).trans rfl
        have hcz17_2 : w12.cell? ⟨gb145, 2, none⟩ = some (.int .i64 0) := (blk_cell BK145.out 2).trans rfl
        have hfz17_0 := blk_frozen BK145.out 0
        have hfz17_1 := blk_frozen BK145.out 1
        have hfz17_2 := blk_frozen BK145.out 2
        go_wp2
        go_meet
        case rel => exact ⟨_, (0), (0), (0), H', ⟨by first | omega | exact Nat.le_refl _⟩, ⟨by (with_reducible repeat (first | refine blk_drewN ?_ _ | refine blk_drew ?_ | refine blk_alloc ?_ _)); refine blk_far ?_ NB144_145.out _; (with_reducible repeat (first | refine blk_drewN ?_ _ | refine blk_drew ?_ | refine blk_alloc ?_ _)); refine blk_far ?_ NB144_145.out _; (with_reducible repeat (first | refine blk_drewN ?_ _ | refine blk_drew ?_ | refine blk_alloc ?_ _)); refine blk_far ?_ NB144_145.out _; (with_reducible repeat (first | refine blk_drewN ?_ _ | refine blk_drew ?_ | refine blk_alloc ?_ _)); refine blk_far ?_ NB144_145.out _; (with_reducible repeat (first | refine blk_drewN ?_ _ | refine blk_drew ?_ | refine blk_alloc ?_ _)); refine blk_far ?_ NB144_145.out _; (with_reducible repeat (first | refine blk_drewN ?_ _ | refine blk_drew ?_ | refine blk_alloc ?_ _)); refine blk_far ?_ NB144_145.out _; (with_reducible repeat (first | refine blk_drewN ?_ _ | refine blk_drew ?_ | refine blk_alloc ?_ _)); exact BK144.out⟩, ⟨by (with_reducible repeat (first | refine blk_drewN ?_ _ | refine blk_drew ?_ | refine blk_alloc ?_ _)); refine blk_put (cs := #[.int .i64 0, .int .i64 0, .int .i64 a1]) ?_ 2 _ rfl; (with_reducible repeat (first | refine blk_drewN ?_ _ | refine blk_drew ?_ | refine blk_alloc ?_ _)); refine blk_put (cs := #[.int .i64 0, .int .i64 a0, .int .i64 a1]) ?_ 1 _ rfl; (with_reducible repeat (first | refine blk_drewN ?_ _ | refine blk_drew ?_ | refine blk_alloc ?_ _)); refine blk_put (cs := #[.int .i64 a0, .int .i64 a0, .int .i64 a1]) ?_ 0 _ rfl; (with_reducible repeat (first | refine blk_drewN ?_ _ | refine blk_drew ?_ | refine blk_alloc ?_ _)); refine blk_put (cs := #[.int .i64 a0, .int .i64 a0, .int .i64 0]) ?_ 2 _ rfl; (with_reducible repeat (first | refine blk_drewN ?_ _ | refine blk_drew ?_ | refine blk_alloc ?_ _)); refine blk_put (cs := #[.int .i64 a0, .int .i64 0, .int .i64 0]) ?_ 1 _ rfl; (with_reducible repeat (first | refine blk_drewN ?_ _ | refine blk_drew ?_ | refine blk_alloc ?_ _)); refine blk_put (cs := #[.int .i64 0, .int .i64 0, .int .i64 0]) ?_ 0 _ rfl; (with_reducible repeat (first | refine blk_drewN ?_ _ | refine blk_drew ?_ | refine blk_alloc ?_ _)); exact BK145.out⟩, ⟨by repeat (first | (with_reducible first | exact HB.out | apply below_alloc | apply pw_below_drewN | apply below_drew1 | refine below_set ?_ GE144.out | refine below_set ?_ GE145.out) | exact HB.out)⟩⟩
      · rw [if_neg c15] at H
        have c15b0 : decide (a0 < 1) = false := decide_eq_false c15
        clear c15
        (first | rw [c15b0] | (simp only [i64_w, i32_w]; rw [c15b0]) | skip)
        have H' := Aside0.mk H
        clear H
        go_wp2
        go_meet
        case rel => exact ⟨_, (a0), (a0), (a1), H', ⟨by first | omega | exact Nat.le_refl _⟩, ⟨by (with_reducible repeat (first | refine blk_drewN ?_ _ | refine blk_drew ?_ | refine blk_alloc ?_ _)); refine blk_far ?_ NB144_145.out _; (with_reducible repeat (first | refine blk_drewN ?_ _ | refine blk_drew ?_ | refine blk_alloc ?_ _)); refine blk_far ?_ NB144_145.out _; (with_reducible repeat (first | refine blk_drewN ?_ _ | refine blk_drew ?_ | refine blk_alloc ?_ _)); refine blk_far ?_ NB144_145.out _; (with_reducible repeat (first | refine blk_drewN ?_ _ | refine blk_drew ?_ | refine blk_alloc ?_ _)); exact BK144.out⟩, ⟨by (with_reducible repeat (first | refine blk_drewN ?_ _ | refine blk_drew ?_ | refine blk_alloc ?_ _)); refine blk_put (cs := #[.int .i64 a0, .int .i64 a0, .int .i64 0]) ?_ 2 _ rfl; (with_reducible repeat (first | refine blk_drewN ?_ _ | refine blk_drew ?_ | refine blk_alloc ?_ _)); refine blk_put (cs := #[.int .i64 a0, .int .i64 0, .int .i64 0]) ?_ 1 _ rfl; (with_reducible repeat (first | refine blk_drewN ?_ _ | refine blk_drew ?_ | refine blk_alloc ?_ _)); refine blk_put (cs := #[.int .i64 0, .int .i64 0, .int .i64 0]) ?_ 0 _ rfl; (with_reducible repeat (first | refine blk_drewN ?_ _ | refine blk_drew ?_ | refine blk_alloc ?_ _)); exact BK145.out⟩, ⟨by repeat (first | (with_reducible first | exact HB.out | apply below_alloc | apply pw_below_drewN | apply below_drew1 | refine below_set ?_ GE144.out | refine below_set ?_ GE145.out) | exact HB.out)⟩⟩
    case rest =>
      clear HC7
      try clear c1
      try clear p2
      try clear c5
      try clear c13
      try clear c15
      try clear c15b0
      try clear c16
      try clear hcz11_0
      try clear hcz11_1
      try clear hcz11_2
      try clear hcz14_0
      try clear hcz14_1
      try clear hcz14_2
      try clear hcz17_0
      try clear hcz17_1
      try clear hcz17_2
      try clear hfz11_0
      try clear hfz11_1
      try clear hfz11_2
      try clear hfz14_0
      try clear hfz14_1
      try clear hfz14_2
      try clear hfz17_0
      try clear hfz17_1
      try clear hfz17_2
      obtain ⟨kq, x146000_6, x146001_6, x146002_6, HA, HJ6, BK144, BK145, HB⟩ := hcut
      cases kq with
      | zero => exact absurd HA.out (by simp [warrenerlaw15_TagWords.j0])
      | succ kj6 =>
        have H := HA.out
        clear HA
        simp only [warrenerlaw15_TagWords.j0] at H
        by_cases c18 : (t141 == x146000_6 && (t142 == x146001_6 && (t143 == x146002_6))) = true
        · rw [if_pos c18] at H
          have c18b0 : (t141 == x146000_6 && (t142 == x146001_6 && (t143 == x146002_6))) = true := c18
          (try (have c18b1 : decide (t141 = x146000_6 && (t142 == x146001_6 && (t143 == x146002_6))) = true := by simpa using c18))
          (try (have c18b2 : (t141 == x146000_6 && (t142 == x146001_6 && (t143 == x146002_6))) = true := by simpa using c18))
          clear c18
          replace H := Option.bind_eq_some_iff.mp H
          obtain ⟨t146, A190, H⟩ := H
          replace H : (if (t146 == (decide (a0 ≥ 1))) = true then ((tag_Plain.f a2).bind fun bt147 => (if (bt147.1 == a2 && (bt147.2.1 == 0 && (bt147.2.2 == 0))) = true then ((tag_Plain.f a2).bind fun bt150 => ((tag_Is.f bt150.1 bt150.2.1 bt150.2.2).bind fun t153 => (some (!t153)))) else (some false))) else (some false)) = some r := H
          have A19 := Aside0.mk A190
          clear A190
          by_cases c20 : (t146 == (decide (a0 ≥ 1))) = true
          · rw [if_pos c20] at H
            have c20b0 : (t146 == (decide (a0 ≥ 1))) = true := c20
            (try (have c20b1 : decide (t146 = (decide (a0 ≥ 1))) = true := by simpa using c20))
            (try (have c20b2 : (t146 == (decide (a0 ≥ 1))) = true := by simpa using c20))
            clear c20
            replace H := Option.bind_eq_some_iff.mp H
            obtain ⟨⟨t147, t148, t149⟩, A210, H⟩ := H
            replace H : (if (t147 == a2 && (t148 == 0 && (t149 == 0))) = true then ((tag_Plain.f a2).bind fun bt150 => ((tag_Is.f bt150.1 bt150.2.1 bt150.2.2).bind fun t153 => (some (!t153)))) else (some false)) = some r := H
            have A21 := Aside0.mk A210
            clear A210
            by_cases c22 : (t147 == a2 && (t148 == 0 && (t149 == 0))) = true
            · rw [if_pos c22] at H
              have c22b0 : (t147 == a2 && (t148 == 0 && (t149 == 0))) = true := c22
              (try (have c22b1 : decide (t147 = a2 && (t148 == 0 && (t149 == 0))) = true := by simpa using c22))
              (try (have c22b2 : (t147 == a2 && (t148 == 0 && (t149 == 0))) = true := by simpa using c22))
              clear c22
              replace H := Option.bind_eq_some_iff.mp H
              obtain ⟨⟨t150, t151, t152⟩, A230, H⟩ := H
              replace H : ((tag_Is.f t150 t151 t152).bind fun t153 => (some (!t153))) = some r := H
              have A23 := Aside0.mk A230
              clear A230
              replace H := Option.bind_eq_some_iff.mp H
              obtain ⟨t153, A240, H⟩ := H
              replace H : (some (!t153)) = some r := H
              have A24 := Aside0.mk A240
              clear A240
              obtain rfl := Option.some.inj H
              have hnb25 := NB144_145.out
              have hnc25 := NB145_144.out
              have hcz26_0 : wc.cell? ⟨gb144, 0, none⟩ = some (.int .i64 t141) := (blk_cell BK144.out 0).trans rfl
              have hcz26_1 : wc.cell? ⟨gb144, 1, none⟩ = some (.int .i64 t142) := (blk_cell BK144.out 1).trans rfl
              have hcz26_2 : wc.cell? ⟨gb144, 2, none⟩ = some (.int .i64 t143) := (blk_cell BK144.out 2).trans rfl
              have hfz26_0 := blk_frozen BK144.out 0
              have hfz26_1 := blk_frozen BK144.out 1
              have hfz26_2 := blk_frozen BK144.out 2
              have hcz27_0 : wc.cell? ⟨gb145, 0, none⟩ = some (.int .i64 x146000_6) := (blk_cell BK145.out 0).trans rfl
              have hcz27_1 : wc.cell? ⟨gb145, 1, none⟩ = some (.int .i64 x146001_6) := (blk_cell BK145.out 1).trans rfl
              have hcz27_2 : wc.cell? ⟨gb145, 2, none⟩ = some (.int .i64 x146002_6) := (blk_cell BK145.out 2).trans rfl
              have hfz27_0 := blk_frozen BK145.out 0
              have hfz27_1 := blk_frozen BK145.out 1
              have hfz27_2 := blk_frozen BK145.out 2
              go_wp2_with (first | (go_at_call 17; (with_reducible refine (tag_Is.calls t141 t142 t143 t146 _ A19.out).mono ?_); rintro e w28 ⟨rfl, hb⟩; (try clear A19); have n0_ := Aside0.mk (blk_below (g := gb144) (o := .cells #[.int .i64 t141, .int .i64 t142, .int .i64 t143] 34 (0, 0)) (by (with_reducible repeat (first | refine blk_drewN ?_ _ | refine blk_drew ?_ | refine blk_alloc ?_ _)); exact BK144.out) hb); have n1_ := Aside0.mk (blk_below (g := gb145) (o := .cells #[.int .i64 x146000_6, .int .i64 x146001_6, .int .i64 x146002_6] 34 (0, 0)) (by (with_reducible repeat (first | refine blk_drewN ?_ _ | refine blk_drew ?_ | refine blk_alloc ?_ _)); exact BK145.out) hb); have n2_ := Aside0.mk (below_step (by repeat (first | (with_reducible first | exact HB.out | apply below_alloc | apply pw_below_drewN | apply below_drew1 | refine below_set ?_ GE144.out | refine below_set ?_ GE145.out) | exact HB.out)) hb); clear BK144; clear BK145; clear HB; have BK144 := n0_; have BK145 := n1_; have HB := n2_; clear n0_ n1_ n2_; (try clear hb); (try clear hb2); (try clear hk); (try clear hi)) | (go_at_call 18; (with_reducible refine (tag_Plain.calls a2 t147 t148 t149 _ A21.out).mono ?_); rintro e w29 ⟨rfl, hb⟩; (try clear A21); have n0_ := Aside0.mk (blk_below (g := gb144) (o := .cells #[.int .i64 t141, .int .i64 t142, .int .i64 t143] 34 (0, 0)) (by (with_reducible repeat (first | refine blk_drewN ?_ _ | refine blk_drew ?_ | refine blk_alloc ?_ _)); exact BK144.out) hb); have n1_ := Aside0.mk (blk_below (g := gb145) (o := .cells #[.int .i64 x146000_6, .int .i64 x146001_6, .int .i64 x146002_6] 34 (0, 0)) (by (with_reducible repeat (first | refine blk_drewN ?_ _ | refine blk_drew ?_ | refine blk_alloc ?_ _)); exact BK145.out) hb); have n2_ := Aside0.mk (below_step (by repeat (first | (with_reducible first | exact HB.out | apply below_alloc | apply pw_below_drewN | apply below_drew1 | refine below_set ?_ GE144.out | refine below_set ?_ GE145.out) | exact HB.out)) hb); clear BK144; clear BK145; clear HB; have BK144 := n0_; have BK145 := n1_; have HB := n2_; clear n0_ n1_ n2_; (try clear hb); (try clear hb2); (try clear hk); (try clear hi)) | (go_at_call 18; (with_reducible refine (tag_Plain.calls a2 t150 t151 t152 _ A23.out).mono ?_); rintro e w30 ⟨rfl, hb⟩; (try clear A23); have n0_ := Aside0.mk (blk_below (g := gb144) (o := .cells #[.int .i64 t141, .int .i64 t142, .int .i64 t143] 34 (0, 0)) (by (with_reducible repeat (first | refine blk_drewN ?_ _ | refine blk_drew ?_ | refine blk_alloc ?_ _)); exact BK144.out) hb); have n1_ := Aside0.mk (blk_below (g := gb145) (o := .cells #[.int .i64 x146000_6, .int .i64 x146001_6, .int .i64 x146002_6] 34 (0, 0)) (by (with_reducible repeat (first | refine blk_drewN ?_ _ | refine blk_drew ?_ | refine blk_alloc ?_ _)); exact BK145.out) hb); have n2_ := Aside0.mk (below_step (by repeat (first | (with_reducible first | exact HB.out | apply below_alloc | apply pw_below_drewN | apply below_drew1 | refine below_set ?_ GE144.out | refine below_set ?_ GE145.out) | exact HB.out)) hb); clear BK144; clear BK145; clear HB; have BK144 := n0_; have BK145 := n1_; have HB := n2_; clear n0_ n1_ n2_; (try clear hb); (try clear hb2); (try clear hk); (try clear hi)) | (go_at_call 17; (with_reducible refine (tag_Is.calls t150 t151 t152 t153 _ A24.out).mono ?_); rintro e w31 ⟨rfl, hb⟩; (try clear A24); have n0_ := Aside0.mk (blk_below (g := gb144) (o := .cells #[.int .i64 t141, .int .i64 t142, .int .i64 t143] 34 (0, 0)) (by (with_reducible repeat (first | refine blk_drewN ?_ _ | refine blk_drew ?_ | refine blk_alloc ?_ _)); exact BK144.out) hb); have n1_ := Aside0.mk (blk_below (g := gb145) (o := .cells #[.int .i64 x146000_6, .int .i64 x146001_6, .int .i64 x146002_6] 34 (0, 0)) (by (with_reducible repeat (first | refine blk_drewN ?_ _ | refine blk_drew ?_ | refine blk_alloc ?_ _)); exact BK145.out) hb); have n2_ := Aside0.mk (below_step (by repeat (first | (with_reducible first | exact HB.out | apply below_alloc | apply pw_below_drewN | apply below_drew1 | refine below_set ?_ GE144.out | refine below_set ?_ GE145.out) | exact HB.out)) hb); clear BK144; clear BK145; clear HB; have BK144 := n0_; have BK145 := n1_; have HB := n2_; clear n0_ n1_ n2_; (try clear hb); (try clear hb2); (try clear hk); (try clear hi)))
              go_ret
              exact ⟨by first | rfl | (simp [errW_none, errW_some] <;> rfl) | (simp [*, errW_none, errW_some] <;> rfl), by repeat (first | (with_reducible first | exact HB.out | apply below_alloc | apply pw_below_drewN | apply below_drew1 | refine below_set ?_ GE144.out | refine below_set ?_ GE145.out) | exact HB.out)⟩
            · rw [if_neg c22] at H
              have c22b0 : (t147 == a2 && (t148 == 0 && (t149 == 0))) = false := by simpa using c22
              (try (have c22b1 : decide (t147 = a2 && (t148 == 0 && (t149 == 0))) = false := by simpa using c22))
              (try (have c22b2 : (t147 == a2 && (t148 == 0 && (t149 == 0))) = false := by simpa using c22))
              (try (have c22b3 : ¬ (t147 = a2 && (t148 == 0 && (t149 == 0))) := by simpa using c22))
              clear c22
              obtain rfl := Option.some.inj H
              have hnb32 := NB144_145.out
              have hnc32 := NB145_144.out
              have hcz33_0 : wc.cell? ⟨gb144, 0, none⟩ = some (.int .i64 t141) := (blk_cell BK144.out 0).trans rfl
              have hcz33_1 : wc.cell? ⟨gb144, 1, none⟩ = some (.int .i64 t142) := (blk_cell BK144.out 1).trans rfl
              have hcz33_2 : wc.cell? ⟨gb144, 2, none⟩ = some (.int .i64 t143) := (blk_cell BK144.out 2).trans rfl
              have hfz33_0 := blk_frozen BK144.out 0
              have hfz33_1 := blk_frozen BK144.out 1
              have hfz33_2 := blk_frozen BK144.out 2
              have hcz34_0 : wc.cell? ⟨gb145, 0, none⟩ = some (.int .i64 x146000_6) := (blk_cell BK145.out 0).trans rfl
              have hcz34_1 : wc.cell? ⟨gb145, 1, none⟩ = some (.int .i64 x146001_6) := (blk_cell BK145.out 1).trans rfl
              have hcz34_2 : wc.cell? ⟨gb145, 2, none⟩ = some (.int .i64 x146002_6) := (blk_cell BK145.out 2).trans rfl
              have hfz34_0 := blk_frozen BK145.out 0
              have hfz34_1 := blk_frozen BK145.out 1
              have hfz34_2 := blk_frozen BK145.out 2
              go_wp2_with (first | (go_at_call 17; (with_reducible refine (tag_Is.calls t141 t142 t143 t146 _ A19.out).mono ?_); rintro e w35 ⟨rfl, hb⟩; (try clear A19); have n0_ := Aside0.mk (blk_below (g := gb144) (o := .cells #[.int .i64 t141, .int .i64 t142, .int .i64 t143] 34 (0, 0)) (by (with_reducible repeat (first | refine blk_drewN ?_ _ | refine blk_drew ?_ | refine blk_alloc ?_ _)); exact BK144.out) hb); have n1_ := Aside0.mk (blk_below (g := gb145) (o := .cells #[.int .i64 x146000_6, .int .i64 x146001_6, .int .i64 x146002_6] 34 (0, 0)) (by (with_reducible repeat (first | refine blk_drewN ?_ _ | refine blk_drew ?_ | refine blk_alloc ?_ _)); exact BK145.out) hb); have n2_ := Aside0.mk (below_step (by repeat (first | (with_reducible first | exact HB.out | apply below_alloc | apply pw_below_drewN | apply below_drew1 | refine below_set ?_ GE144.out | refine below_set ?_ GE145.out) | exact HB.out)) hb); clear BK144; clear BK145; clear HB; have BK144 := n0_; have BK145 := n1_; have HB := n2_; clear n0_ n1_ n2_; (try clear hb); (try clear hb2); (try clear hk); (try clear hi)) | (go_at_call 18; (with_reducible refine (tag_Plain.calls a2 t147 t148 t149 _ A21.out).mono ?_); rintro e w36 ⟨rfl, hb⟩; (try clear A21); have n0_ := Aside0.mk (blk_below (g := gb144) (o := .cells #[.int .i64 t141, .int .i64 t142, .int .i64 t143] 34 (0, 0)) (by (with_reducible repeat (first | refine blk_drewN ?_ _ | refine blk_drew ?_ | refine blk_alloc ?_ _)); exact BK144.out) hb); have n1_ := Aside0.mk (blk_below (g := gb145) (o := .cells #[.int .i64 x146000_6, .int .i64 x146001_6, .int .i64 x146002_6] 34 (0, 0)) (by (with_reducible repeat (first | refine blk_drewN ?_ _ | refine blk_drew ?_ | refine blk_alloc ?_ _)); exact BK145.out) hb); have n2_ := Aside0.mk (below_step (by repeat (first | (with_reducible first | exact HB.out | apply below_alloc | apply pw_below_drewN | apply below_drew1 | refine below_set ?_ GE144.out | refine below_set ?_ GE145.out) | exact HB.out)) hb); clear BK144; clear BK145; clear HB; have BK144 := n0_; have BK145 := n1_; have HB := n2_; clear n0_ n1_ n2_; (try clear hb); (try clear hb2); (try clear hk); (try clear hi)))
              go_ret
              exact ⟨by first | rfl | (simp [errW_none, errW_some] <;> rfl) | (simp [*, errW_none, errW_some] <;> rfl), by repeat (first | (with_reducible first | exact HB.out | apply below_alloc | apply pw_below_drewN | apply below_drew1 | refine below_set ?_ GE144.out | refine below_set ?_ GE145.out) | exact HB.out)⟩
          · rw [if_neg c20] at H
            have c20b0 : (t146 == (decide (a0 ≥ 1))) = false := by simpa using c20
            (try (have c20b1 : decide (t146 = (decide (a0 ≥ 1))) = false := by simpa using c20))
            (try (have c20b2 : (t146 == (decide (a0 ≥ 1))) = false := by simpa using c20))
            (try (have c20b3 : ¬ (t146 = (decide (a0 ≥ 1))) := by simpa using c20))
            clear c20
            obtain rfl := Option.some.inj H
            have hnb37 := NB144_145.out
            have hnc37 := NB145_144.out
            have hcz38_0 : wc.cell? ⟨gb144, 0, none⟩ = some (.int .i64 t141) := (blk_cell BK144.out 0).trans rfl
            have hcz38_1 : wc.cell? ⟨gb144, 1, none⟩ = some (.int .i64 t142) := (blk_cell BK144.out 1).trans rfl
            have hcz38_2 : wc.cell? ⟨gb144, 2, none⟩ = some (.int .i64 t143) := (blk_cell BK144.out 2).trans rfl
            have hfz38_0 := blk_frozen BK144.out 0
            have hfz38_1 := blk_frozen BK144.out 1
            have hfz38_2 := blk_frozen BK144.out 2
            have hcz39_0 : wc.cell? ⟨gb145, 0, none⟩ = some (.int .i64 x146000_6) := (blk_cell BK145.out 0).trans rfl
            have hcz39_1 : wc.cell? ⟨gb145, 1, none⟩ = some (.int .i64 x146001_6) := (blk_cell BK145.out 1).trans rfl
            have hcz39_2 : wc.cell? ⟨gb145, 2, none⟩ = some (.int .i64 x146002_6) := (blk_cell BK145.out 2).trans rfl
            have hfz39_0 := blk_frozen BK145.out 0
            have hfz39_1 := blk_frozen BK145.out 1
            have hfz39_2 := blk_frozen BK145.out 2
            go_wp2_with (first | (go_at_call 17; (with_reducible refine (tag_Is.calls t141 t142 t143 t146 _ A19.out).mono ?_); rintro e w40 ⟨rfl, hb⟩; (try clear A19); have n0_ := Aside0.mk (blk_below (g := gb144) (o := .cells #[.int .i64 t141, .int .i64 t142, .int .i64 t143] 34 (0, 0)) (by (with_reducible repeat (first | refine blk_drewN ?_ _ | refine blk_drew ?_ | refine blk_alloc ?_ _)); exact BK144.out) hb); have n1_ := Aside0.mk (blk_below (g := gb145) (o := .cells #[.int .i64 x146000_6, .int .i64 x146001_6, .int .i64 x146002_6] 34 (0, 0)) (by (with_reducible repeat (first | refine blk_drewN ?_ _ | refine blk_drew ?_ | refine blk_alloc ?_ _)); exact BK145.out) hb); have n2_ := Aside0.mk (below_step (by repeat (first | (with_reducible first | exact HB.out | apply below_alloc | apply pw_below_drewN | apply below_drew1 | refine below_set ?_ GE144.out | refine below_set ?_ GE145.out) | exact HB.out)) hb); clear BK144; clear BK145; clear HB; have BK144 := n0_; have BK145 := n1_; have HB := n2_; clear n0_ n1_ n2_; (try clear hb); (try clear hb2); (try clear hk); (try clear hi)))
            go_ret
            exact ⟨by first | rfl | (simp [errW_none, errW_some] <;> rfl) | (simp [*, errW_none, errW_some] <;> rfl), by repeat (first | (with_reducible first | exact HB.out | apply below_alloc | apply pw_below_drewN | apply below_drew1 | refine below_set ?_ GE144.out | refine below_set ?_ GE145.out) | exact HB.out)⟩
        · rw [if_neg c18] at H
          have c18b0 : (t141 == x146000_6 && (t142 == x146001_6 && (t143 == x146002_6))) = false := by simpa using c18
          (try (have c18b1 : decide (t141 = x146000_6 && (t142 == x146001_6 && (t143 == x146002_6))) = false := by simpa using c18))
          (try (have c18b2 : (t141 == x146000_6 && (t142 == x146001_6 && (t143 == x146002_6))) = false := by simpa using c18))
          (try (have c18b3 : ¬ (t141 = x146000_6 && (t142 == x146001_6 && (t143 == x146002_6))) := by simpa using c18))
          clear c18
          obtain rfl := Option.some.inj H
          have hnb41 := NB144_145.out
          have hnc41 := NB145_144.out
          have hcz42_0 : wc.cell? ⟨gb144, 0, none⟩ = some (.int .i64 t141) := (blk_cell BK144.out 0).trans rfl
          have hcz42_1 : wc.cell? ⟨gb144, 1, none⟩ = some (.int .i64 t142) := (blk_cell BK144.out 1).trans rfl
          have hcz42_2 : wc.cell? ⟨gb144, 2, none⟩ = some (.int .i64 t143) := (blk_cell BK144.out 2).trans rfl
          have hfz42_0 := blk_frozen BK144.out 0
          have hfz42_1 := blk_frozen BK144.out 1
          have hfz42_2 := blk_frozen BK144.out 2
          have hcz43_0 : wc.cell? ⟨gb145, 0, none⟩ = some (.int .i64 x146000_6) := (blk_cell BK145.out 0).trans rfl
          have hcz43_1 : wc.cell? ⟨gb145, 1, none⟩ = some (.int .i64 x146001_6) := (blk_cell BK145.out 1).trans rfl
          have hcz43_2 : wc.cell? ⟨gb145, 2, none⟩ = some (.int .i64 x146002_6) := (blk_cell BK145.out 2).trans rfl
          have hfz43_0 := blk_frozen BK145.out 0
          have hfz43_1 := blk_frozen BK145.out 1
          have hfz43_2 := blk_frozen BK145.out 2
          go_wp2
          go_ret
          exact ⟨by first | rfl | (simp [errW_none, errW_some] <;> rfl) | (simp [*, errW_none, errW_some] <;> rfl), by repeat (first | (with_reducible first | exact HB.out | apply below_alloc | apply pw_below_drewN | apply below_drew1 | refine below_set ?_ GE144.out | refine below_set ?_ GE145.out) | exact HB.out)⟩
  · replace c5 := Bool.eq_false_iff.mpr c5
    subst c5
    have H1 : (some false) = some r := by rw [if_neg (show ¬ (false = true) by decide)] at H; exact H
    clear H
    have H := H1
    clear H1
    obtain rfl := Option.some.inj H
    go_enter Try.func5, Try.ntmps5
    go_wp2_with (first | ((with_reducible refine gate_callee (f := 15) rfl ?_); refine goesL_ (some 9) rfl rfl Try.func15 (by kernel_rfl) rfl #[] rfl (by (try simp only [List.map_toArray, List.map_cons, List.map_nil]); first | done | rfl | (simp only [List.length_drop, List.length_take]; rfl)) ?_; (with_reducible refine (warrenerlaw15_alive.calls  false _ A4.out).mono ?_); rintro e w44 ⟨rfl, hb⟩; (try clear A4); refine ⟨_, rfl, ?_⟩; have n0_ := Aside0.mk (below_step (by repeat (first | (with_reducible first | exact HB.out | apply below_alloc | apply pw_below_drewN | apply below_drew1) | exact HB.out)) hb); clear HB; have HB := n0_; clear n0_; (try clear hb); (try clear hb2); (try clear hk); (try clear hi)))
    go_ret
    exact ⟨by first | rfl | (simp [errW_none, errW_some] <;> rfl) | (simp [*, errW_none, errW_some] <;> rfl), by repeat (first | (with_reducible first | exact HB.out | apply below_alloc | apply pw_below_drewN | apply below_drew1) | exact HB.out)⟩
/-- THE ONE PURE STATEMENT of warrenerlaw15_TagWords: yours. -/
def warrenerlaw15_TagWords.Pure : Prop := ∀ (y0 : Int) (y1 : Int) (y2 : Int), (Lit.int .i64 y0).wf = true → (Lit.int .i64 y1).wf = true → (Lit.int .i64 y2).wf = true → ∃ k, warrenerlaw15_TagWords.f k y0 y1 y2 = some true
theorem warrenerlaw15_TagWords.walk (P : warrenerlaw15_TagWords.Pure) (y0 : Int) (y1 : Int) (y2 : Int) (w : World)  (g0 : (Lit.int .i64 y0).wf = true) (g1 : (Lit.int .i64 y1).wf = true) (g2 : (Lit.int .i64 y2).wf = true) :
    Calls Try.prog 5 #[.int .i64 y0, .int .i64 y1, .int .i64 y2] w fun e w' => e = .returned (.bool true) ∧ Below w.heap.size w w' := by
  obtain ⟨k, h⟩ := P y0 y1 y2 g0 g1 g2
  refine (warrenerlaw15_TagWords.calls k (y0) (y1) (y2) true w  h).mono ?_
  rintro e w' ⟨rfl, hd⟩
  exact ⟨rfl, hd⟩

end Go.Proofs.Ythllggfimndklab.QTagWords
