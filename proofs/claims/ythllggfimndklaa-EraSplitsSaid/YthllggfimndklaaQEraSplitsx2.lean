-- Written by print2.py (this session's driver of the kit's printer), hand-proved functions among the printed ones.
import Derived.Test.YthllggfimndklaaQEraSplitsx0
import Derived.Test.YthllggfimndklaaQEraSplitsx1
namespace Go.Proofs.Ythllggfimndklaa.QEraSplits
open Go.RowKit Go.Proofs.YthllggfimndklaaW.PrintWords Go.Proofs.YthllggfimndklaaW.PrintLast Go.Proofs.YthllggfimndklaaW.PrintMore
attribute [local go_sem] max2_int min2_int max_two min_two max_three min_three max_four min_four   -- for this text's walks alone
open Go.Proofs.YthllggfimndklaaW.HWords
set_option linter.unusedVariables false
set_option linter.unusedSimpArgs false

attribute [local go_sem high] eqA33
/-! ### num_Add: function 10 -/
def num_Add.f (a0 : Int) (a1 : Int) : Option (Int) := some (wrap64 (a0 + a1))
set_option maxHeartbeats 8000000 in
set_option maxRecDepth 100000 in
theorem num_Add.calls (a0 : Int) (a1 : Int) (r : Int) (w : World) (h : num_Add.f a0 a1 = some r) :
    Calls Try.prog 10 #[.int .i64 a0, .int .i64 a1] w fun e w' => e = .returned (.int .i64 r) ∧ Drawn0 w w' := by
  have H : (some (wrap64 (a0 + a1))) = some r := h
  clear h
  obtain rfl := Option.some.inj H
  go_enter Try.func10, Try.ntmps10
  go_wp2
  go_ret
  exact ⟨by first | rfl | (simp; done) | (simp [*]; done), by repeat (first | exact Drawn0.refl _ | apply Drawn0.step)⟩

/-! ### num_Mul: function 12 -/
def num_Mul.f (a0 : Int) (a1 : Int) : Option (Int) := some (wrap64 (a0 * a1))
set_option maxHeartbeats 8000000 in
set_option maxRecDepth 100000 in
theorem num_Mul.calls (a0 : Int) (a1 : Int) (r : Int) (w : World) (h : num_Mul.f a0 a1 = some r) :
    Calls Try.prog 12 #[.int .i64 a0, .int .i64 a1] w fun e w' => e = .returned (.int .i64 r) ∧ Drawn0 w w' := by
  have H : (some (wrap64 (a0 * a1))) = some r := h
  clear h
  obtain rfl := Option.some.inj H
  go_enter Try.func12, Try.ntmps12
  go_wp2
  go_ret
  exact ⟨by first | rfl | (simp; done) | (simp [*]; done), by repeat (first | exact Drawn0.refl _ | apply Drawn0.step)⟩

/-! ### era_Mark: function 18 -/
def era_Mark.f (a0 : Int) : Option (Int) := (num_Mul.f 2 a0).bind fun t101 => ((num_Add.f t101 1).bind fun t102 => (some t102))
set_option maxHeartbeats 8000000 in
set_option maxRecDepth 100000 in
theorem era_Mark.calls (a0 : Int) (r : Int) (w : World) (h : era_Mark.f a0 = some r) :
    Calls Try.prog 18 #[.int .i64 a0] w fun e w' => e = .returned (.int .i64 r) ∧ Drawn0 w w' := by
  have H : ((num_Mul.f 2 a0).bind fun t101 => ((num_Add.f t101 1).bind fun t102 => (some t102))) = some r := h
  clear h
  replace H := Option.bind_eq_some_iff.mp H
  obtain ⟨t101, A20, H⟩ := H
  replace H : ((num_Add.f t101 1).bind fun t102 => (some t102)) = some r := H
  have A2 := Aside0.mk A20
  clear A20
  replace H := Option.bind_eq_some_iff.mp H
  obtain ⟨t102, A30, H⟩ := H
  replace H : (some t102) = some r := H
  have A3 := Aside0.mk A30
  clear A30
  obtain rfl := Option.some.inj H
  go_enter Try.func18, Try.ntmps18
  go_wp2_with (first | ((with_reducible refine gate_callee (f := 12) rfl ?_); refine goesL_ (some 4) rfl rfl Try.func12 (by kernel_rfl) rfl #[.int .i64 2, .int .i64 a0] rfl (by (try simp only [List.map_toArray, List.map_cons, List.map_nil]); first | done | rfl | (simp only [List.length_drop, List.length_take]; rfl)) ?_; (with_reducible refine (num_Mul.calls 2 a0 t101 _ A2.out).mono ?_); rintro e w' ⟨rfl, ⟨nd, rfl⟩⟩; refine ⟨_, rfl, ?_⟩) | ((with_reducible refine gate_callee (f := 10) rfl ?_); refine goesL_ (some 5) rfl rfl Try.func10 (by kernel_rfl) rfl #[.int .i64 t101, .int .i64 1] rfl (by (try simp only [List.map_toArray, List.map_cons, List.map_nil]); first | done | rfl | (simp only [List.length_drop, List.length_take]; rfl)) ?_; (with_reducible refine (num_Add.calls t101 1 t102 _ A3.out).mono ?_); rintro e w' ⟨rfl, ⟨nd, rfl⟩⟩; refine ⟨_, rfl, ?_⟩))
  go_ret
  exact ⟨by first | rfl | (simp; done) | (simp [*]; done), by repeat (first | exact Drawn0.refl _ | apply Drawn0.step)⟩

/-! ### era_Agrees: function 19 -/
def era_Agrees.f (a0 : Int) (a1 : Int) : Option (Bool) := if a0 = 0 then (some true) else ((era_Mark.f a1).bind fun t103 => (some (a0 == t103)))
set_option maxHeartbeats 8000000 in
set_option maxRecDepth 100000 in
theorem era_Agrees.calls (a0 : Int) (a1 : Int) (r : Bool) (w : World) (h : era_Agrees.f a0 a1 = some r) :
    Calls Try.prog 19 #[.int .i64 a0, .int .i64 a1] w fun e w' => e = .returned (.bool r) ∧ Drawn0 w w' := by
  have H : (if a0 = 0 then (some true) else ((era_Mark.f a1).bind fun t103 => (some (a0 == t103)))) = some r := h
  clear h
  by_cases c3 : a0 = 0
  · rw [if_pos c3] at H
    have c3b0 : (a0 == 0) = true := beq_iff_eq.mpr c3
    have c3b1 : (a0 != 0) = false := bne_eq_false_iff_eq.mpr c3
    clear c3
    obtain rfl := Option.some.inj H
    go_enter Try.func19, Try.ntmps19
    go_wp2
    go_ret
    exact ⟨by first | rfl | (simp; done) | (simp [*]; done), by repeat (first | exact Drawn0.refl _ | apply Drawn0.step)⟩
  · rw [if_neg c3] at H
    have c3b0 : (a0 == 0) = false := beq_eq_false_iff_ne.mpr c3
    have c3b1 : (a0 != 0) = true := bne_iff_ne.mpr c3
    replace H := Option.bind_eq_some_iff.mp H
    obtain ⟨t103, A40, H⟩ := H
    replace H : (some (a0 == t103)) = some r := H
    have A4 := Aside0.mk A40
    clear A40
    obtain rfl := Option.some.inj H
    go_enter Try.func19, Try.ntmps19
    go_wp2_with (first | (go_at_call 18; (with_reducible refine (era_Mark.calls a1 t103 _ A4.out).mono ?_); rintro e w' ⟨rfl, ⟨nd, rfl⟩⟩))
    go_ret
    exact ⟨by first | rfl | (simp; done) | (simp [*]; done), by repeat (first | exact Drawn0.refl _ | apply Drawn0.step)⟩

/-! ### num_Sub: function 11 -/
def num_Sub.f (a0 : Int) (a1 : Int) : Option (Int) := some (wrap64 (a0 - a1))
set_option maxHeartbeats 8000000 in
set_option maxRecDepth 100000 in
theorem num_Sub.calls (a0 : Int) (a1 : Int) (r : Int) (w : World) (h : num_Sub.f a0 a1 = some r) :
    Calls Try.prog 11 #[.int .i64 a0, .int .i64 a1] w fun e w' => e = .returned (.int .i64 r) ∧ Drawn0 w w' := by
  have H : (some (wrap64 (a0 - a1))) = some r := h
  clear h
  obtain rfl := Option.some.inj H
  go_enter Try.func11, Try.ntmps11
  go_wp2
  go_ret
  exact ⟨by first | rfl | (simp; done) | (simp [*]; done), by repeat (first | exact Drawn0.refl _ | apply Drawn0.step)⟩

/-! ### era_Split: function 20 (proved by hand) -/
def era_Split.stays (e : Int) (x : S33) : Bool := decide (e < wrap64 (e - 2)) || decide (wrap64 (e - 2) < x.f2)
def era_Split.fr (e : Int) (l : List S33) : List S33 := l.filter (fun x => !era_Split.stays e x)
def era_Split.ke (e : Int) (l : List S33) : List S33 := l.filter (fun x => era_Split.stays e x)
theorem era_Split.take {l : List S33} {k : Nat} (h : k < l.length) : l.take (k + 1) = l.take k ++ [rd_T33 l k] := by
  rw [List.take_succ_eq_append_getElem h]
  simp [rd_T33, List.getD_eq_getElem?_getD, List.getElem?_eq_getElem h]
theorem era_Split.step_ke {e : Int} {l : List S33} {k : Nat} (h : k < l.length) (hs : era_Split.stays e (rd_T33 l k) = true) : era_Split.fr e (l.take (k + 1)) = era_Split.fr e (l.take k) ∧ era_Split.ke e (l.take (k + 1)) = era_Split.ke e (l.take k) ++ [rd_T33 l k] := by
  rw [era_Split.take h]
  simp [era_Split.fr, era_Split.ke, List.filter_append, hs]
theorem era_Split.step_fr {e : Int} {l : List S33} {k : Nat} (h : k < l.length) (hs : era_Split.stays e (rd_T33 l k) = false) : era_Split.fr e (l.take (k + 1)) = era_Split.fr e (l.take k) ++ [rd_T33 l k] ∧ era_Split.ke e (l.take (k + 1)) = era_Split.ke e (l.take k) := by
  rw [era_Split.take h]
  simp [era_Split.fr, era_Split.ke, List.filter_append, hs]
theorem era_Split.lim (l : List S33) (p : S33 → Bool) (k : Nat) (h : k < l.length) (hl : l.length * 24 < 140737488355328) : ((l.take k).filter p).length + 1 ≤ 140737488355328 / 24 := by
  have h1 := List.length_filter_le p (l.take k)
  rw [List.length_take] at h1
  omega

set_option maxHeartbeats 8000000 in
set_option maxRecDepth 100000 in
theorem era_Split.calls0 (A0 : Option Addr) (c0 : Nat) (l0 : List (S33)) (a1 : Int) (w : World) (hr0 : Kd.C k33 w A0 l0.length l0) (hc0 : l0.length ≤ c0) (hlim : l0.length * 24 < 140737488355328) :
    Calls Try.prog 20 #[.slice A0 l0.length c0, .int .i64 a1] w fun e w' => ∃ v0_ v1_ : Value, e = .returned (.tuple #[v0_, v1_]) ∧ Kd.R k33 33 w' w.heap.size (fun k_ => some k_ ≠ (v1_ : Value).ownBlock) v0_ (era_Split.fr a1 l0) ∧ Kd.R k33 33 w' w.heap.size (fun k_ => some k_ ≠ (v0_ : Value).ownBlock) v1_ (era_Split.ke a1 l0) ∧ Below w.heap.size w w' := by
  have HR0 := Aside0.mk hr0
  have HC0 := Aside0.mk hc0
  have LIM : Aside0 (∀ k, k < l0.length → ∀ p, (List.filter p (List.take k l0)).length + 1 ≤ 140737488355328 / 24) := ⟨fun k hk p => era_Split.lim l0 p k hk hlim⟩
  have LEN := Aside0.mk hr0.2.1
  clear hr0 hc0 hlim
  have HB := Aside0.mk (Below.refl w.heap.size w)
  go_enter Try.func20, Try.ntmps20
  go_wp2
  go_loopw [13] (fun v13 wr => ∃ (k : Nat) (v0 v1 : Value), k ≤ l0.length ∧ v13 = .int .i64 k ∧ Aside0 (wr.heap[w.heap.size]? = some (.cells #[v0, v1] 38 (0, 0))) ∧ Aside0 (Kd.R k33 33 wr w.heap.size (okb w.heap.size v1) v0 (era_Split.fr a1 (l0.take k))) ∧ Aside0 (Kd.R k33 33 wr w.heap.size (okb w.heap.size v0) v1 (era_Split.ke a1 (l0.take k))) ∧ Aside0 (Below w.heap.size w wr)) (fun i _ => l0.length - (intOf i).toNat)
  case atStart => exact ⟨0, _, _, Nat.zero_le _, rfl, ⟨heap_alloc_new _ _⟩, ⟨Kd.R_nil _ _ _ _ _⟩, ⟨Kd.R_nil _ _ _ _ _⟩, ⟨below_alloc HB.out _⟩⟩
  case round =>
    obtain ⟨k, v0, v1, hk, rfl, HO, H0, H1, HB'⟩ := hrel
    have hlen := LEN.out
    by_cases hlt : k < l0.length
    · obtain ⟨ad107, e107, hx107_0, hx107_1, hx107_2⟩ := at_T33 (Kd.C_below HR0.out HB'.out) (k : Int) (by omega) (by omega)
      subst e107
      rw [Int.toNat_natCast] at hx107_0 hx107_1 hx107_2
      by_cases c : a1 < wrap64 (a1 - 2)
      · have hs : era_Split.stays a1 (rd_T33 l0 k) = true := by simp [era_Split.stays, c]
        have FS := Aside0.mk (era_Split.step_ke hlt hs)
        clear hs
        go_wp2_with (go_at_call 11; refine (num_Sub.calls a1 2 _ _ rfl).mono ?_; rintro e w' ⟨rfl, ⟨nd, rfl⟩⟩)
        obtain ⟨W, hW⟩ : ∃ W, W = ((wr.alloc (Obj.cells #[Value.int IntKind.i64 (rd_T33 l0 ↑k).f0, Value.int IntKind.i64 (rd_T33 l0 ↑k).f1, Value.int IntKind.i64 (rd_T33 l0 ↑k).f2] 33)).drewN nd) := ⟨_, rfl⟩
        rw [← hW]
        have hz : wr.heap.size < W.heap.size := by rw [hW]; simp
        have hblk : W.heap[w.heap.size]? = some (.cells #[v0, v1] 38 (0, 0)) := by rw [hW]; exact blk_drewN (blk_alloc HO.out _) _
        have hbox : W.heap[wr.heap.size]? = some (.cells #[Value.int IntKind.i64 (rd_T33 l0 ↑k).f0, Value.int IntKind.i64 (rd_T33 l0 ↑k).f1, Value.int IntKind.i64 (rd_T33 l0 ↑k).f2] 33 (0, 0)) := by rw [hW]; exact blk_drewN (blk_new _ _) _
        have q0 := blk_cell hblk 0
        have q1 := blk_cell hblk 1
        have r0 := blk_frozen hblk 0
        have r1 := blk_frozen hblk 1
        have b0 := blk_cell hbox 0
        have b1 := blk_cell hbox 1
        have b2 := blk_cell hbox 2
        simp only [List.getElem?_toArray, List.getElem?_cons_zero, List.getElem?_cons_succ] at q0 q1 b0 b1 b2
        have HW : Below w.heap.size w W := by rw [hW]; exact pw_below_drewN (below_alloc HB'.out _) nd
        have H0W : Kd.R k33 33 W w.heap.size (okb w.heap.size v1) v0 (era_Split.fr a1 (l0.take k)) := by rw [hW]; exact Kd.R_drewN (Kd.R_alloc H0.out _) nd
        have H1W : Kd.R k33 33 W w.heap.size (okb w.heap.size v0) v1 (era_Split.ke a1 (l0.take k)) := by rw [hW]; exact Kd.R_drewN (Kd.R_alloc H1.out _) nd
        have hzz : w.heap.size < W.heap.size := by rw [hW]; have := blk_lt HO.out; simp; omega
        have HS := Aside0.mk (And.intro hzz (And.intro hblk (And.intro HW (And.intro H0W H1W))))
        clear hW hblk hbox HW H0W H1W HO H0 H1 HB'
        go_region_law (refine R_append_any k33 (w0 := w) w.heap.size rfl (.tmp 31) (.tmp 33) 31 33 (.agg #[.int .i64 0, .int .i64 0, .int .i64 0]) 24 ?aP Try.underlying31 info33 rfl (by decide) (by decide) v1 (era_Split.ke a1 (l0.take k)) (rd_T33 l0 k) [.int .i64 (rd_T33 l0 k).f0, .int .i64 (rd_T33 l0 k).f1, .int .i64 (rd_T33 l0 k).f2] (okb w.heap.size v0) (fun _ => False) ?aS ⟨W.heap.size, 0, none⟩ ?aX (k33_mkM _ _ _ _) (fun _ h => h.elim) ?aF ?aC ?aO ?aB ?aZ ?aL ?_; (case aP => rfl); (case aS => rfl); (case aX => rfl); (case aC => exact cells_new_drew1 _ _ _); (case aF => (refine okb_fresh (Kd.R_drew (Kd.R_alloc HS.out.2.2.2.1 _)) ?_; simp; omega)); (case aO => exact Kd.R_drew (Kd.R_alloc HS.out.2.2.2.2 _)); (case aB => exact below_drew (below_alloc HS.out.2.2.1 _)); (case aZ => (simp; omega)); (case aL => (have := LIM.out k hlt; unfold era_Split.ke; have := this (fun x => era_Split.stays a1 x); omega)); intro v9 w9 ho hb hg hat; obtain ⟨A9, n9, c9, rfl⟩ := R_form ho; have bq := two_blk (blk_drew (blk_alloc HS.out.2.1 _)) (Kd.R_drew (Kd.R_alloc HS.out.2.2.2.2 _)) (by decide) hg; have s0 := blk_cell bq 0; have s1 := blk_cell bq 1; have t0 := blk_frozen bq 0; have t1 := blk_frozen bq 1; simp only [List.getElem?_toArray, List.getElem?_cons_zero, List.getElem?_cons_succ] at s0 s1; have HT := Aside0.mk (And.intro bq (And.intro (two_rows (Kd.R_drew (Kd.R_alloc HS.out.2.2.2.1 _)) ho hg hat 1) (below_far (p := ⟨w.heap.size, 1, none⟩) hb (Nat.le_refl _) (.slice A9 n9 c9)))); clear bq ho hb hg hat)
        all_goals
          go_wp2
          go_roundw
          case measure => simp [intOf]; omega
          case rel => exact ⟨k + 1, v0, _, by omega, by go_num, ⟨blk_set HT.out.1 1 _⟩, ⟨by rw [FS.out.1]; exact HT.out.2.1.1⟩, ⟨by rw [FS.out.2]; exact HT.out.2.1.2⟩, ⟨HT.out.2.2⟩⟩
      · by_cases c2 : wrap64 (a1 - 2) < (rd_T33 l0 ↑k).f2
        · have hs : era_Split.stays a1 (rd_T33 l0 k) = true := by simp [era_Split.stays, c2]
          have FS := Aside0.mk (era_Split.step_ke hlt hs)
          clear hs
          go_wp2_with (go_at_call 11; refine (num_Sub.calls a1 2 _ _ rfl).mono ?_; rintro e w' ⟨rfl, ⟨nd, rfl⟩⟩)
          obtain ⟨W, hW⟩ : ∃ W, W = ((wr.alloc (Obj.cells #[Value.int IntKind.i64 (rd_T33 l0 ↑k).f0, Value.int IntKind.i64 (rd_T33 l0 ↑k).f1, Value.int IntKind.i64 (rd_T33 l0 ↑k).f2] 33)).drewN nd) := ⟨_, rfl⟩
          rw [← hW]
          have hz : wr.heap.size < W.heap.size := by rw [hW]; simp
          have hblk : W.heap[w.heap.size]? = some (.cells #[v0, v1] 38 (0, 0)) := by rw [hW]; exact blk_drewN (blk_alloc HO.out _) _
          have hbox : W.heap[wr.heap.size]? = some (.cells #[Value.int IntKind.i64 (rd_T33 l0 ↑k).f0, Value.int IntKind.i64 (rd_T33 l0 ↑k).f1, Value.int IntKind.i64 (rd_T33 l0 ↑k).f2] 33 (0, 0)) := by rw [hW]; exact blk_drewN (blk_new _ _) _
          have q0 := blk_cell hblk 0
          have q1 := blk_cell hblk 1
          have r0 := blk_frozen hblk 0
          have r1 := blk_frozen hblk 1
          have b0 := blk_cell hbox 0
          have b1 := blk_cell hbox 1
          have b2 := blk_cell hbox 2
          simp only [List.getElem?_toArray, List.getElem?_cons_zero, List.getElem?_cons_succ] at q0 q1 b0 b1 b2
          have HW : Below w.heap.size w W := by rw [hW]; exact pw_below_drewN (below_alloc HB'.out _) nd
          have H0W : Kd.R k33 33 W w.heap.size (okb w.heap.size v1) v0 (era_Split.fr a1 (l0.take k)) := by rw [hW]; exact Kd.R_drewN (Kd.R_alloc H0.out _) nd
          have H1W : Kd.R k33 33 W w.heap.size (okb w.heap.size v0) v1 (era_Split.ke a1 (l0.take k)) := by rw [hW]; exact Kd.R_drewN (Kd.R_alloc H1.out _) nd
          have hzz : w.heap.size < W.heap.size := by rw [hW]; have := blk_lt HO.out; simp; omega
          have HS := Aside0.mk (And.intro hzz (And.intro hblk (And.intro HW (And.intro H0W H1W))))
          clear hW hblk hbox HW H0W H1W HO H0 H1 HB'
          go_region_law (refine R_append_any k33 (w0 := w) w.heap.size rfl (.tmp 31) (.tmp 33) 31 33 (.agg #[.int .i64 0, .int .i64 0, .int .i64 0]) 24 ?aP Try.underlying31 info33 rfl (by decide) (by decide) v1 (era_Split.ke a1 (l0.take k)) (rd_T33 l0 k) [.int .i64 (rd_T33 l0 k).f0, .int .i64 (rd_T33 l0 k).f1, .int .i64 (rd_T33 l0 k).f2] (okb w.heap.size v0) (fun _ => False) ?aS ⟨W.heap.size, 0, none⟩ ?aX (k33_mkM _ _ _ _) (fun _ h => h.elim) ?aF ?aC ?aO ?aB ?aZ ?aL ?_; (case aP => rfl); (case aS => rfl); (case aX => rfl); (case aC => exact cells_new_drew1 _ _ _); (case aF => (refine okb_fresh (Kd.R_drew (Kd.R_alloc HS.out.2.2.2.1 _)) ?_; simp; omega)); (case aO => exact Kd.R_drew (Kd.R_alloc HS.out.2.2.2.2 _)); (case aB => exact below_drew (below_alloc HS.out.2.2.1 _)); (case aZ => (simp; omega)); (case aL => (have := LIM.out k hlt; unfold era_Split.ke; have := this (fun x => era_Split.stays a1 x); omega)); intro v9 w9 ho hb hg hat; obtain ⟨A9, n9, c9, rfl⟩ := R_form ho; have bq := two_blk (blk_drew (blk_alloc HS.out.2.1 _)) (Kd.R_drew (Kd.R_alloc HS.out.2.2.2.2 _)) (by decide) hg; have s0 := blk_cell bq 0; have s1 := blk_cell bq 1; have t0 := blk_frozen bq 0; have t1 := blk_frozen bq 1; simp only [List.getElem?_toArray, List.getElem?_cons_zero, List.getElem?_cons_succ] at s0 s1; have HT := Aside0.mk (And.intro bq (And.intro (two_rows (Kd.R_drew (Kd.R_alloc HS.out.2.2.2.1 _)) ho hg hat 1) (below_far (p := ⟨w.heap.size, 1, none⟩) hb (Nat.le_refl _) (.slice A9 n9 c9)))); clear bq ho hb hg hat)
          all_goals
            go_wp2
            go_roundw
            case measure => simp [intOf]; omega
            case rel => exact ⟨k + 1, v0, _, by omega, by go_num, ⟨blk_set HT.out.1 1 _⟩, ⟨by rw [FS.out.1]; exact HT.out.2.1.1⟩, ⟨by rw [FS.out.2]; exact HT.out.2.1.2⟩, ⟨HT.out.2.2⟩⟩
        · have hs : era_Split.stays a1 (rd_T33 l0 k) = false := by simp [era_Split.stays, c, c2]
          have FS := Aside0.mk (era_Split.step_fr hlt hs)
          clear hs
          go_wp2_with (go_at_call 11; refine (num_Sub.calls a1 2 _ _ rfl).mono ?_; rintro e w' ⟨rfl, ⟨nd, rfl⟩⟩)
          obtain ⟨W, hW⟩ : ∃ W, W = ((wr.alloc (Obj.cells #[Value.int IntKind.i64 (rd_T33 l0 ↑k).f0, Value.int IntKind.i64 (rd_T33 l0 ↑k).f1, Value.int IntKind.i64 (rd_T33 l0 ↑k).f2] 33)).drewN nd) := ⟨_, rfl⟩
          rw [← hW]
          have hz : wr.heap.size < W.heap.size := by rw [hW]; simp
          have hblk : W.heap[w.heap.size]? = some (.cells #[v0, v1] 38 (0, 0)) := by rw [hW]; exact blk_drewN (blk_alloc HO.out _) _
          have hbox : W.heap[wr.heap.size]? = some (.cells #[Value.int IntKind.i64 (rd_T33 l0 ↑k).f0, Value.int IntKind.i64 (rd_T33 l0 ↑k).f1, Value.int IntKind.i64 (rd_T33 l0 ↑k).f2] 33 (0, 0)) := by rw [hW]; exact blk_drewN (blk_new _ _) _
          have q0 := blk_cell hblk 0
          have q1 := blk_cell hblk 1
          have r0 := blk_frozen hblk 0
          have r1 := blk_frozen hblk 1
          have b0 := blk_cell hbox 0
          have b1 := blk_cell hbox 1
          have b2 := blk_cell hbox 2
          simp only [List.getElem?_toArray, List.getElem?_cons_zero, List.getElem?_cons_succ] at q0 q1 b0 b1 b2
          have HW : Below w.heap.size w W := by rw [hW]; exact pw_below_drewN (below_alloc HB'.out _) nd
          have H0W : Kd.R k33 33 W w.heap.size (okb w.heap.size v1) v0 (era_Split.fr a1 (l0.take k)) := by rw [hW]; exact Kd.R_drewN (Kd.R_alloc H0.out _) nd
          have H1W : Kd.R k33 33 W w.heap.size (okb w.heap.size v0) v1 (era_Split.ke a1 (l0.take k)) := by rw [hW]; exact Kd.R_drewN (Kd.R_alloc H1.out _) nd
          have hzz : w.heap.size < W.heap.size := by rw [hW]; have := blk_lt HO.out; simp; omega
          have HS := Aside0.mk (And.intro hzz (And.intro hblk (And.intro HW (And.intro H0W H1W))))
          clear hW hblk hbox HW H0W H1W HO H0 H1 HB'
          go_region_law (refine R_append_any k33 (w0 := w) w.heap.size rfl (.tmp 31) (.tmp 33) 31 33 (.agg #[.int .i64 0, .int .i64 0, .int .i64 0]) 24 ?aP Try.underlying31 info33 rfl (by decide) (by decide) v0 (era_Split.fr a1 (l0.take k)) (rd_T33 l0 k) [.int .i64 (rd_T33 l0 k).f0, .int .i64 (rd_T33 l0 k).f1, .int .i64 (rd_T33 l0 k).f2] (okb w.heap.size v1) (fun _ => False) ?aS ⟨W.heap.size, 0, none⟩ ?aX (k33_mkM _ _ _ _) (fun _ h => h.elim) ?aF ?aC ?aO ?aB ?aZ ?aL ?_; (case aP => rfl); (case aS => rfl); (case aX => rfl); (case aC => exact cells_new_drew1 _ _ _); (case aF => (refine okb_fresh (Kd.R_drew (Kd.R_alloc HS.out.2.2.2.2 _)) ?_; simp; omega)); (case aO => exact Kd.R_drew (Kd.R_alloc HS.out.2.2.2.1 _)); (case aB => exact below_drew (below_alloc HS.out.2.2.1 _)); (case aZ => (simp; omega)); (case aL => (have := LIM.out k hlt; unfold era_Split.fr; have := this (fun x => !era_Split.stays a1 x); omega)); intro v9 w9 ho hb hg hat; obtain ⟨A9, n9, c9, rfl⟩ := R_form ho; have bq := two_blk (blk_drew (blk_alloc HS.out.2.1 _)) (Kd.R_drew (Kd.R_alloc HS.out.2.2.2.1 _)) (by decide) hg; have s0 := blk_cell bq 0; have s1 := blk_cell bq 1; have t0 := blk_frozen bq 0; have t1 := blk_frozen bq 1; simp only [List.getElem?_toArray, List.getElem?_cons_zero, List.getElem?_cons_succ] at s0 s1; have HT := Aside0.mk (And.intro bq (And.intro (two_rows (Kd.R_drew (Kd.R_alloc HS.out.2.2.2.2 _)) ho hg hat 0) (below_far (p := ⟨w.heap.size, 0, none⟩) hb (Nat.le_refl _) (.slice A9 n9 c9)))); clear bq ho hb hg hat)
          all_goals
            go_wp2
            go_roundw
            case measure => simp [intOf]; omega
            case rel => exact ⟨k + 1, _, v1, by omega, by go_num, ⟨blk_set HT.out.1 0 _⟩, ⟨by rw [FS.out.1]; exact HT.out.2.1.2⟩, ⟨by rw [FS.out.2]; exact HT.out.2.1.1⟩, ⟨HT.out.2.2⟩⟩
    · have hkn : k = l0.length := by omega
      have q0 := blk_cell HO.out 0
      have q1 := blk_cell HO.out 1
      simp only [List.getElem?_toArray, List.getElem?_cons_zero, List.getElem?_cons_succ] at q0 q1
      go_wp2
      go_quiet (fail)
      go_wp2
      go_ret2
      have e1 : l0.take k = l0 := by rw [hkn]; exact List.take_length
      rw [e1] at H0 H1
      exact ⟨_, _, rfl, Kd.R_drewN (Kd.R_mono H0.out (fun _ h => h.2)) _, Kd.R_drewN (Kd.R_mono H1.out (fun _ h => h.2)) _, pw_below_drewN HB'.out _⟩
def era_Split.f (l0 : List (S33)) (a1 : Int) : Option ((List (S33)) × (List (S33))) := if l0.length * 24 < 140737488355328 then some (era_Split.fr a1 l0, era_Split.ke a1 l0) else none
theorem era_Split.calls (A0 : Option Addr) (c0 : Nat) (l0 : List (S33)) (a1 : Int) (r1 : List (S33)) (r2 : List (S33)) (w : World) (hr0 : Kd.C k33 w A0 l0.length l0) (hc0 : l0.length ≤ c0) (h : era_Split.f l0 a1 = some (r1, r2)) :
    Calls Try.prog 20 #[.slice A0 l0.length c0, .int .i64 a1] w fun e w' => ∃ v0_ v1_ : Value, e = .returned (.tuple #[v0_, v1_]) ∧ Kd.R k33 33 w' w.heap.size (fun k_ => some k_ ≠ (v1_ : Value).ownBlock) v0_ r1 ∧ Kd.R k33 33 w' w.heap.size (fun k_ => some k_ ≠ (v0_ : Value).ownBlock) v1_ r2 ∧ Below w.heap.size w w' := by
  unfold era_Split.f at h
  by_cases hl : l0.length * 24 < 140737488355328
  · rw [if_pos hl] at h
    simp only [Option.some.injEq, Prod.mk.injEq] at h
    obtain ⟨rfl, rfl⟩ := h
    exact era_Split.calls0 A0 c0 l0 a1 w hr0 hc0 hl
  · rw [if_neg hl] at h
    cases h

/-! ### warrenerlaw22_alive: function 17 -/
def warrenerlaw22_alive.f  : Option (Bool) := (era_Split.f (([(⟨1, 0, 3⟩ : S33), (⟨2, 0, 4⟩ : S33)] : List (S33))) 5).bind fun bt107 => (if (bt107.1.length : Int) = 1 then (if (bt107.2.length : Int) = 1 then ((era_Mark.f 3).bind fun t113 => (if t113 = 7 then ((era_Agrees.f 7 3).bind fun t114 => (if t114 = true then ((era_Agrees.f 0 3).bind fun t115 => (if t115 = true then ((era_Agrees.f 5 3).bind fun t116 => (some (!t116))) else (some false))) else (some false))) else (some false))) else (some false)) else (some false))
set_option maxHeartbeats 8000000 in
set_option maxRecDepth 100000 in
theorem warrenerlaw22_alive.calls  (r : Bool) (w : World) (h : warrenerlaw22_alive.f  = some r) :
    Calls Try.prog 17 #[] w fun e w' => e = .returned (.bool r) ∧ Below w.heap.size w w' := by
  have hu33 := Try.underlying33
  have HB := Aside0.mk (Below.refl w.heap.size w)
  have H : ((era_Split.f (([(⟨1, 0, 3⟩ : S33), (⟨2, 0, 4⟩ : S33)] : List (S33))) 5).bind fun bt107 => (if (bt107.1.length : Int) = 1 then (if (bt107.2.length : Int) = 1 then ((era_Mark.f 3).bind fun t113 => (if t113 = 7 then ((era_Agrees.f 7 3).bind fun t114 => (if t114 = true then ((era_Agrees.f 0 3).bind fun t115 => (if t115 = true then ((era_Agrees.f 5 3).bind fun t116 => (some (!t116))) else (some false))) else (some false))) else (some false))) else (some false)) else (some false))) = some r := h
  clear h
  obtain ⟨y104, hy104⟩ : ∃ y_ : List (S33), y_ = (([(⟨1, 0, 3⟩ : S33), (⟨2, 0, 4⟩ : S33)] : List (S33))) := ⟨_, rfl⟩
  replace H : ((era_Split.f y104 5).bind fun bt107 => (if (bt107.1.length : Int) = 1 then (if (bt107.2.length : Int) = 1 then ((era_Mark.f 3).bind fun t113 => (if t113 = 7 then ((era_Agrees.f 7 3).bind fun t114 => (if t114 = true then ((era_Agrees.f 0 3).bind fun t115 => (if t115 = true then ((era_Agrees.f 5 3).bind fun t116 => (some (!t116))) else (some false))) else (some false))) else (some false))) else (some false)) else (some false))) = some r := by first | (rw [hy104]; with_reducible exact H) | (have H2_ := (Option.bind_some _ _).symm.trans H; rw [hy104]; with_reducible exact H2_) | (have H2_ := (Option.bind_some _ _).symm.trans H; with_reducible exact H2_) | with_reducible exact H | (rw [hy104]; exact H) | exact H
  have Ny104 := Aside0.mk hy104
  clear hy104
  replace H := Option.bind_eq_some_iff.mp H
  obtain ⟨⟨t107, t108⟩, A10, H⟩ := H
  replace H : (if (t107.length : Int) = 1 then (if (t108.length : Int) = 1 then ((era_Mark.f 3).bind fun t113 => (if t113 = 7 then ((era_Agrees.f 7 3).bind fun t114 => (if t114 = true then ((era_Agrees.f 0 3).bind fun t115 => (if t115 = true then ((era_Agrees.f 5 3).bind fun t116 => (some (!t116))) else (some false))) else (some false))) else (some false))) else (some false)) else (some false)) = some r := H
  have A1 := Aside0.mk A10
  clear A10
  by_cases c2 : (t107.length : Int) = 1
  · rw [if_pos c2] at H
    have c2b0 : ((t107.length : Int) == 1) = true := beq_iff_eq.mpr c2
    have c2b1 : ((t107.length : Int) != 1) = false := bne_eq_false_iff_eq.mpr c2
    clear c2
    by_cases c3 : (t108.length : Int) = 1
    · rw [if_pos c3] at H
      have c3b0 : ((t108.length : Int) == 1) = true := beq_iff_eq.mpr c3
      have c3b1 : ((t108.length : Int) != 1) = false := bne_eq_false_iff_eq.mpr c3
      clear c3
      replace H := Option.bind_eq_some_iff.mp H
      obtain ⟨t113, A40, H⟩ := H
      replace H : (if t113 = 7 then ((era_Agrees.f 7 3).bind fun t114 => (if t114 = true then ((era_Agrees.f 0 3).bind fun t115 => (if t115 = true then ((era_Agrees.f 5 3).bind fun t116 => (some (!t116))) else (some false))) else (some false))) else (some false)) = some r := H
      have A4 := Aside0.mk A40
      clear A40
      by_cases c5 : t113 = 7
      · rw [if_pos c5] at H
        have c5b0 : (t113 == 7) = true := beq_iff_eq.mpr c5
        have c5b1 : (t113 != 7) = false := bne_eq_false_iff_eq.mpr c5
        clear c5
        replace H := Option.bind_eq_some_iff.mp H
        obtain ⟨t114, A60, H⟩ := H
        replace H : (if t114 = true then ((era_Agrees.f 0 3).bind fun t115 => (if t115 = true then ((era_Agrees.f 5 3).bind fun t116 => (some (!t116))) else (some false))) else (some false)) = some r := H
        have A6 := Aside0.mk A60
        clear A60
        by_cases c7 : t114 = true
        · subst c7
          have H1 : ((era_Agrees.f 0 3).bind fun t115 => (if t115 = true then ((era_Agrees.f 5 3).bind fun t116 => (some (!t116))) else (some false))) = some r := by rw [if_pos rfl] at H; exact H
          clear H
          have H := H1
          clear H1
          replace H := Option.bind_eq_some_iff.mp H
          obtain ⟨t115, A80, H⟩ := H
          replace H : (if t115 = true then ((era_Agrees.f 5 3).bind fun t116 => (some (!t116))) else (some false)) = some r := H
          have A8 := Aside0.mk A80
          clear A80
          by_cases c9 : t115 = true
          · subst c9
            have H1 : ((era_Agrees.f 5 3).bind fun t116 => (some (!t116))) = some r := by rw [if_pos rfl] at H; exact H
            clear H
            have H := H1
            clear H1
            replace H := Option.bind_eq_some_iff.mp H
            obtain ⟨t116, A100, H⟩ := H
            replace H : (some (!t116)) = some r := H
            have A10 := Aside0.mk A100
            clear A100
            obtain rfl := Option.some.inj H
            go_enter Try.func17, Try.ntmps17
            go_wp2_with (first | ((with_reducible refine gate_dst (N := 6) rfl ?_); (try (refine gate_guard (by rfl) ?_; dsimp only)); refine Kd.R_lit k33 _ 33 ?hg (N := 6) ?hd (xs := ([(⟨1, 0, 3⟩ : S33), (⟨2, 0, 4⟩ : S33)] : List (S33))) (inner := [.int .i64 1, .int .i64 0, .int .i64 3, .int .i64 2, .int .i64 0, .int .i64 4]) (ok := fun _ => True) (okp := fun _ => True) ?hr ?hp (fun _ hk => hk) trivial (Below.refl _ _) (Nat.le_refl _) (by simp) ?_; (case hd => rfl); (case hg => rfl); (case hr => first | (go_simp; done) | (go_simp; rfl)); (case hp => exact (Reps.c3 (show Kd.M k33 _ _ _ (⟨1, 0, 3⟩ : S33) [.int .i64 1, .int .i64 0, .int .i64 3] from (k33_mkM _ _ _ (⟨1, 0, 3⟩ : S33) )) (Reps.c3 (show Kd.M k33 _ _ _ (⟨2, 0, 4⟩ : S33) [.int .i64 2, .int .i64 0, .int .i64 4] from (k33_mkM _ _ _ (⟨2, 0, 4⟩ : S33) )) (Reps.none _ _)))); intro v105 w11 ho12 hb hg_ hnew_; clear hg_ hnew_; (first | rw [← Ny104.out] at ho12 | (simp only [Int.reduceToNat] at ho12; rw [← Ny104.out] at ho12)); have n0_ := Aside0.mk (Kd.R_lower ho12 (below_size (by repeat (first | (with_reducible first | exact HB.out | apply below_alloc | apply pw_below_drewN | apply below_drew1) | exact HB.out)))); have n1_ := Aside0.mk (below_step (by repeat (first | (with_reducible first | exact HB.out | apply below_alloc | apply pw_below_drewN | apply below_drew1) | exact HB.out)) hb); clear HB; have HO106 := n0_; have HB := n1_; clear n0_ n1_; clear hb ho12; obtain ⟨Ao13, co13, eo13⟩ := Kd.R_slice HO106.out; subst eo13) | ((with_reducible refine gate_callee (f := 20) rfl ?_); refine goesL_ (some 7) rfl rfl Try.func20 (by kernel_rfl) rfl #[.slice Ao13 y104.length co13, .int .i64 5] rfl (by (try simp only [List.map_toArray, List.map_cons, List.map_nil]); first | done | rfl | (simp only [List.length_drop, List.length_take]; rfl)) ?_; (with_reducible refine (era_Split.calls _ _ y104 5 t107 t108 _ ?side1 ?side2 A1.out).mono ?_); (case side1 => repeat (first | exact (Kd.R_reads' HO106.out).2.2 | (with_reducible refine Kd.C_alloc ?_ _) | (with_reducible refine Kd.C_drewN ?_ _) | (with_reducible refine Kd.C_drew ?_))); (case side2 => exact (Kd.R_reads' HO106.out).2.1); rintro e w14 ⟨v109, v111, rfl, ho0, ho1, hb⟩; refine ⟨_, rfl, ?_⟩; have n0_ := Aside0.mk (Kd.R_mono (Kd.R_told (Kd.R_told (Kd.R_old (by (with_reducible repeat (first | apply Kd.R_alloc | apply Kd.R_drewN | apply Kd.R_drew)); exact HO106.out) hb) (Kd.R_base ho0)) (Kd.R_base ho1)) (fun _ h_ => h_.1)); have n1_ := Aside0.mk (Kd.R_lower (Kd.R_new' ho0 (Kd.R_lt (by (with_reducible repeat (first | apply Kd.R_alloc | apply Kd.R_drewN | apply Kd.R_drew)); exact HO106.out))) (below_size (by repeat (first | (with_reducible first | exact HB.out | apply below_alloc | apply pw_below_drewN | apply below_drew1) | exact HB.out)))); have n2_ := Aside0.mk (Kd.R_lower (Kd.R_new' ho1 (Kd.R_lt (by (with_reducible repeat (first | apply Kd.R_alloc | apply Kd.R_drewN | apply Kd.R_drew)); exact HO106.out))) (below_size (by repeat (first | (with_reducible first | exact HB.out | apply below_alloc | apply pw_below_drewN | apply below_drew1) | exact HB.out)))); have n3_ := Aside0.mk (below_step (by repeat (first | (with_reducible first | exact HB.out | apply below_alloc | apply pw_below_drewN | apply below_drew1) | exact HB.out)) hb); clear HO106; clear HB; have HO106 := n0_; have HO110 := n1_; have HO112 := n2_; have HB := n3_; clear n0_ n1_ n2_ n3_; (try clear hb); (try clear hb2); (try clear hk); (try clear hi); (try clear ho0); (try clear ho1); obtain ⟨Ao15, co15, eo15⟩ := Kd.R_slice HO110.out; subst eo15; obtain ⟨Ao16, co16, eo16⟩ := Kd.R_slice HO112.out; subst eo16) | (go_at_call 18; (with_reducible refine (era_Mark.calls 3 t113 _ A4.out).mono ?_); rintro e w' ⟨rfl, ⟨nd, rfl⟩⟩) | (go_at_call 19; (with_reducible refine (era_Agrees.calls 7 3 true _ A6.out).mono ?_); rintro e w' ⟨rfl, ⟨nd, rfl⟩⟩) | (go_at_call 19; (with_reducible refine (era_Agrees.calls 0 3 true _ A8.out).mono ?_); rintro e w' ⟨rfl, ⟨nd, rfl⟩⟩) | (go_at_call 19; (with_reducible refine (era_Agrees.calls 5 3 t116 _ A10.out).mono ?_); rintro e w' ⟨rfl, ⟨nd, rfl⟩⟩))
            go_ret
            exact ⟨by first | rfl | (simp [errW_none, errW_some] <;> rfl) | (simp [*, errW_none, errW_some] <;> rfl), by repeat (first | (with_reducible first | exact HB.out | apply below_alloc | apply pw_below_drewN | apply below_drew1) | exact HB.out)⟩
          · replace c9 := Bool.eq_false_iff.mpr c9
            subst c9
            have H1 : (some false) = some r := by rw [if_neg (show ¬ (false = true) by decide)] at H; exact H
            clear H
            have H := H1
            clear H1
            obtain rfl := Option.some.inj H
            go_enter Try.func17, Try.ntmps17
            go_wp2_with (first | ((with_reducible refine gate_dst (N := 6) rfl ?_); (try (refine gate_guard (by rfl) ?_; dsimp only)); refine Kd.R_lit k33 _ 33 ?hg (N := 6) ?hd (xs := ([(⟨1, 0, 3⟩ : S33), (⟨2, 0, 4⟩ : S33)] : List (S33))) (inner := [.int .i64 1, .int .i64 0, .int .i64 3, .int .i64 2, .int .i64 0, .int .i64 4]) (ok := fun _ => True) (okp := fun _ => True) ?hr ?hp (fun _ hk => hk) trivial (Below.refl _ _) (Nat.le_refl _) (by simp) ?_; (case hd => rfl); (case hg => rfl); (case hr => first | (go_simp; done) | (go_simp; rfl)); (case hp => exact (Reps.c3 (show Kd.M k33 _ _ _ (⟨1, 0, 3⟩ : S33) [.int .i64 1, .int .i64 0, .int .i64 3] from (k33_mkM _ _ _ (⟨1, 0, 3⟩ : S33) )) (Reps.c3 (show Kd.M k33 _ _ _ (⟨2, 0, 4⟩ : S33) [.int .i64 2, .int .i64 0, .int .i64 4] from (k33_mkM _ _ _ (⟨2, 0, 4⟩ : S33) )) (Reps.none _ _)))); intro v105 w17 ho18 hb hg_ hnew_; clear hg_ hnew_; (first | rw [← Ny104.out] at ho18 | (simp only [Int.reduceToNat] at ho18; rw [← Ny104.out] at ho18)); have n0_ := Aside0.mk (Kd.R_lower ho18 (below_size (by repeat (first | (with_reducible first | exact HB.out | apply below_alloc | apply pw_below_drewN | apply below_drew1) | exact HB.out)))); have n1_ := Aside0.mk (below_step (by repeat (first | (with_reducible first | exact HB.out | apply below_alloc | apply pw_below_drewN | apply below_drew1) | exact HB.out)) hb); clear HB; have HO106 := n0_; have HB := n1_; clear n0_ n1_; clear hb ho18; obtain ⟨Ao19, co19, eo19⟩ := Kd.R_slice HO106.out; subst eo19) | ((with_reducible refine gate_callee (f := 20) rfl ?_); refine goesL_ (some 7) rfl rfl Try.func20 (by kernel_rfl) rfl #[.slice Ao19 y104.length co19, .int .i64 5] rfl (by (try simp only [List.map_toArray, List.map_cons, List.map_nil]); first | done | rfl | (simp only [List.length_drop, List.length_take]; rfl)) ?_; (with_reducible refine (era_Split.calls _ _ y104 5 t107 t108 _ ?side1 ?side2 A1.out).mono ?_); (case side1 => repeat (first | exact (Kd.R_reads' HO106.out).2.2 | (with_reducible refine Kd.C_alloc ?_ _) | (with_reducible refine Kd.C_drewN ?_ _) | (with_reducible refine Kd.C_drew ?_))); (case side2 => exact (Kd.R_reads' HO106.out).2.1); rintro e w20 ⟨v109, v111, rfl, ho0, ho1, hb⟩; refine ⟨_, rfl, ?_⟩; have n0_ := Aside0.mk (Kd.R_mono (Kd.R_told (Kd.R_told (Kd.R_old (by (with_reducible repeat (first | apply Kd.R_alloc | apply Kd.R_drewN | apply Kd.R_drew)); exact HO106.out) hb) (Kd.R_base ho0)) (Kd.R_base ho1)) (fun _ h_ => h_.1)); have n1_ := Aside0.mk (Kd.R_lower (Kd.R_new' ho0 (Kd.R_lt (by (with_reducible repeat (first | apply Kd.R_alloc | apply Kd.R_drewN | apply Kd.R_drew)); exact HO106.out))) (below_size (by repeat (first | (with_reducible first | exact HB.out | apply below_alloc | apply pw_below_drewN | apply below_drew1) | exact HB.out)))); have n2_ := Aside0.mk (Kd.R_lower (Kd.R_new' ho1 (Kd.R_lt (by (with_reducible repeat (first | apply Kd.R_alloc | apply Kd.R_drewN | apply Kd.R_drew)); exact HO106.out))) (below_size (by repeat (first | (with_reducible first | exact HB.out | apply below_alloc | apply pw_below_drewN | apply below_drew1) | exact HB.out)))); have n3_ := Aside0.mk (below_step (by repeat (first | (with_reducible first | exact HB.out | apply below_alloc | apply pw_below_drewN | apply below_drew1) | exact HB.out)) hb); clear HO106; clear HB; have HO106 := n0_; have HO110 := n1_; have HO112 := n2_; have HB := n3_; clear n0_ n1_ n2_ n3_; (try clear hb); (try clear hb2); (try clear hk); (try clear hi); (try clear ho0); (try clear ho1); obtain ⟨Ao21, co21, eo21⟩ := Kd.R_slice HO110.out; subst eo21; obtain ⟨Ao22, co22, eo22⟩ := Kd.R_slice HO112.out; subst eo22) | (go_at_call 18; (with_reducible refine (era_Mark.calls 3 t113 _ A4.out).mono ?_); rintro e w' ⟨rfl, ⟨nd, rfl⟩⟩) | (go_at_call 19; (with_reducible refine (era_Agrees.calls 7 3 true _ A6.out).mono ?_); rintro e w' ⟨rfl, ⟨nd, rfl⟩⟩) | (go_at_call 19; (with_reducible refine (era_Agrees.calls 0 3 false _ A8.out).mono ?_); rintro e w' ⟨rfl, ⟨nd, rfl⟩⟩))
            go_ret
            exact ⟨by first | rfl | (simp [errW_none, errW_some] <;> rfl) | (simp [*, errW_none, errW_some] <;> rfl), by repeat (first | (with_reducible first | exact HB.out | apply below_alloc | apply pw_below_drewN | apply below_drew1) | exact HB.out)⟩
        · replace c7 := Bool.eq_false_iff.mpr c7
          subst c7
          have H1 : (some false) = some r := by rw [if_neg (show ¬ (false = true) by decide)] at H; exact H
          clear H
          have H := H1
          clear H1
          obtain rfl := Option.some.inj H
          go_enter Try.func17, Try.ntmps17
          go_wp2_with (first | ((with_reducible refine gate_dst (N := 6) rfl ?_); (try (refine gate_guard (by rfl) ?_; dsimp only)); refine Kd.R_lit k33 _ 33 ?hg (N := 6) ?hd (xs := ([(⟨1, 0, 3⟩ : S33), (⟨2, 0, 4⟩ : S33)] : List (S33))) (inner := [.int .i64 1, .int .i64 0, .int .i64 3, .int .i64 2, .int .i64 0, .int .i64 4]) (ok := fun _ => True) (okp := fun _ => True) ?hr ?hp (fun _ hk => hk) trivial (Below.refl _ _) (Nat.le_refl _) (by simp) ?_; (case hd => rfl); (case hg => rfl); (case hr => first | (go_simp; done) | (go_simp; rfl)); (case hp => exact (Reps.c3 (show Kd.M k33 _ _ _ (⟨1, 0, 3⟩ : S33) [.int .i64 1, .int .i64 0, .int .i64 3] from (k33_mkM _ _ _ (⟨1, 0, 3⟩ : S33) )) (Reps.c3 (show Kd.M k33 _ _ _ (⟨2, 0, 4⟩ : S33) [.int .i64 2, .int .i64 0, .int .i64 4] from (k33_mkM _ _ _ (⟨2, 0, 4⟩ : S33) )) (Reps.none _ _)))); intro v105 w23 ho24 hb hg_ hnew_; clear hg_ hnew_; (first | rw [← Ny104.out] at ho24 | (simp only [Int.reduceToNat] at ho24; rw [← Ny104.out] at ho24)); have n0_ := Aside0.mk (Kd.R_lower ho24 (below_size (by repeat (first | (with_reducible first | exact HB.out | apply below_alloc | apply pw_below_drewN | apply below_drew1) | exact HB.out)))); have n1_ := Aside0.mk (below_step (by repeat (first | (with_reducible first | exact HB.out | apply below_alloc | apply pw_below_drewN | apply below_drew1) | exact HB.out)) hb); clear HB; have HO106 := n0_; have HB := n1_; clear n0_ n1_; clear hb ho24; obtain ⟨Ao25, co25, eo25⟩ := Kd.R_slice HO106.out; subst eo25) | ((with_reducible refine gate_callee (f := 20) rfl ?_); refine goesL_ (some 7) rfl rfl Try.func20 (by kernel_rfl) rfl #[.slice Ao25 y104.length co25, .int .i64 5] rfl (by (try simp only [List.map_toArray, List.map_cons, List.map_nil]); first | done | rfl | (simp only [List.length_drop, List.length_take]; rfl)) ?_; (with_reducible refine (era_Split.calls _ _ y104 5 t107 t108 _ ?side1 ?side2 A1.out).mono ?_); (case side1 => repeat (first | exact (Kd.R_reads' HO106.out).2.2 | (with_reducible refine Kd.C_alloc ?_ _) | (with_reducible refine Kd.C_drewN ?_ _) | (with_reducible refine Kd.C_drew ?_))); (case side2 => exact (Kd.R_reads' HO106.out).2.1); rintro e w26 ⟨v109, v111, rfl, ho0, ho1, hb⟩; refine ⟨_, rfl, ?_⟩; have n0_ := Aside0.mk (Kd.R_mono (Kd.R_told (Kd.R_told (Kd.R_old (by (with_reducible repeat (first | apply Kd.R_alloc | apply Kd.R_drewN | apply Kd.R_drew)); exact HO106.out) hb) (Kd.R_base ho0)) (Kd.R_base ho1)) (fun _ h_ => h_.1)); have n1_ := Aside0.mk (Kd.R_lower (Kd.R_new' ho0 (Kd.R_lt (by (with_reducible repeat (first | apply Kd.R_alloc | apply Kd.R_drewN | apply Kd.R_drew)); exact HO106.out))) (below_size (by repeat (first | (with_reducible first | exact HB.out | apply below_alloc | apply pw_below_drewN | apply below_drew1) | exact HB.out)))); have n2_ := Aside0.mk (Kd.R_lower (Kd.R_new' ho1 (Kd.R_lt (by (with_reducible repeat (first | apply Kd.R_alloc | apply Kd.R_drewN | apply Kd.R_drew)); exact HO106.out))) (below_size (by repeat (first | (with_reducible first | exact HB.out | apply below_alloc | apply pw_below_drewN | apply below_drew1) | exact HB.out)))); have n3_ := Aside0.mk (below_step (by repeat (first | (with_reducible first | exact HB.out | apply below_alloc | apply pw_below_drewN | apply below_drew1) | exact HB.out)) hb); clear HO106; clear HB; have HO106 := n0_; have HO110 := n1_; have HO112 := n2_; have HB := n3_; clear n0_ n1_ n2_ n3_; (try clear hb); (try clear hb2); (try clear hk); (try clear hi); (try clear ho0); (try clear ho1); obtain ⟨Ao27, co27, eo27⟩ := Kd.R_slice HO110.out; subst eo27; obtain ⟨Ao28, co28, eo28⟩ := Kd.R_slice HO112.out; subst eo28) | (go_at_call 18; (with_reducible refine (era_Mark.calls 3 t113 _ A4.out).mono ?_); rintro e w' ⟨rfl, ⟨nd, rfl⟩⟩) | (go_at_call 19; (with_reducible refine (era_Agrees.calls 7 3 false _ A6.out).mono ?_); rintro e w' ⟨rfl, ⟨nd, rfl⟩⟩))
          go_ret
          exact ⟨by first | rfl | (simp [errW_none, errW_some] <;> rfl) | (simp [*, errW_none, errW_some] <;> rfl), by repeat (first | (with_reducible first | exact HB.out | apply below_alloc | apply pw_below_drewN | apply below_drew1) | exact HB.out)⟩
      · rw [if_neg c5] at H
        have c5b0 : (t113 == 7) = false := beq_eq_false_iff_ne.mpr c5
        have c5b1 : (t113 != 7) = true := bne_iff_ne.mpr c5
        obtain rfl := Option.some.inj H
        go_enter Try.func17, Try.ntmps17
        go_wp2_with (first | ((with_reducible refine gate_dst (N := 6) rfl ?_); (try (refine gate_guard (by rfl) ?_; dsimp only)); refine Kd.R_lit k33 _ 33 ?hg (N := 6) ?hd (xs := ([(⟨1, 0, 3⟩ : S33), (⟨2, 0, 4⟩ : S33)] : List (S33))) (inner := [.int .i64 1, .int .i64 0, .int .i64 3, .int .i64 2, .int .i64 0, .int .i64 4]) (ok := fun _ => True) (okp := fun _ => True) ?hr ?hp (fun _ hk => hk) trivial (Below.refl _ _) (Nat.le_refl _) (by simp) ?_; (case hd => rfl); (case hg => rfl); (case hr => first | (go_simp; done) | (go_simp; rfl)); (case hp => exact (Reps.c3 (show Kd.M k33 _ _ _ (⟨1, 0, 3⟩ : S33) [.int .i64 1, .int .i64 0, .int .i64 3] from (k33_mkM _ _ _ (⟨1, 0, 3⟩ : S33) )) (Reps.c3 (show Kd.M k33 _ _ _ (⟨2, 0, 4⟩ : S33) [.int .i64 2, .int .i64 0, .int .i64 4] from (k33_mkM _ _ _ (⟨2, 0, 4⟩ : S33) )) (Reps.none _ _)))); intro v105 w29 ho30 hb hg_ hnew_; clear hg_ hnew_; (first | rw [← Ny104.out] at ho30 | (simp only [Int.reduceToNat] at ho30; rw [← Ny104.out] at ho30)); have n0_ := Aside0.mk (Kd.R_lower ho30 (below_size (by repeat (first | (with_reducible first | exact HB.out | apply below_alloc | apply pw_below_drewN | apply below_drew1) | exact HB.out)))); have n1_ := Aside0.mk (below_step (by repeat (first | (with_reducible first | exact HB.out | apply below_alloc | apply pw_below_drewN | apply below_drew1) | exact HB.out)) hb); clear HB; have HO106 := n0_; have HB := n1_; clear n0_ n1_; clear hb ho30; obtain ⟨Ao31, co31, eo31⟩ := Kd.R_slice HO106.out; subst eo31) | ((with_reducible refine gate_callee (f := 20) rfl ?_); refine goesL_ (some 7) rfl rfl Try.func20 (by kernel_rfl) rfl #[.slice Ao31 y104.length co31, .int .i64 5] rfl (by (try simp only [List.map_toArray, List.map_cons, List.map_nil]); first | done | rfl | (simp only [List.length_drop, List.length_take]; rfl)) ?_; (with_reducible refine (era_Split.calls _ _ y104 5 t107 t108 _ ?side1 ?side2 A1.out).mono ?_); (case side1 => repeat (first | exact (Kd.R_reads' HO106.out).2.2 | (with_reducible refine Kd.C_alloc ?_ _) | (with_reducible refine Kd.C_drewN ?_ _) | (with_reducible refine Kd.C_drew ?_))); (case side2 => exact (Kd.R_reads' HO106.out).2.1); rintro e w32 ⟨v109, v111, rfl, ho0, ho1, hb⟩; refine ⟨_, rfl, ?_⟩; have n0_ := Aside0.mk (Kd.R_mono (Kd.R_told (Kd.R_told (Kd.R_old (by (with_reducible repeat (first | apply Kd.R_alloc | apply Kd.R_drewN | apply Kd.R_drew)); exact HO106.out) hb) (Kd.R_base ho0)) (Kd.R_base ho1)) (fun _ h_ => h_.1)); have n1_ := Aside0.mk (Kd.R_lower (Kd.R_new' ho0 (Kd.R_lt (by (with_reducible repeat (first | apply Kd.R_alloc | apply Kd.R_drewN | apply Kd.R_drew)); exact HO106.out))) (below_size (by repeat (first | (with_reducible first | exact HB.out | apply below_alloc | apply pw_below_drewN | apply below_drew1) | exact HB.out)))); have n2_ := Aside0.mk (Kd.R_lower (Kd.R_new' ho1 (Kd.R_lt (by (with_reducible repeat (first | apply Kd.R_alloc | apply Kd.R_drewN | apply Kd.R_drew)); exact HO106.out))) (below_size (by repeat (first | (with_reducible first | exact HB.out | apply below_alloc | apply pw_below_drewN | apply below_drew1) | exact HB.out)))); have n3_ := Aside0.mk (below_step (by repeat (first | (with_reducible first | exact HB.out | apply below_alloc | apply pw_below_drewN | apply below_drew1) | exact HB.out)) hb); clear HO106; clear HB; have HO106 := n0_; have HO110 := n1_; have HO112 := n2_; have HB := n3_; clear n0_ n1_ n2_ n3_; (try clear hb); (try clear hb2); (try clear hk); (try clear hi); (try clear ho0); (try clear ho1); obtain ⟨Ao33, co33, eo33⟩ := Kd.R_slice HO110.out; subst eo33; obtain ⟨Ao34, co34, eo34⟩ := Kd.R_slice HO112.out; subst eo34) | (go_at_call 18; (with_reducible refine (era_Mark.calls 3 t113 _ A4.out).mono ?_); rintro e w' ⟨rfl, ⟨nd, rfl⟩⟩))
        go_ret
        exact ⟨by first | rfl | (simp [errW_none, errW_some] <;> rfl) | (simp [*, errW_none, errW_some] <;> rfl), by repeat (first | (with_reducible first | exact HB.out | apply below_alloc | apply pw_below_drewN | apply below_drew1) | exact HB.out)⟩
    · rw [if_neg c3] at H
      have c3b0 : ((t108.length : Int) == 1) = false := beq_eq_false_iff_ne.mpr c3
      have c3b1 : ((t108.length : Int) != 1) = true := bne_iff_ne.mpr c3
      obtain rfl := Option.some.inj H
      go_enter Try.func17, Try.ntmps17
      go_wp2_with (first | ((with_reducible refine gate_dst (N := 6) rfl ?_); (try (refine gate_guard (by rfl) ?_; dsimp only)); refine Kd.R_lit k33 _ 33 ?hg (N := 6) ?hd (xs := ([(⟨1, 0, 3⟩ : S33), (⟨2, 0, 4⟩ : S33)] : List (S33))) (inner := [.int .i64 1, .int .i64 0, .int .i64 3, .int .i64 2, .int .i64 0, .int .i64 4]) (ok := fun _ => True) (okp := fun _ => True) ?hr ?hp (fun _ hk => hk) trivial (Below.refl _ _) (Nat.le_refl _) (by simp) ?_; (case hd => rfl); (case hg => rfl); (case hr => first | (go_simp; done) | (go_simp; rfl)); (case hp => exact (Reps.c3 (show Kd.M k33 _ _ _ (⟨1, 0, 3⟩ : S33) [.int .i64 1, .int .i64 0, .int .i64 3] from (k33_mkM _ _ _ (⟨1, 0, 3⟩ : S33) )) (Reps.c3 (show Kd.M k33 _ _ _ (⟨2, 0, 4⟩ : S33) [.int .i64 2, .int .i64 0, .int .i64 4] from (k33_mkM _ _ _ (⟨2, 0, 4⟩ : S33) )) (Reps.none _ _)))); intro v105 w35 ho36 hb hg_ hnew_; clear hg_ hnew_; (first | rw [← Ny104.out] at ho36 | (simp only [Int.reduceToNat] at ho36; rw [← Ny104.out] at ho36)); have n0_ := Aside0.mk (Kd.R_lower ho36 (below_size (by repeat (first | (with_reducible first | exact HB.out | apply below_alloc | apply pw_below_drewN | apply below_drew1) | exact HB.out)))); have n1_ := Aside0.mk (below_step (by repeat (first | (with_reducible first | exact HB.out | apply below_alloc | apply pw_below_drewN | apply below_drew1) | exact HB.out)) hb); clear HB; have HO106 := n0_; have HB := n1_; clear n0_ n1_; clear hb ho36; obtain ⟨Ao37, co37, eo37⟩ := Kd.R_slice HO106.out; subst eo37) | ((with_reducible refine gate_callee (f := 20) rfl ?_); refine goesL_ (some 7) rfl rfl Try.func20 (by kernel_rfl) rfl #[.slice Ao37 y104.length co37, .int .i64 5] rfl (by (try simp only [List.map_toArray, List.map_cons, List.map_nil]); first | done | rfl | (simp only [List.length_drop, List.length_take]; rfl)) ?_; (with_reducible refine (era_Split.calls _ _ y104 5 t107 t108 _ ?side1 ?side2 A1.out).mono ?_); (case side1 => repeat (first | exact (Kd.R_reads' HO106.out).2.2 | (with_reducible refine Kd.C_alloc ?_ _) | (with_reducible refine Kd.C_drewN ?_ _) | (with_reducible refine Kd.C_drew ?_))); (case side2 => exact (Kd.R_reads' HO106.out).2.1); rintro e w38 ⟨v109, v111, rfl, ho0, ho1, hb⟩; refine ⟨_, rfl, ?_⟩; have n0_ := Aside0.mk (Kd.R_mono (Kd.R_told (Kd.R_told (Kd.R_old (by (with_reducible repeat (first | apply Kd.R_alloc | apply Kd.R_drewN | apply Kd.R_drew)); exact HO106.out) hb) (Kd.R_base ho0)) (Kd.R_base ho1)) (fun _ h_ => h_.1)); have n1_ := Aside0.mk (Kd.R_lower (Kd.R_new' ho0 (Kd.R_lt (by (with_reducible repeat (first | apply Kd.R_alloc | apply Kd.R_drewN | apply Kd.R_drew)); exact HO106.out))) (below_size (by repeat (first | (with_reducible first | exact HB.out | apply below_alloc | apply pw_below_drewN | apply below_drew1) | exact HB.out)))); have n2_ := Aside0.mk (Kd.R_lower (Kd.R_new' ho1 (Kd.R_lt (by (with_reducible repeat (first | apply Kd.R_alloc | apply Kd.R_drewN | apply Kd.R_drew)); exact HO106.out))) (below_size (by repeat (first | (with_reducible first | exact HB.out | apply below_alloc | apply pw_below_drewN | apply below_drew1) | exact HB.out)))); have n3_ := Aside0.mk (below_step (by repeat (first | (with_reducible first | exact HB.out | apply below_alloc | apply pw_below_drewN | apply below_drew1) | exact HB.out)) hb); clear HO106; clear HB; have HO106 := n0_; have HO110 := n1_; have HO112 := n2_; have HB := n3_; clear n0_ n1_ n2_ n3_; (try clear hb); (try clear hb2); (try clear hk); (try clear hi); (try clear ho0); (try clear ho1); obtain ⟨Ao39, co39, eo39⟩ := Kd.R_slice HO110.out; subst eo39; obtain ⟨Ao40, co40, eo40⟩ := Kd.R_slice HO112.out; subst eo40))
      go_ret
      exact ⟨by first | rfl | (simp [errW_none, errW_some] <;> rfl) | (simp [*, errW_none, errW_some] <;> rfl), by repeat (first | (with_reducible first | exact HB.out | apply below_alloc | apply pw_below_drewN | apply below_drew1) | exact HB.out)⟩
  · rw [if_neg c2] at H
    have c2b0 : ((t107.length : Int) == 1) = false := beq_eq_false_iff_ne.mpr c2
    have c2b1 : ((t107.length : Int) != 1) = true := bne_iff_ne.mpr c2
    obtain rfl := Option.some.inj H
    go_enter Try.func17, Try.ntmps17
    go_wp2_with (first | ((with_reducible refine gate_dst (N := 6) rfl ?_); (try (refine gate_guard (by rfl) ?_; dsimp only)); refine Kd.R_lit k33 _ 33 ?hg (N := 6) ?hd (xs := ([(⟨1, 0, 3⟩ : S33), (⟨2, 0, 4⟩ : S33)] : List (S33))) (inner := [.int .i64 1, .int .i64 0, .int .i64 3, .int .i64 2, .int .i64 0, .int .i64 4]) (ok := fun _ => True) (okp := fun _ => True) ?hr ?hp (fun _ hk => hk) trivial (Below.refl _ _) (Nat.le_refl _) (by simp) ?_; (case hd => rfl); (case hg => rfl); (case hr => first | (go_simp; done) | (go_simp; rfl)); (case hp => exact (Reps.c3 (show Kd.M k33 _ _ _ (⟨1, 0, 3⟩ : S33) [.int .i64 1, .int .i64 0, .int .i64 3] from (k33_mkM _ _ _ (⟨1, 0, 3⟩ : S33) )) (Reps.c3 (show Kd.M k33 _ _ _ (⟨2, 0, 4⟩ : S33) [.int .i64 2, .int .i64 0, .int .i64 4] from (k33_mkM _ _ _ (⟨2, 0, 4⟩ : S33) )) (Reps.none _ _)))); intro v105 w41 ho42 hb hg_ hnew_; clear hg_ hnew_; (first | rw [← Ny104.out] at ho42 | (simp only [Int.reduceToNat] at ho42; rw [← Ny104.out] at ho42)); have n0_ := Aside0.mk (Kd.R_lower ho42 (below_size (by repeat (first | (with_reducible first | exact HB.out | apply below_alloc | apply pw_below_drewN | apply below_drew1) | exact HB.out)))); have n1_ := Aside0.mk (below_step (by repeat (first | (with_reducible first | exact HB.out | apply below_alloc | apply pw_below_drewN | apply below_drew1) | exact HB.out)) hb); clear HB; have HO106 := n0_; have HB := n1_; clear n0_ n1_; clear hb ho42; obtain ⟨Ao43, co43, eo43⟩ := Kd.R_slice HO106.out; subst eo43) | ((with_reducible refine gate_callee (f := 20) rfl ?_); refine goesL_ (some 7) rfl rfl Try.func20 (by kernel_rfl) rfl #[.slice Ao43 y104.length co43, .int .i64 5] rfl (by (try simp only [List.map_toArray, List.map_cons, List.map_nil]); first | done | rfl | (simp only [List.length_drop, List.length_take]; rfl)) ?_; (with_reducible refine (era_Split.calls _ _ y104 5 t107 t108 _ ?side1 ?side2 A1.out).mono ?_); (case side1 => repeat (first | exact (Kd.R_reads' HO106.out).2.2 | (with_reducible refine Kd.C_alloc ?_ _) | (with_reducible refine Kd.C_drewN ?_ _) | (with_reducible refine Kd.C_drew ?_))); (case side2 => exact (Kd.R_reads' HO106.out).2.1); rintro e w44 ⟨v109, v111, rfl, ho0, ho1, hb⟩; refine ⟨_, rfl, ?_⟩; have n0_ := Aside0.mk (Kd.R_mono (Kd.R_told (Kd.R_told (Kd.R_old (by (with_reducible repeat (first | apply Kd.R_alloc | apply Kd.R_drewN | apply Kd.R_drew)); exact HO106.out) hb) (Kd.R_base ho0)) (Kd.R_base ho1)) (fun _ h_ => h_.1)); have n1_ := Aside0.mk (Kd.R_lower (Kd.R_new' ho0 (Kd.R_lt (by (with_reducible repeat (first | apply Kd.R_alloc | apply Kd.R_drewN | apply Kd.R_drew)); exact HO106.out))) (below_size (by repeat (first | (with_reducible first | exact HB.out | apply below_alloc | apply pw_below_drewN | apply below_drew1) | exact HB.out)))); have n2_ := Aside0.mk (Kd.R_lower (Kd.R_new' ho1 (Kd.R_lt (by (with_reducible repeat (first | apply Kd.R_alloc | apply Kd.R_drewN | apply Kd.R_drew)); exact HO106.out))) (below_size (by repeat (first | (with_reducible first | exact HB.out | apply below_alloc | apply pw_below_drewN | apply below_drew1) | exact HB.out)))); have n3_ := Aside0.mk (below_step (by repeat (first | (with_reducible first | exact HB.out | apply below_alloc | apply pw_below_drewN | apply below_drew1) | exact HB.out)) hb); clear HO106; clear HB; have HO106 := n0_; have HO110 := n1_; have HO112 := n2_; have HB := n3_; clear n0_ n1_ n2_ n3_; (try clear hb); (try clear hb2); (try clear hk); (try clear hi); (try clear ho0); (try clear ho1); obtain ⟨Ao45, co45, eo45⟩ := Kd.R_slice HO110.out; subst eo45))
    go_ret
    exact ⟨by first | rfl | (simp [errW_none, errW_some] <;> rfl) | (simp [*, errW_none, errW_some] <;> rfl), by repeat (first | (with_reducible first | exact HB.out | apply below_alloc | apply pw_below_drewN | apply below_drew1) | exact HB.out)⟩

/-! ### warrenerplain_Bags: function 21 -/
def warrenerplain_Bags.l0 : Nat → List (S33) → List (S33) → Int → Option (Bool)
  | 0, _, _, _ => none
  | k + 1, x0, x1, x5 => if x5 < (x0.length : Int) then (if 0 ≤ x5 then (if x5 < (x1.length : Int) then (if (!(((rd_T33 x0 x5).f0) == ((rd_T33 x1 x5).f0)) || (!(((rd_T33 x0 x5).f1) == ((rd_T33 x1 x5).f1)) || (!(((rd_T33 x0 x5).f2) == ((rd_T33 x1 x5).f2))))) = true then (some false) else (warrenerplain_Bags.l0 k x0 x1 (wrap64 (x5 + 1)))) else (none)) else (none)) else (some true)
def warrenerplain_Bags.f (k : Nat) (l0 : List (S33)) (l1 : List (S33)) : Option (Bool) := if (l0.length : Int) = (l1.length : Int) then (warrenerplain_Bags.l0 k l0 l1 0) else (some false)
theorem warrenerplain_Bags.mono_l : ∀ k, (∀ y0 y1 y2, LeO (warrenerplain_Bags.l0 k y0 y1 y2) (warrenerplain_Bags.l0 (k + 1) y0 y1 y2))
  | 0 => fun _ _ _ r h => by simp [warrenerplain_Bags.l0] at h
  | k + 1 => by
    have ih0 := warrenerplain_Bags.mono_l k
    · intro y0 y1 y2
      unfold warrenerplain_Bags.l0
      repeat' first
      | (with_reducible exact ih0 _ _ _)
      | (with_reducible exact LeO.refl _)
      | (with_reducible exact LeO.none _)
      | (with_reducible refine LeO.ite ?_ ?_)
      | (with_reducible refine LeO.bind ?_ (fun _ => ?_))
      | exact ih0 _ _ _
      | exact LeO.none _
      | refine LeO.ite ?_ ?_
      | refine LeO.bind ?_ (fun _ => ?_)
theorem warrenerplain_Bags.mono : ∀ a0 a1 k, LeO (warrenerplain_Bags.f k a0 a1) (warrenerplain_Bags.f (k + 1) a0 a1) := by
  intro a0 a1 k
  have ih0 := warrenerplain_Bags.mono_l k
  unfold warrenerplain_Bags.f
  repeat' first
      | (with_reducible exact ih0 _ _ _)
      | (with_reducible exact LeO.refl _)
      | (with_reducible exact LeO.none _)
      | (with_reducible refine LeO.ite ?_ ?_)
      | (with_reducible refine LeO.bind ?_ (fun _ => ?_))
      | exact ih0 _ _ _
      | exact LeO.none _
      | refine LeO.ite ?_ ?_
      | refine LeO.bind ?_ (fun _ => ?_)
set_option maxHeartbeats 8000000 in
set_option maxRecDepth 100000 in
theorem warrenerplain_Bags.calls (k : Nat) (A0 : Option Addr) (c0 : Nat) (l0 : List (S33)) (A1 : Option Addr) (c1 : Nat) (l1 : List (S33)) (r : Bool) (w : World) (hr0 : Kd.C k33 w A0 l0.length l0) (hc0 : l0.length ≤ c0) (hr1 : Kd.C k33 w A1 l1.length l1) (hc1 : l1.length ≤ c1) (h : warrenerplain_Bags.f k l0 l1 = some r) :
    Calls Try.prog 21 #[.slice A0 l0.length c0, .slice A1 l1.length c1] w fun e w' => e = .returned (.bool r) ∧ Drawn0 w w' := by
  have hu33 := Try.underlying33
  have HR0 := Aside0.mk hr0
  have HC0 := Aside0.mk hc0
  clear hr0 hc0
  have HR1 := Aside0.mk hr1
  have HC1 := Aside0.mk hc1
  clear hr1 hc1
  have H : (if (l0.length : Int) = (l1.length : Int) then (warrenerplain_Bags.l0 k l0 l1 0) else (some false)) = some r := h
  clear h
  by_cases c3 : (l0.length : Int) = (l1.length : Int)
  · rw [if_pos c3] at H
    have c3b0 : ((l0.length : Int) == (l1.length : Int)) = true := beq_iff_eq.mpr c3
    have c3b1 : ((l0.length : Int) != (l1.length : Int)) = false := bne_eq_false_iff_eq.mpr c3
    have c3b2 : (l0.length == l1.length) = true := by first | simpa using c3 | (simp at c3 ⊢; omega)
    clear c3
    have H' := Aside0.mk H
    clear H
    go_enter Try.func21, Try.ntmps21
    go_wp2
    repeat (go_quiet (fail); try go_wp2)
    go_loopg [5] k (fun kq v5 w' => ∃ (x5_1 : Int), v5 = .int .i64 x5_1 ∧ Aside0 (warrenerplain_Bags.l0 kq l0 l1 x5_1 = some r) ∧ Aside0 (kq ≤ k) ∧ Drawn0 w w')
    case atStart => exact ⟨(0), (by first | rfl | (simp; done) | (simp [*]; done)), H', ⟨Nat.le_refl _⟩, by repeat (first | exact Drawn0.refl _ | apply Drawn0.step)⟩
    case round =>
      clear H'
      try clear c1
      try clear c2
      try clear p2
      try clear c3
      try clear c3b0
      try clear c3b1
      try clear c3b2
      obtain ⟨x5_1, rfl, HA, HK1, ⟨m1, rfl⟩⟩ := hrel
      cases gk with
      | zero => exact absurd HA.out (by simp [warrenerplain_Bags.l0])
      | succ k1 =>
        have H := HA.out
        clear HA
        simp only [warrenerplain_Bags.l0] at H
        by_cases c4 : x5_1 < (l0.length : Int)
        · rw [if_pos c4] at H
          have c4b0 : decide (x5_1 < (l0.length : Int)) = true := decide_eq_true c4
          clear c4
          by_cases c5 : 0 ≤ x5_1
          · rw [if_pos c5] at H
            have c5b0 : decide (0 ≤ x5_1) = true := decide_eq_true c5
            clear c5
            by_cases c6 : x5_1 < (l1.length : Int)
            · rw [if_pos c6] at H
              have c6b0 : decide (x5_1 < (l1.length : Int)) = true := decide_eq_true c6
              clear c6
              by_cases c7 : (!(((rd_T33 l0 x5_1).f0) == ((rd_T33 l1 x5_1).f0)) || (!(((rd_T33 l0 x5_1).f1) == ((rd_T33 l1 x5_1).f1)) || (!(((rd_T33 l0 x5_1).f2) == ((rd_T33 l1 x5_1).f2))))) = true
              · rw [if_pos c7] at H
                have c7b0 : (!(((rd_T33 l0 x5_1).f0) == ((rd_T33 l1 x5_1).f0)) || (!(((rd_T33 l0 x5_1).f1) == ((rd_T33 l1 x5_1).f1)) || (!(((rd_T33 l0 x5_1).f2) == ((rd_T33 l1 x5_1).f2))))) = true := c7
                clear c7
                obtain rfl := Option.some.inj H
                have p117 : 0 ≤ (x5_1 : Int) := of_decide_eq_true (by first | (with_reducible assumption) | assumption)
                have q117 : x5_1 < (l0.length : Int) := of_decide_eq_true (by first | (with_reducible assumption) | assumption)
                obtain ⟨ad117, e117, hx117_0, hx117_1, hx117_2⟩ := at_T33 HR0.out x5_1 p117 q117
                cases e117
                replace p117 := eq_true p117
                replace q117 := eq_true q117
                have p118 : 0 ≤ (x5_1 : Int) := of_decide_eq_true (by first | (with_reducible assumption) | assumption)
                have q118 : x5_1 < (l1.length : Int) := of_decide_eq_true (by first | (with_reducible assumption) | assumption)
                obtain ⟨ad118, e118, hx118_0, hx118_1, hx118_2⟩ := at_T33 HR1.out x5_1 p118 q118
                cases e118
                replace p118 := eq_true p118
                replace q118 := eq_true q118
                go_wp2
                repeat (go_quiet (fail); try go_wp2)
                go_ret
                exact ⟨by first | rfl | (simp; done) | (simp [*]; done), by repeat (first | exact Drawn0.refl _ | apply Drawn0.step)⟩
              · rw [if_neg c7] at H
                have c7b0 : (!(((rd_T33 l0 x5_1).f0) == ((rd_T33 l1 x5_1).f0)) || (!(((rd_T33 l0 x5_1).f1) == ((rd_T33 l1 x5_1).f1)) || (!(((rd_T33 l0 x5_1).f2) == ((rd_T33 l1 x5_1).f2))))) = false := by simpa using c7
                clear c7
                have H' := Aside0.mk H
                clear H
                have p117 : 0 ≤ (x5_1 : Int) := of_decide_eq_true (by first | (with_reducible assumption) | assumption)
                have q117 : x5_1 < (l0.length : Int) := of_decide_eq_true (by first | (with_reducible assumption) | assumption)
                obtain ⟨ad117, e117, hx117_0, hx117_1, hx117_2⟩ := at_T33 HR0.out x5_1 p117 q117
                cases e117
                replace p117 := eq_true p117
                replace q117 := eq_true q117
                have p118 : 0 ≤ (x5_1 : Int) := of_decide_eq_true (by first | (with_reducible assumption) | assumption)
                have q118 : x5_1 < (l1.length : Int) := of_decide_eq_true (by first | (with_reducible assumption) | assumption)
                obtain ⟨ad118, e118, hx118_0, hx118_1, hx118_2⟩ := at_T33 HR1.out x5_1 p118 q118
                cases e118
                replace p118 := eq_true p118
                replace q118 := eq_true q118
                go_wp2
                repeat (go_quiet (fail); try go_wp2)
                go_roundg k1
                case measure => have := HK1.out; omega
                case rel => exact ⟨(wrap64 (x5_1 + 1)), (by first | rfl | (simp; done) | (simp [*]; done)), H', ⟨by have := HK1.out; omega⟩, by repeat (first | exact Drawn0.refl _ | apply Drawn0.step)⟩
            · rw [if_neg c6] at H
              exact absurd H (by simp)
          · rw [if_neg c5] at H
            exact absurd H (by simp)
        · rw [if_neg c4] at H
          have c4b0 : decide (x5_1 < (l0.length : Int)) = false := decide_eq_false c4
          clear c4
          obtain rfl := Option.some.inj H
          go_wp2
          repeat (go_quiet (fail); try go_wp2)
          go_ret
          exact ⟨by first | rfl | (simp; done) | (simp [*]; done), by repeat (first | exact Drawn0.refl _ | apply Drawn0.step)⟩
  · rw [if_neg c3] at H
    have c3b0 : ((l0.length : Int) == (l1.length : Int)) = false := beq_eq_false_iff_ne.mpr c3
    have c3b1 : ((l0.length : Int) != (l1.length : Int)) = true := bne_iff_ne.mpr c3
    have c3b2 : (l0.length == l1.length) = false := by first | simpa using c3 | (simp at c3 ⊢; omega)
    obtain rfl := Option.some.inj H
    go_enter Try.func21, Try.ntmps21
    go_wp2
    repeat (go_quiet (fail); try go_wp2)
    go_ret
    exact ⟨by first | rfl | (simp; done) | (simp [*]; done), by repeat (first | exact Drawn0.refl _ | apply Drawn0.step)⟩

end Go.Proofs.Ythllggfimndklaa.QEraSplits
