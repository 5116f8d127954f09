/- What thread.Local answers. No condition beside those that each theorem names. -/
import Derived.Test.YthcmcekjgecnhaaTeF
namespace Go.Proofs.Ythcmcekjgecnhaa.Th
open Go.RowKit Go.Proofs.YthcmcekjgecnhaaW.PrintWords Go.Proofs.YthcmcekjgecnhaaW.PrintLast
open Go.Proofs.YthcmcekjgecnhaaW.HWords Go.Proofs.Ythcmcekjgecnhaa.QThreadLocals
set_option linter.unusedVariables false
set_option linter.unusedSimpArgs false
set_option maxHeartbeats 8000000 in
set_option maxRecDepth 100000 in
theorem th_Local {w : World} {t : Th} {xs : List Int} {bs : List S42} {ns : List Int} (h : t.reads w xs bs ns) (hl : xs.length ≤ 1000 ∧ bs.length ≤ 1000 ∧ ns.length ≤ 1000) (op a b c n : Int) : Calls Try.prog 21 #[.agg t.cells, .agg #[.int .i64 op, .int .i64 a, .int .i64 b, .int .i64 c, .int .i64 n]] w fun e w' => ∃ As cs Ab cb An cn, e = .returned (.tuple #[.agg ((localT t op a b c n).1.rows (.slice As xs.length cs) (.slice Ab bs.length cb) (.slice An ns.length cn)).cells, .bool (localT t op a b c n).2]) ∧ ((localT t op a b c n).1.rows (.slice As xs.length cs) (.slice Ab bs.length cb) (.slice An ns.length cn)).owns w' w.heap.size xs bs ns ∧ Below w.heap.size w w' := by
  have hc : (op < 1 ∨ 25 < op) ∨ (11 ≤ op ∧ op ≤ 25 ∧ op ≠ 17) ∨ op = 17 ∨ (1 ≤ op ∧ op ≤ 10) := by omega
  have hq : 1 ≤ op ∧ op ≤ 10 → op = 1 ∨ op = 2 ∨ op = 3 ∨ op = 8 ∨ (op = 9 ∧ getR t.R a 0 = 0) ∨ (op = 9 ∧ getR t.R a 0 ≠ 0) ∨ (op = 10 ∧ (getR t.R a 0 == getR t.R b 0) = true) ∨ (op = 10 ∧ (getR t.R a 0 == getR t.R b 0) = false) ∨ op = 4 ∨ op = 5 ∨ op = 6 ∨ (op = 7 ∧ (arithF 7 (getR t.R b 0) (getR t.R c 0)).2 = true) ∨ (op = 7 ∧ (arithF 7 (getR t.R b 0) (getR t.R c 0)).2 = false) := by
    intro h
    rcases Bool.eq_false_or_eq_true (getR t.R a 0 == getR t.R b 0) with h1 | h1 <;> rcases Bool.eq_false_or_eq_true (arithF 7 (getR t.R b 0) (getR t.R c 0)).2 with h2 | h2 <;> simp only [h1, h2] <;> by_cases h3 : getR t.R a 0 = 0 <;> simp [h3] <;> omega
  rcases hc with hop | hop | rfl | hop
  · skip
    refine calls_of_wp Try.func21 rfl ?_
    have hW := Ws.nil w
    refine wp_seq ?_
    refine wp_region_list ?_
    obtain ⟨g1, W2, hr, hW, hbb, hge⟩ := hW.mk1 (P := Try.prog) (s := Instr.box 32 (.agg (tlz_c0 t))) (tlz_c0 t) 32 (by kernel_rfl)
    refine se (a' := (tlz_a1 t op a b c n g1)) (.pointer (some ⟨g1, 0, none⟩)) (Eq.trans (b := (do pure (Next.value (← Instr.box 32 (.agg (tlz_c0 t)))) : Sem Next).run Try.prog w) (by kernel_rfl) (st_val hr)) ?_
    obtain ⟨g3, W4, hr, hW, hbb, hge⟩ := hW.mk1 (P := Try.prog) (s := Instr.box 45 (.agg #[.int .i64 op, .int .i64 a, .int .i64 b, .int .i64 c, .int .i64 n])) #[.int .i64 op, .int .i64 a, .int .i64 b, .int .i64 c, .int .i64 n] 45 (by kernel_rfl)
    refine se (a' := (tlz_a5 t op a b c n g1 g3)) (.pointer (some ⟨g3, 0, none⟩)) (Eq.trans (b := (do pure (Next.value (← Instr.box 45 (.agg #[.int .i64 op, .int .i64 a, .int .i64 b, .int .i64 c, .int .i64 n]))) : Sem Next).run Try.prog W2) (by kernel_rfl) (st_val hr)) ?_
    obtain ⟨g5, W6, hr, hW, hbb, hge⟩ := hW.mk1 (P := Try.prog) (s := Instr.alloc 32 true (.tuple #[])) tlz_c1 32 (by kernel_rfl)
    refine se (a' := (tlz_a8 t op a b c n g1 g3 g5)) (.pointer (some ⟨g5, 0, none⟩)) (Eq.trans (b := (do pure (Next.value (← Instr.alloc 32 true (.tuple #[]))) : Sem Next).run Try.prog W4) (by kernel_rfl) (st_val hr)) ?_
    refine sk (a' := (tlz_a10 t op a b c n g1 g3 g5)) (.bool false) ?_
    refine wpList_nil ?_
    refine wp_seq ?_
    refine wp_region_list ?_
    refine se (a' := (tlz_a12 t op a b c n g1 g3 g5)) (.agg (tlz_c0 t)) (evA hW 2 0 Try.underlying32) ?_
    have hK7_g5 : g5 < W6.heap.size := blk_lt (hW.blk 0 _ _ _ rfl).1
    have hK7_g3 : g3 < W6.heap.size := blk_lt (hW.blk 1 _ _ _ rfl).1
    have hK7_g1 : g1 < W6.heap.size := blk_lt (hW.blk 2 _ _ _ rfl).1
    have hK7_le : w.heap.size ≤ W6.heap.size := hW.below.size
    refine st_call (th_Clone (t := (⟨t.pc, t.fu, t.st, t.R, t.kd, t.mi, t.mn, t.sv, t.bv, t.nv, t.old⟩ : Th)) (xs := xs) (bs := bs) (ns := ns) ⟨h.s.below hW.below, h.b.below hW.below, h.n.below hW.below⟩ hl) (by kernel_rfl) (by kernel_rfl) ?_
    rintro _ W7 ⟨As7, cs7, Ab7, cb7, An7, cn7, rfl, hO7, hB⟩
    have hW := hW.step hB
    have hK7 := KeepUp.refl W6.heap.size W7
    obtain ⟨r7, e7⟩ : ∃ r : Rw, r = ⟨.slice As7 xs.length cs7, .slice Ab7 bs.length cb7, .slice An7 ns.length cn7⟩ := ⟨_, rfl⟩
    refine ⟨_, (tlz_a15 t op a b c n g1 g3 g5 r7), rfl, by (try subst e7); kernel_rfl, ?_⟩
    obtain ⟨W8, hr, hW, hF⟩ := hW.storeN (P := Try.prog) (o := 0) (cs' := (tlz_c2 t r7)) (L' := [(g5, 32, tlz_c1), (g3, 45, #[.int .i64 op, .int .i64 a, .int .i64 b, .int .i64 c, .int .i64 n]), (g1, 32, (tlz_c2 t r7))]) 2 rfl (tlz_c2 t r7) (by (try subst e7); kernel_rfl) (Nat.le_of_ble_eq_true rfl) (by kernel_rfl) rfl 32 (by kernel_rfl)
    have hK7 := hK7.store hF (.inl hK7_g1)
    refine st_none (w' := W8) (a' := (tlz_a15 t op a b c n g1 g3 g5 r7)) (by kernel_rfl) (Eq.trans (b := (do Instr.storeAt 32 (.pointer (some ⟨g1, 0, none⟩)) (.agg (tlz_c2 t r7)); pure Next.skip : Sem Next).run Try.prog W7) (by kernel_rfl) (st_unit hr)) (by kernel_rfl) ?_
    refine wpList_nil ?_
    refine wp_seq ?_
    refine wp_seq ?_
    refine wp_region_list ?_
    refine sk (a' := (tlz_a17 t op a b c n g1 g3 g5 r7)) (.pointer (some ⟨g3, 0, none⟩)) ?_
    refine se (a' := (tlz_a19 t op a b c n g1 g3 g5 r7)) (.int .i64 op) (ev1 hW 1 0 Try.underlying3) ?_
    refine st_call (name_no op (by omega) W8) (by kernel_rfl) (by kernel_rfl) ?_
    rintro _ W9 ⟨rfl, hB⟩
    have hW := hW.step hB
    have hK7 := hK7.below hB
    refine ⟨_, (tlz_a21 t op a b c n g1 g3 g5 r7), rfl, by (try subst e7); kernel_rfl, ?_⟩
    refine sk (a' := (tlz_a23 t op a b c n g1 g3 g5 r7)) (.bool true) ?_
    refine st_ones (w' := W9) (a' := (tlz_a25 t op a b c n g1 g3 g5 r7)) (a2 := (tlz_a25 t op a b c n g1 g3 g5 r7)) 3 (.bool true) (by kernel_rfl) (by kernel_rfl) (by kernel_rfl) (by kernel_rfl) (by kernel_rfl) ?_
    refine sk (a' := (tlz_a27 t op a b c n g1 g3 g5 r7)) (.bool true) ?_
    refine st_ones (w' := W9) (a' := (tlz_a29 t op a b c n g1 g3 g5 r7)) (a2 := (tlz_a29 t op a b c n g1 g3 g5 r7)) 3 (.bool true) (by kernel_rfl) (by kernel_rfl) (by kernel_rfl) (by kernel_rfl) (by kernel_rfl) ?_
    refine sk (a' := (tlz_a31 t op a b c n g1 g3 g5 r7)) (.bool true) ?_
    refine wpList_nil ?_
    refine wp_cond (t := true) (by kernel_rfl) ?_
    refine wp_seq ?_
    refine wp_region_list ?_
    refine se (a' := (tlz_a33 t op a b c n g1 g3 g5 r7)) (.agg (tlz_c2 t r7)) (evA hW 2 0 Try.underlying32) ?_
    obtain ⟨W10, hr, hW, hF⟩ := hW.storeN (P := Try.prog) (o := 0) (cs' := (tlz_c2 t r7)) (L' := [(g5, 32, (tlz_c2 t r7)), (g3, 45, #[.int .i64 op, .int .i64 a, .int .i64 b, .int .i64 c, .int .i64 n]), (g1, 32, (tlz_c2 t r7))]) 0 rfl (tlz_c2 t r7) (by (try subst e7); kernel_rfl) (Nat.le_of_ble_eq_true rfl) (by kernel_rfl) rfl 32 (by kernel_rfl)
    have hK7 := hK7.store hF (.inl hK7_g5)
    refine st_none (w' := W10) (a' := (tlz_a33 t op a b c n g1 g3 g5 r7)) (by kernel_rfl) (Eq.trans (b := (do Instr.storeAt 32 (.pointer (some ⟨g5, 0, none⟩)) (.agg (tlz_c2 t r7)); pure Next.skip : Sem Next).run Try.prog W9) (by kernel_rfl) (st_unit hr)) (by kernel_rfl) ?_
    refine sk (a' := (tlz_a33 t op a b c n g1 g3 g5 r7)) (.bool false) ?_
    refine wpList_nil ?_
    refine wp_ret ?_
    (try simp only [Exit.then, Exit.inBlock])
    change bodyPost Try.prog Try.f21 _ .ret _ _
    refine bodyPost_ret (results_ct rfl _ _ g5 32 _ (0, 0) _ (by kernel_rfl) (hW.blk 0 _ _ _ rfl).1 Try.underlying32 rfl (by kernel_rfl)) rfl ?_
    have hloc : localT t op a b c n = (t, false) := (by unfold localT; rw [if_neg (by omega), if_neg (by omega), if_neg (by omega), if_neg (by omega), if_neg (by omega), if_neg (by omega), if_neg (by omega)])
    subst e7
    rw [hloc]
    exact ⟨As7, cs7, Ab7, cb7, An7, cn7, rfl, ⟨Kd.R_lower (hK7.R hO7.s) hK7_le, Kd.R_lower (hK7.R hO7.b) hK7_le, Kd.R_lower (hK7.R hO7.n) hK7_le⟩, hW.below⟩
  · skip
    refine calls_of_wp Try.func21 rfl ?_
    have hW := Ws.nil w
    refine wp_seq ?_
    refine wp_region_list ?_
    obtain ⟨g1, W2, hr, hW, hbb, hge⟩ := hW.mk1 (P := Try.prog) (s := Instr.box 32 (.agg (tls_c0 t))) (tls_c0 t) 32 (by kernel_rfl)
    refine se (a' := (tls_a1 t op a b c n g1)) (.pointer (some ⟨g1, 0, none⟩)) (Eq.trans (b := (do pure (Next.value (← Instr.box 32 (.agg (tls_c0 t)))) : Sem Next).run Try.prog w) (by kernel_rfl) (st_val hr)) ?_
    obtain ⟨g3, W4, hr, hW, hbb, hge⟩ := hW.mk1 (P := Try.prog) (s := Instr.box 45 (.agg #[.int .i64 op, .int .i64 a, .int .i64 b, .int .i64 c, .int .i64 n])) #[.int .i64 op, .int .i64 a, .int .i64 b, .int .i64 c, .int .i64 n] 45 (by kernel_rfl)
    refine se (a' := (tls_a5 t op a b c n g1 g3)) (.pointer (some ⟨g3, 0, none⟩)) (Eq.trans (b := (do pure (Next.value (← Instr.box 45 (.agg #[.int .i64 op, .int .i64 a, .int .i64 b, .int .i64 c, .int .i64 n]))) : Sem Next).run Try.prog W2) (by kernel_rfl) (st_val hr)) ?_
    obtain ⟨g5, W6, hr, hW, hbb, hge⟩ := hW.mk1 (P := Try.prog) (s := Instr.alloc 32 true (.tuple #[])) tls_c1 32 (by kernel_rfl)
    refine se (a' := (tls_a8 t op a b c n g1 g3 g5)) (.pointer (some ⟨g5, 0, none⟩)) (Eq.trans (b := (do pure (Next.value (← Instr.alloc 32 true (.tuple #[]))) : Sem Next).run Try.prog W4) (by kernel_rfl) (st_val hr)) ?_
    refine sk (a' := (tls_a10 t op a b c n g1 g3 g5)) (.bool false) ?_
    refine wpList_nil ?_
    refine wp_seq ?_
    refine wp_region_list ?_
    refine se (a' := (tls_a12 t op a b c n g1 g3 g5)) (.agg (tls_c0 t)) (evA hW 2 0 Try.underlying32) ?_
    have hK7_g5 : g5 < W6.heap.size := blk_lt (hW.blk 0 _ _ _ rfl).1
    have hK7_g3 : g3 < W6.heap.size := blk_lt (hW.blk 1 _ _ _ rfl).1
    have hK7_g1 : g1 < W6.heap.size := blk_lt (hW.blk 2 _ _ _ rfl).1
    have hK7_le : w.heap.size ≤ W6.heap.size := hW.below.size
    refine st_call (th_Clone (t := (⟨t.pc, t.fu, t.st, t.R, t.kd, t.mi, t.mn, t.sv, t.bv, t.nv, t.old⟩ : Th)) (xs := xs) (bs := bs) (ns := ns) ⟨h.s.below hW.below, h.b.below hW.below, h.n.below hW.below⟩ hl) (by kernel_rfl) (by kernel_rfl) ?_
    rintro _ W7 ⟨As7, cs7, Ab7, cb7, An7, cn7, rfl, hO7, hB⟩
    have hW := hW.step hB
    have hK7 := KeepUp.refl W6.heap.size W7
    obtain ⟨r7, e7⟩ : ∃ r : Rw, r = ⟨.slice As7 xs.length cs7, .slice Ab7 bs.length cb7, .slice An7 ns.length cn7⟩ := ⟨_, rfl⟩
    refine ⟨_, (tls_a15 t op a b c n g1 g3 g5 r7), rfl, by (try subst e7); kernel_rfl, ?_⟩
    obtain ⟨W8, hr, hW, hF⟩ := hW.storeN (P := Try.prog) (o := 0) (cs' := (tls_c2 t r7)) (L' := [(g5, 32, tls_c1), (g3, 45, #[.int .i64 op, .int .i64 a, .int .i64 b, .int .i64 c, .int .i64 n]), (g1, 32, (tls_c2 t r7))]) 2 rfl (tls_c2 t r7) (by (try subst e7); kernel_rfl) (Nat.le_of_ble_eq_true rfl) (by kernel_rfl) rfl 32 (by kernel_rfl)
    have hK7 := hK7.store hF (.inl hK7_g1)
    refine st_none (w' := W8) (a' := (tls_a15 t op a b c n g1 g3 g5 r7)) (by kernel_rfl) (Eq.trans (b := (do Instr.storeAt 32 (.pointer (some ⟨g1, 0, none⟩)) (.agg (tls_c2 t r7)); pure Next.skip : Sem Next).run Try.prog W7) (by kernel_rfl) (st_unit hr)) (by kernel_rfl) ?_
    refine wpList_nil ?_
    refine wp_seq ?_
    refine wp_seq ?_
    refine wp_region_list ?_
    refine sk (a' := (tls_a17 t op a b c n g1 g3 g5 r7)) (.pointer (some ⟨g3, 0, none⟩)) ?_
    refine se (a' := (tls_a19 t op a b c n g1 g3 g5 r7)) (.int .i64 op) (ev1 hW 1 0 Try.underlying3) ?_
    refine st_call (name_yes op (by omega) W8) (by kernel_rfl) (by kernel_rfl) ?_
    rintro _ W9 ⟨sn9, rfl, hs9, hB⟩
    have hW := hW.step hB
    have hK7 := hK7.below hB
    refine ⟨_, (tls_a21 t op a b c n g1 g3 g5 r7 sn9), rfl, by (try subst e7); kernel_rfl, ?_⟩
    refine se (a' := (tls_a23 t op a b c n g1 g3 g5 r7 sn9)) (.bool false) (Eq.trans (b := .ok (.value (.bool (sn9.toList == (⟨#[]⟩ : ByteArray).toList))) W9) (by kernel_rfl) (st_ok hs9)) ?_
    refine sk (a' := (tls_a25 t op a b c n g1 g3 g5 r7 sn9)) (.bool false) ?_
    refine sk (a' := (tls_a27 t op a b c n g1 g3 g5 r7 sn9)) (.pointer (some ⟨g3, 0, none⟩)) ?_
    refine se (a' := (tls_a29 t op a b c n g1 g3 g5 r7 sn9)) (.int .i64 op) (ev1 hW 1 0 Try.underlying3) ?_
    refine st_call (shares_is op true (by rw [if_pos (by omega)]) W9) (by kernel_rfl) (by kernel_rfl) ?_
    rintro _ W10 ⟨rfl, hB⟩
    have hW := hW.step hB
    have hK7 := hK7.below hB
    refine ⟨_, (tls_a31 t op a b c n g1 g3 g5 r7 sn9), rfl, by (try subst e7); kernel_rfl, ?_⟩
    refine sk (a' := (tls_a33 t op a b c n g1 g3 g5 r7 sn9)) (.bool true) ?_
    refine st_ones (w' := W10) (a' := (tls_a35 t op a b c n g1 g3 g5 r7 sn9)) (a2 := (tls_a35 t op a b c n g1 g3 g5 r7 sn9)) 3 (.bool true) (by kernel_rfl) (by kernel_rfl) (by kernel_rfl) (by kernel_rfl) (by kernel_rfl) ?_
    refine sk (a' := (tls_a37 t op a b c n g1 g3 g5 r7 sn9)) (.bool true) ?_
    refine wpList_nil ?_
    refine wp_cond (t := true) (by kernel_rfl) ?_
    refine wp_seq ?_
    refine wp_region_list ?_
    refine se (a' := (tls_a39 t op a b c n g1 g3 g5 r7 sn9)) (.agg (tls_c2 t r7)) (evA hW 2 0 Try.underlying32) ?_
    obtain ⟨W11, hr, hW, hF⟩ := hW.storeN (P := Try.prog) (o := 0) (cs' := (tls_c2 t r7)) (L' := [(g5, 32, (tls_c2 t r7)), (g3, 45, #[.int .i64 op, .int .i64 a, .int .i64 b, .int .i64 c, .int .i64 n]), (g1, 32, (tls_c2 t r7))]) 0 rfl (tls_c2 t r7) (by (try subst e7); kernel_rfl) (Nat.le_of_ble_eq_true rfl) (by kernel_rfl) rfl 32 (by kernel_rfl)
    have hK7 := hK7.store hF (.inl hK7_g5)
    refine st_none (w' := W11) (a' := (tls_a39 t op a b c n g1 g3 g5 r7 sn9)) (by kernel_rfl) (Eq.trans (b := (do Instr.storeAt 32 (.pointer (some ⟨g5, 0, none⟩)) (.agg (tls_c2 t r7)); pure Next.skip : Sem Next).run Try.prog W10) (by kernel_rfl) (st_unit hr)) (by kernel_rfl) ?_
    refine sk (a' := (tls_a39 t op a b c n g1 g3 g5 r7 sn9)) (.bool false) ?_
    refine wpList_nil ?_
    refine wp_ret ?_
    (try simp only [Exit.then, Exit.inBlock])
    change bodyPost Try.prog Try.f21 _ .ret _ _
    refine bodyPost_ret (results_ct rfl _ _ g5 32 _ (0, 0) _ (by kernel_rfl) (hW.blk 0 _ _ _ rfl).1 Try.underlying32 rfl (by kernel_rfl)) rfl ?_
    have hloc : localT t op a b c n = (t, false) := (by unfold localT; rw [if_neg (by omega), if_neg (by omega), if_neg (by omega), if_neg (by omega), if_neg (by omega), if_neg (by omega), if_neg (by omega)])
    subst e7
    rw [hloc]
    exact ⟨As7, cs7, Ab7, cb7, An7, cn7, rfl, ⟨Kd.R_lower (hK7.R hO7.s) hK7_le, Kd.R_lower (hK7.R hO7.b) hK7_le, Kd.R_lower (hK7.R hO7.n) hK7_le⟩, hW.below⟩
  · skip
    refine calls_of_wp Try.func21 rfl ?_
    have hW := Ws.nil w
    refine wp_seq ?_
    refine wp_region_list ?_
    obtain ⟨g1, W2, hr, hW, hbb, hge⟩ := hW.mk1 (P := Try.prog) (s := Instr.box 32 (.agg (tlf_c0 t))) (tlf_c0 t) 32 (by kernel_rfl)
    refine se (a' := (tlf_a1 t a b c n g1)) (.pointer (some ⟨g1, 0, none⟩)) (Eq.trans (b := (do pure (Next.value (← Instr.box 32 (.agg (tlf_c0 t)))) : Sem Next).run Try.prog w) (by kernel_rfl) (st_val hr)) ?_
    obtain ⟨g3, W4, hr, hW, hbb, hge⟩ := hW.mk1 (P := Try.prog) (s := Instr.box 45 (.agg #[.int .i64 17, .int .i64 a, .int .i64 b, .int .i64 c, .int .i64 n])) #[.int .i64 17, .int .i64 a, .int .i64 b, .int .i64 c, .int .i64 n] 45 (by kernel_rfl)
    refine se (a' := (tlf_a5 t a b c n g1 g3)) (.pointer (some ⟨g3, 0, none⟩)) (Eq.trans (b := (do pure (Next.value (← Instr.box 45 (.agg #[.int .i64 17, .int .i64 a, .int .i64 b, .int .i64 c, .int .i64 n]))) : Sem Next).run Try.prog W2) (by kernel_rfl) (st_val hr)) ?_
    obtain ⟨g5, W6, hr, hW, hbb, hge⟩ := hW.mk1 (P := Try.prog) (s := Instr.alloc 32 true (.tuple #[])) tlf_c1 32 (by kernel_rfl)
    refine se (a' := (tlf_a8 t a b c n g1 g3 g5)) (.pointer (some ⟨g5, 0, none⟩)) (Eq.trans (b := (do pure (Next.value (← Instr.alloc 32 true (.tuple #[]))) : Sem Next).run Try.prog W4) (by kernel_rfl) (st_val hr)) ?_
    refine sk (a' := (tlf_a10 t a b c n g1 g3 g5)) (.bool false) ?_
    refine wpList_nil ?_
    refine wp_seq ?_
    refine wp_region_list ?_
    refine se (a' := (tlf_a12 t a b c n g1 g3 g5)) (.agg (tlf_c0 t)) (evA hW 2 0 Try.underlying32) ?_
    have hK7_g5 : g5 < W6.heap.size := blk_lt (hW.blk 0 _ _ _ rfl).1
    have hK7_g3 : g3 < W6.heap.size := blk_lt (hW.blk 1 _ _ _ rfl).1
    have hK7_g1 : g1 < W6.heap.size := blk_lt (hW.blk 2 _ _ _ rfl).1
    have hK7_le : w.heap.size ≤ W6.heap.size := hW.below.size
    refine st_call (th_Clone (t := (⟨t.pc, t.fu, t.st, t.R, t.kd, t.mi, t.mn, t.sv, t.bv, t.nv, t.old⟩ : Th)) (xs := xs) (bs := bs) (ns := ns) ⟨h.s.below hW.below, h.b.below hW.below, h.n.below hW.below⟩ hl) (by kernel_rfl) (by kernel_rfl) ?_
    rintro _ W7 ⟨As7, cs7, Ab7, cb7, An7, cn7, rfl, hO7, hB⟩
    have hW := hW.step hB
    have hK7 := KeepUp.refl W6.heap.size W7
    obtain ⟨r7, e7⟩ : ∃ r : Rw, r = ⟨.slice As7 xs.length cs7, .slice Ab7 bs.length cb7, .slice An7 ns.length cn7⟩ := ⟨_, rfl⟩
    refine ⟨_, (tlf_a15 t a b c n g1 g3 g5 r7), rfl, by (try subst e7); kernel_rfl, ?_⟩
    obtain ⟨W8, hr, hW, hF⟩ := hW.storeN (P := Try.prog) (o := 0) (cs' := (tlf_c2 t r7)) (L' := [(g5, 32, tlf_c1), (g3, 45, #[.int .i64 17, .int .i64 a, .int .i64 b, .int .i64 c, .int .i64 n]), (g1, 32, (tlf_c2 t r7))]) 2 rfl (tlf_c2 t r7) (by (try subst e7); kernel_rfl) (Nat.le_of_ble_eq_true rfl) (by kernel_rfl) rfl 32 (by kernel_rfl)
    have hK7 := hK7.store hF (.inl hK7_g1)
    refine st_none (w' := W8) (a' := (tlf_a15 t a b c n g1 g3 g5 r7)) (by kernel_rfl) (Eq.trans (b := (do Instr.storeAt 32 (.pointer (some ⟨g1, 0, none⟩)) (.agg (tlf_c2 t r7)); pure Next.skip : Sem Next).run Try.prog W7) (by kernel_rfl) (st_unit hr)) (by kernel_rfl) ?_
    refine wpList_nil ?_
    refine wp_seq ?_
    refine wp_seq ?_
    refine wp_region_list ?_
    refine sk (a' := (tlf_a17 t a b c n g1 g3 g5 r7)) (.pointer (some ⟨g3, 0, none⟩)) ?_
    refine se (a' := (tlf_a19 t a b c n g1 g3 g5 r7)) (.int .i64 17) (ev1 hW 1 0 Try.underlying3) ?_
    refine st_call (name_yes 17 (by omega) W8) (by kernel_rfl) (by kernel_rfl) ?_
    rintro _ W9 ⟨sn9, rfl, hs9, hB⟩
    have hW := hW.step hB
    have hK7 := hK7.below hB
    refine ⟨_, (tlf_a21 t a b c n g1 g3 g5 r7 sn9), rfl, by (try subst e7); kernel_rfl, ?_⟩
    refine se (a' := (tlf_a23 t a b c n g1 g3 g5 r7 sn9)) (.bool false) (Eq.trans (b := .ok (.value (.bool (sn9.toList == (⟨#[]⟩ : ByteArray).toList))) W9) (by kernel_rfl) (st_ok hs9)) ?_
    refine sk (a' := (tlf_a25 t a b c n g1 g3 g5 r7 sn9)) (.bool false) ?_
    refine sk (a' := (tlf_a27 t a b c n g1 g3 g5 r7 sn9)) (.pointer (some ⟨g3, 0, none⟩)) ?_
    refine se (a' := (tlf_a29 t a b c n g1 g3 g5 r7 sn9)) (.int .i64 17) (ev1 hW 1 0 Try.underlying3) ?_
    refine st_call (shares_is 17 false (by rw [if_neg (by omega)]) W9) (by kernel_rfl) (by kernel_rfl) ?_
    rintro _ W10 ⟨rfl, hB⟩
    have hW := hW.step hB
    have hK7 := hK7.below hB
    refine ⟨_, (tlf_a31 t a b c n g1 g3 g5 r7 sn9), rfl, by (try subst e7); kernel_rfl, ?_⟩
    refine sk (a' := (tlf_a33 t a b c n g1 g3 g5 r7 sn9)) (.bool false) ?_
    refine sk (a' := (tlf_a35 t a b c n g1 g3 g5 r7 sn9)) (.bool false) ?_
    refine sk (a' := (tlf_a37 t a b c n g1 g3 g5 r7 sn9)) (.pointer (some ⟨g3, 0, none⟩)) ?_
    refine se (a' := (tlf_a39 t a b c n g1 g3 g5 r7 sn9)) (.int .i64 17) (ev1 hW 1 0 Try.underlying3) ?_
    refine sk (a' := (tlf_a41 t a b c n g1 g3 g5 r7 sn9)) (.bool true) ?_
    refine sk (a' := (tlf_a43 t a b c n g1 g3 g5 r7 sn9)) (.bool true) ?_
    refine wpList_nil ?_
    refine wp_cond (t := true) (by kernel_rfl) ?_
    refine wp_seq ?_
    refine wp_region_list ?_
    refine se (a' := (tlf_a45 t a b c n g1 g3 g5 r7 sn9)) (.agg (tlf_c2 t r7)) (evA hW 2 0 Try.underlying32) ?_
    obtain ⟨W11, hr, hW, hF⟩ := hW.storeN (P := Try.prog) (o := 0) (cs' := (tlf_c2 t r7)) (L' := [(g5, 32, (tlf_c2 t r7)), (g3, 45, #[.int .i64 17, .int .i64 a, .int .i64 b, .int .i64 c, .int .i64 n]), (g1, 32, (tlf_c2 t r7))]) 0 rfl (tlf_c2 t r7) (by (try subst e7); kernel_rfl) (Nat.le_of_ble_eq_true rfl) (by kernel_rfl) rfl 32 (by kernel_rfl)
    have hK7 := hK7.store hF (.inl hK7_g5)
    refine st_none (w' := W11) (a' := (tlf_a45 t a b c n g1 g3 g5 r7 sn9)) (by kernel_rfl) (Eq.trans (b := (do Instr.storeAt 32 (.pointer (some ⟨g5, 0, none⟩)) (.agg (tlf_c2 t r7)); pure Next.skip : Sem Next).run Try.prog W10) (by kernel_rfl) (st_unit hr)) (by kernel_rfl) ?_
    refine sk (a' := (tlf_a45 t a b c n g1 g3 g5 r7 sn9)) (.bool false) ?_
    refine wpList_nil ?_
    refine wp_ret ?_
    (try simp only [Exit.then, Exit.inBlock])
    change bodyPost Try.prog Try.f21 _ .ret _ _
    refine bodyPost_ret (results_ct rfl _ _ g5 32 _ (0, 0) _ (by kernel_rfl) (hW.blk 0 _ _ _ rfl).1 Try.underlying32 rfl (by kernel_rfl)) rfl ?_
    have hloc : localT t 17 a b c n = (t, false) := (by kernel_rfl)
    subst e7
    rw [hloc]
    exact ⟨As7, cs7, Ab7, cb7, An7, cn7, rfl, ⟨Kd.R_lower (hK7.R hO7.s) hK7_le, Kd.R_lower (hK7.R hO7.b) hK7_le, Kd.R_lower (hK7.R hO7.n) hK7_le⟩, hW.below⟩
  · skip
    refine calls_of_wp Try.func21 rfl ?_
    have hW := Ws.nil w
    refine wp_seq ?_
    refine wp_region_list ?_
    obtain ⟨g1, W2, hr, hW, hbb, hge⟩ := hW.mk1 (P := Try.prog) (s := Instr.box 32 (.agg (tll_c0 t))) (tll_c0 t) 32 (by kernel_rfl)
    refine se (a' := (tll_a1 t op a b c n g1)) (.pointer (some ⟨g1, 0, none⟩)) (Eq.trans (b := (do pure (Next.value (← Instr.box 32 (.agg (tll_c0 t)))) : Sem Next).run Try.prog w) (by kernel_rfl) (st_val hr)) ?_
    obtain ⟨g3, W4, hr, hW, hbb, hge⟩ := hW.mk1 (P := Try.prog) (s := Instr.box 45 (.agg #[.int .i64 op, .int .i64 a, .int .i64 b, .int .i64 c, .int .i64 n])) #[.int .i64 op, .int .i64 a, .int .i64 b, .int .i64 c, .int .i64 n] 45 (by kernel_rfl)
    refine se (a' := (tll_a5 t op a b c n g1 g3)) (.pointer (some ⟨g3, 0, none⟩)) (Eq.trans (b := (do pure (Next.value (← Instr.box 45 (.agg #[.int .i64 op, .int .i64 a, .int .i64 b, .int .i64 c, .int .i64 n]))) : Sem Next).run Try.prog W2) (by kernel_rfl) (st_val hr)) ?_
    obtain ⟨g5, W6, hr, hW, hbb, hge⟩ := hW.mk1 (P := Try.prog) (s := Instr.alloc 32 true (.tuple #[])) tll_c1 32 (by kernel_rfl)
    refine se (a' := (tll_a8 t op a b c n g1 g3 g5)) (.pointer (some ⟨g5, 0, none⟩)) (Eq.trans (b := (do pure (Next.value (← Instr.alloc 32 true (.tuple #[]))) : Sem Next).run Try.prog W4) (by kernel_rfl) (st_val hr)) ?_
    refine sk (a' := (tll_a10 t op a b c n g1 g3 g5)) (.bool false) ?_
    refine wpList_nil ?_
    refine wp_seq ?_
    refine wp_region_list ?_
    refine se (a' := (tll_a12 t op a b c n g1 g3 g5)) (.agg (tll_c0 t)) (evA hW 2 0 Try.underlying32) ?_
    have hK7_g5 : g5 < W6.heap.size := blk_lt (hW.blk 0 _ _ _ rfl).1
    have hK7_g3 : g3 < W6.heap.size := blk_lt (hW.blk 1 _ _ _ rfl).1
    have hK7_g1 : g1 < W6.heap.size := blk_lt (hW.blk 2 _ _ _ rfl).1
    have hK7_le : w.heap.size ≤ W6.heap.size := hW.below.size
    refine st_call (th_Clone (t := (⟨t.pc, t.fu, t.st, t.R, t.kd, t.mi, t.mn, t.sv, t.bv, t.nv, t.old⟩ : Th)) (xs := xs) (bs := bs) (ns := ns) ⟨h.s.below hW.below, h.b.below hW.below, h.n.below hW.below⟩ hl) (by kernel_rfl) (by kernel_rfl) ?_
    rintro _ W7 ⟨As7, cs7, Ab7, cb7, An7, cn7, rfl, hO7, hB⟩
    have hW := hW.step hB
    have hK7 := KeepUp.refl W6.heap.size W7
    obtain ⟨r7, e7⟩ : ∃ r : Rw, r = ⟨.slice As7 xs.length cs7, .slice Ab7 bs.length cb7, .slice An7 ns.length cn7⟩ := ⟨_, rfl⟩
    refine ⟨_, (tll_a15 t op a b c n g1 g3 g5 r7), rfl, by (try subst e7); kernel_rfl, ?_⟩
    obtain ⟨W8, hr, hW, hF⟩ := hW.storeN (P := Try.prog) (o := 0) (cs' := (tll_c2 t r7)) (L' := [(g5, 32, tll_c1), (g3, 45, #[.int .i64 op, .int .i64 a, .int .i64 b, .int .i64 c, .int .i64 n]), (g1, 32, (tll_c2 t r7))]) 2 rfl (tll_c2 t r7) (by (try subst e7); kernel_rfl) (Nat.le_of_ble_eq_true rfl) (by kernel_rfl) rfl 32 (by kernel_rfl)
    have hK7 := hK7.store hF (.inl hK7_g1)
    refine st_none (w' := W8) (a' := (tll_a15 t op a b c n g1 g3 g5 r7)) (by kernel_rfl) (Eq.trans (b := (do Instr.storeAt 32 (.pointer (some ⟨g1, 0, none⟩)) (.agg (tll_c2 t r7)); pure Next.skip : Sem Next).run Try.prog W7) (by kernel_rfl) (st_unit hr)) (by kernel_rfl) ?_
    refine wpList_nil ?_
    refine wp_seq ?_
    refine wp_seq ?_
    refine wp_region_list ?_
    refine sk (a' := (tll_a17 t op a b c n g1 g3 g5 r7)) (.pointer (some ⟨g3, 0, none⟩)) ?_
    refine se (a' := (tll_a19 t op a b c n g1 g3 g5 r7)) (.int .i64 op) (ev1 hW 1 0 Try.underlying3) ?_
    refine st_call (name_yes op (by omega) W8) (by kernel_rfl) (by kernel_rfl) ?_
    rintro _ W9 ⟨sn9, rfl, hs9, hB⟩
    have hW := hW.step hB
    have hK7 := hK7.below hB
    refine ⟨_, (tll_a21 t op a b c n g1 g3 g5 r7 sn9), rfl, by (try subst e7); kernel_rfl, ?_⟩
    refine se (a' := (tll_a23 t op a b c n g1 g3 g5 r7 sn9)) (.bool false) (Eq.trans (b := .ok (.value (.bool (sn9.toList == (⟨#[]⟩ : ByteArray).toList))) W9) (by kernel_rfl) (st_ok hs9)) ?_
    refine sk (a' := (tll_a25 t op a b c n g1 g3 g5 r7 sn9)) (.bool false) ?_
    refine sk (a' := (tll_a27 t op a b c n g1 g3 g5 r7 sn9)) (.pointer (some ⟨g3, 0, none⟩)) ?_
    refine se (a' := (tll_a29 t op a b c n g1 g3 g5 r7 sn9)) (.int .i64 op) (ev1 hW 1 0 Try.underlying3) ?_
    refine st_call (shares_is op false (by rw [if_neg (by omega)]) W9) (by kernel_rfl) (by kernel_rfl) ?_
    rintro _ W10 ⟨rfl, hB⟩
    have hW := hW.step hB
    have hK7 := hK7.below hB
    refine ⟨_, (tll_a31 t op a b c n g1 g3 g5 r7 sn9), rfl, by (try subst e7); kernel_rfl, ?_⟩
    refine sk (a' := (tll_a33 t op a b c n g1 g3 g5 r7 sn9)) (.bool false) ?_
    refine sk (a' := (tll_a35 t op a b c n g1 g3 g5 r7 sn9)) (.bool false) ?_
    refine sk (a' := (tll_a37 t op a b c n g1 g3 g5 r7 sn9)) (.pointer (some ⟨g3, 0, none⟩)) ?_
    refine se (a' := (tll_a39 t op a b c n g1 g3 g5 r7 sn9)) (.int .i64 op) (ev1 hW 1 0 Try.underlying3) ?_
    refine se (a' := (tll_a41 t op a b c n g1 g3 g5 r7 sn9)) (.bool false) (Eq.trans (b := .ok (.value (.bool ((op : Int) == 17))) W10) (by kernel_rfl) (st_ok (beq_eq_false_iff_ne.2 (by omega)))) ?_
    refine sk (a' := (tll_a43 t op a b c n g1 g3 g5 r7 sn9)) (.bool false) ?_
    refine wpList_nil ?_
    refine wp_cond (t := false) (by kernel_rfl) ?_
    refine wp_skip ?_
    refine wp_seq ?_
    have hW := hW.drew
    have hK7 := hK7.below (below_drew (Below.refl _ _))
    refine wp_mid (M := fun a' W' => ∃ g4q8 : Nat, ∃ g4q9 : Nat, a' = (tll_a63 t op a b c n g1 g3 g5 r7 sn9 g4q8 g4q9) ∧ Ws w W' [(g4q9, 25, #[.int .i64 (getR t.R b 0), .int .i64 (getR t.R b 1), .int .i64 (getR t.R b 2)]), (g4q8, 25, #[.int .i64 (getR t.R a 0), .int .i64 (getR t.R a 1), .int .i64 (getR t.R a 2)]), (g5, 32, tll_c1), (g3, 45, #[.int .i64 op, .int .i64 a, .int .i64 b, .int .i64 c, .int .i64 n]), (g1, 32, (tll_c2 t r7))] ∧ KeepUp W6.heap.size W7 W' ∧ W7.heap.size ≤ g4q8 ∧ W7.heap.size ≤ g4q9) ?_ ?_
    · skip
      refine wp_region_held_drew (S := fun W => Ws w W [(g5, 32, tll_c1), (g3, 45, #[.int .i64 op, .int .i64 a, .int .i64 b, .int .i64 c, .int .i64 n]), (g1, 32, (tll_c2 t r7))]) (by kernel_rfl) hW (fun _ => ?_)
      refine de (a' := (tll_a45 t op a b c n g1 g3 g5 r7 sn9)) 0 (.agg (tll_c2 t r7)) rfl (fun W hH => (evA hH 2 0 Try.underlying32)) hW ?_
      refine dk (a' := (tll_a47 t op a b c n g1 g3 g5 r7 sn9)) 1 (.pointer (some ⟨g3, 1, none⟩)) hW ?_
      refine de (a' := (tll_a49 t op a b c n g1 g3 g5 r7 sn9)) 2 (.int .i64 a) rfl (fun W hH => (ev1 hH 1 1 Try.underlying3)) hW ?_
      refine de (a' := (tll_a51 t op a b c n g1 g3 g5 r7 sn9)) 4 (.agg (tll_c2 t r7)) rfl (fun W hH => (evA hH 2 0 Try.underlying32)) hW ?_
      refine dk (a' := (tll_a53 t op a b c n g1 g3 g5 r7 sn9)) 5 (.pointer (some ⟨g3, 2, none⟩)) hW ?_
      refine de (a' := (tll_a55 t op a b c n g1 g3 g5 r7 sn9)) 6 (.int .i64 b) rfl (fun W hH => (ev1 hH 1 2 Try.underlying3)) hW ?_
      refine wpAnyH_all (rs := [3, 8, 9]) (by kernel_rfl) (by simp) ?_
      refine all_cons ?_ ?_
      · skip
        refine op_call rfl (th_Get (⟨t.pc, t.fu, t.st, t.R, t.kd, t.mi, t.mn, r7.s, r7.b, r7.n, t.old⟩ : Th) a W10.drew) (by kernel_rfl) (by kernel_rfl) ?_
        rintro _ W4q3 ⟨rfl, hB⟩
        have hW := hW.step hB
        have hK7 := hK7.below hB
        refine ⟨_, (tll_a57 t op a b c n g1 g3 g5 r7 sn9), rfl, by (try subst e7); kernel_rfl, ?_⟩
        refine ⟨hW, ?_⟩
        refine wpAnyH_all (rs := [7, 8, 9]) (by kernel_rfl) (by simp) ?_
        refine all_cons ?_ ?_
        · skip
          refine op_call rfl (th_Get (⟨t.pc, t.fu, t.st, t.R, t.kd, t.mi, t.mn, r7.s, r7.b, r7.n, t.old⟩ : Th) b W4q3) (by kernel_rfl) (by kernel_rfl) ?_
          rintro _ W4q7 ⟨rfl, hB⟩
          have hW := hW.step hB
          have hK7 := hK7.below hB
          refine ⟨_, (tll_a59 t op a b c n g1 g3 g5 r7 sn9), rfl, by (try subst e7); kernel_rfl, ?_⟩
          refine ⟨hW, ?_⟩
          refine wpAnyH_all (rs := [8, 9]) (by kernel_rfl) (by simp) ?_
          refine all_cons ?_ ?_
          · skip
            obtain ⟨g4q8, W4q8, hr, hW, hbb, hge⟩ := hW.mk1 (P := Try.prog) (s := Instr.alloc 25 true (.tuple #[])) #[.int .i64 0, .int .i64 0, .int .i64 0] 25 (by kernel_rfl)
            have hK7_g4q8 := Nat.le_trans hK7.size hge
            have hK7 := hK7.below hbb
            refine op_val (w' := W4q8) (a' := (tll_a61 t op a b c n g1 g3 g5 r7 sn9 g4q8)) (.pointer (some ⟨g4q8, 0, none⟩)) rfl (by kernel_rfl) (Eq.trans (b := (do pure (Next.value (← Instr.alloc 25 true (.tuple #[]))) : Sem Next).run Try.prog W4q7) (by kernel_rfl) (st_val hr)) (by kernel_rfl) ?_
            refine ⟨hW.tail, ?_⟩
            refine wpAnyH_all (rs := [9]) (by kernel_rfl) (by simp) ?_
            refine all_cons ?_ all_nil
            obtain ⟨g4q9, W4q9, hr, hW, hbb, hge⟩ := hW.mk1 (P := Try.prog) (s := Instr.alloc 25 true (.tuple #[])) #[.int .i64 0, .int .i64 0, .int .i64 0] 25 (by kernel_rfl)
            have hK7_g4q9 := Nat.le_trans hK7.size hge
            have hK7 := hK7.below hbb
            refine op_val (w' := W4q9) (a' := (tll_a63 t op a b c n g1 g3 g5 r7 sn9 g4q8 g4q9)) (.pointer (some ⟨g4q9, 0, none⟩)) rfl (by kernel_rfl) (Eq.trans (b := (do pure (Next.value (← Instr.alloc 25 true (.tuple #[]))) : Sem Next).run Try.prog W4q8) (by kernel_rfl) (st_val hr)) (by kernel_rfl) ?_
            refine ⟨hW.tail.tail, ?_⟩
            refine wpAnyH_all (rs := [10]) (by kernel_rfl) (by simp) ?_
            refine all_cons ?_ all_nil
            obtain ⟨W4q10, hr, hW, hF⟩ := hW.storeN (P := Try.prog) (o := 0) (cs' := #[.int .i64 (getR t.R a 0), .int .i64 (getR t.R a 1), .int .i64 (getR t.R a 2)]) (L' := [(g4q9, 25, #[.int .i64 0, .int .i64 0, .int .i64 0]), (g4q8, 25, #[.int .i64 (getR t.R a 0), .int .i64 (getR t.R a 1), .int .i64 (getR t.R a 2)]), (g5, 32, tll_c1), (g3, 45, #[.int .i64 op, .int .i64 a, .int .i64 b, .int .i64 c, .int .i64 n]), (g1, 32, (tll_c2 t r7))]) 1 rfl #[.int .i64 (getR t.R a 0), .int .i64 (getR t.R a 1), .int .i64 (getR t.R a 2)] (by (try subst e7); kernel_rfl) (Nat.le_of_ble_eq_true rfl) (by kernel_rfl) rfl 25 (by kernel_rfl)
            have hK7 := hK7.store hF (.inr hK7_g4q8)
            refine op_none (w' := W4q10) (a' := (tll_a63 t op a b c n g1 g3 g5 r7 sn9 g4q8 g4q9)) rfl (by kernel_rfl) (Eq.trans (b := (do Instr.storeAt 25 (.pointer (some ⟨g4q8, 0, none⟩)) (.agg #[.int .i64 (getR t.R a 0), .int .i64 (getR t.R a 1), .int .i64 (getR t.R a 2)]); pure Next.skip : Sem Next).run Try.prog W4q9) (by kernel_rfl) (st_unit hr)) (by kernel_rfl) ?_
            refine ⟨hW.tail.tail, ?_⟩
            refine wpAnyH_all (rs := [11]) (by kernel_rfl) (by simp) ?_
            refine all_cons ?_ all_nil
            obtain ⟨W4q11, hr, hW, hF⟩ := hW.storeN (P := Try.prog) (o := 0) (cs' := #[.int .i64 (getR t.R b 0), .int .i64 (getR t.R b 1), .int .i64 (getR t.R b 2)]) (L' := [(g4q9, 25, #[.int .i64 (getR t.R b 0), .int .i64 (getR t.R b 1), .int .i64 (getR t.R b 2)]), (g4q8, 25, #[.int .i64 (getR t.R a 0), .int .i64 (getR t.R a 1), .int .i64 (getR t.R a 2)]), (g5, 32, tll_c1), (g3, 45, #[.int .i64 op, .int .i64 a, .int .i64 b, .int .i64 c, .int .i64 n]), (g1, 32, (tll_c2 t r7))]) 0 rfl #[.int .i64 (getR t.R b 0), .int .i64 (getR t.R b 1), .int .i64 (getR t.R b 2)] (by (try subst e7); kernel_rfl) (Nat.le_of_ble_eq_true rfl) (by kernel_rfl) rfl 25 (by kernel_rfl)
            have hK7 := hK7.store hF (.inr hK7_g4q9)
            refine op_none (w' := W4q11) (a' := (tll_a63 t op a b c n g1 g3 g5 r7 sn9 g4q8 g4q9)) rfl (by kernel_rfl) (Eq.trans (b := (do Instr.storeAt 25 (.pointer (some ⟨g4q9, 0, none⟩)) (.agg #[.int .i64 (getR t.R b 0), .int .i64 (getR t.R b 1), .int .i64 (getR t.R b 2)]); pure Next.skip : Sem Next).run Try.prog W4q10) (by kernel_rfl) (st_unit hr)) (by kernel_rfl) ?_
            refine ⟨hW.tail.tail, ?_⟩
            refine wpAnyH_done (by kernel_rfl) ?_ _
            simp only [Exit.then]
            exact ⟨g4q8, g4q9, rfl, hW, hK7, hK7_g4q8, hK7_g4q9⟩
          refine all_cons ?_ all_nil
          obtain ⟨g4q9, W4q9, hr, hW, hbb, hge⟩ := hW.mk1 (P := Try.prog) (s := Instr.alloc 25 true (.tuple #[])) #[.int .i64 0, .int .i64 0, .int .i64 0] 25 (by kernel_rfl)
          have hK7_g4q9 := Nat.le_trans hK7.size hge
          have hK7 := hK7.below hbb
          refine op_val (w' := W4q9) (a' := (tll_a65 t op a b c n g1 g3 g5 r7 sn9 g4q9)) (.pointer (some ⟨g4q9, 0, none⟩)) rfl (by kernel_rfl) (Eq.trans (b := (do pure (Next.value (← Instr.alloc 25 true (.tuple #[]))) : Sem Next).run Try.prog W4q7) (by kernel_rfl) (st_val hr)) (by kernel_rfl) ?_
          refine ⟨hW.tail, ?_⟩
          refine wpAnyH_all (rs := [8]) (by kernel_rfl) (by simp) ?_
          refine all_cons ?_ all_nil
          obtain ⟨g4q8, W4q8, hr, hW, hbb, hge⟩ := hW.mk1 (P := Try.prog) (s := Instr.alloc 25 true (.tuple #[])) #[.int .i64 0, .int .i64 0, .int .i64 0] 25 (by kernel_rfl)
          have hK7_g4q8 := Nat.le_trans hK7.size hge
          have hK7 := hK7.below hbb
          refine op_val (w' := W4q8) (a' := (tll_a67 t op a b c n g1 g3 g5 r7 sn9 g4q9 g4q8)) (.pointer (some ⟨g4q8, 0, none⟩)) rfl (by kernel_rfl) (Eq.trans (b := (do pure (Next.value (← Instr.alloc 25 true (.tuple #[]))) : Sem Next).run Try.prog W4q9) (by kernel_rfl) (st_val hr)) (by kernel_rfl) ?_
          refine ⟨hW.tail.tail, ?_⟩
          refine wpAnyH_all (rs := [10]) (by kernel_rfl) (by simp) ?_
          refine all_cons ?_ all_nil
          obtain ⟨W4q10, hr, hW, hF⟩ := hW.storeN (P := Try.prog) (o := 0) (cs' := #[.int .i64 (getR t.R a 0), .int .i64 (getR t.R a 1), .int .i64 (getR t.R a 2)]) (L' := [(g4q8, 25, #[.int .i64 (getR t.R a 0), .int .i64 (getR t.R a 1), .int .i64 (getR t.R a 2)]), (g4q9, 25, #[.int .i64 0, .int .i64 0, .int .i64 0]), (g5, 32, tll_c1), (g3, 45, #[.int .i64 op, .int .i64 a, .int .i64 b, .int .i64 c, .int .i64 n]), (g1, 32, (tll_c2 t r7))]) 0 rfl #[.int .i64 (getR t.R a 0), .int .i64 (getR t.R a 1), .int .i64 (getR t.R a 2)] (by (try subst e7); kernel_rfl) (Nat.le_of_ble_eq_true rfl) (by kernel_rfl) rfl 25 (by kernel_rfl)
          have hK7 := hK7.store hF (.inr hK7_g4q8)
          refine op_none (w' := W4q10) (a' := (tll_a67 t op a b c n g1 g3 g5 r7 sn9 g4q9 g4q8)) rfl (by kernel_rfl) (Eq.trans (b := (do Instr.storeAt 25 (.pointer (some ⟨g4q8, 0, none⟩)) (.agg #[.int .i64 (getR t.R a 0), .int .i64 (getR t.R a 1), .int .i64 (getR t.R a 2)]); pure Next.skip : Sem Next).run Try.prog W4q8) (by kernel_rfl) (st_unit hr)) (by kernel_rfl) ?_
          refine ⟨hW.tail.tail, ?_⟩
          refine wpAnyH_all (rs := [11]) (by kernel_rfl) (by simp) ?_
          refine all_cons ?_ all_nil
          obtain ⟨W4q11, hr, hW, hF⟩ := hW.storeN (P := Try.prog) (o := 0) (cs' := #[.int .i64 (getR t.R b 0), .int .i64 (getR t.R b 1), .int .i64 (getR t.R b 2)]) (L' := [(g4q8, 25, #[.int .i64 (getR t.R a 0), .int .i64 (getR t.R a 1), .int .i64 (getR t.R a 2)]), (g4q9, 25, #[.int .i64 (getR t.R b 0), .int .i64 (getR t.R b 1), .int .i64 (getR t.R b 2)]), (g5, 32, tll_c1), (g3, 45, #[.int .i64 op, .int .i64 a, .int .i64 b, .int .i64 c, .int .i64 n]), (g1, 32, (tll_c2 t r7))]) 1 rfl #[.int .i64 (getR t.R b 0), .int .i64 (getR t.R b 1), .int .i64 (getR t.R b 2)] (by (try subst e7); kernel_rfl) (Nat.le_of_ble_eq_true rfl) (by kernel_rfl) rfl 25 (by kernel_rfl)
          have hK7 := hK7.store hF (.inr hK7_g4q9)
          refine op_none (w' := W4q11) (a' := (tll_a67 t op a b c n g1 g3 g5 r7 sn9 g4q9 g4q8)) rfl (by kernel_rfl) (Eq.trans (b := (do Instr.storeAt 25 (.pointer (some ⟨g4q9, 0, none⟩)) (.agg #[.int .i64 (getR t.R b 0), .int .i64 (getR t.R b 1), .int .i64 (getR t.R b 2)]); pure Next.skip : Sem Next).run Try.prog W4q10) (by kernel_rfl) (st_unit hr)) (by kernel_rfl) ?_
          refine ⟨hW.tail.tail, ?_⟩
          refine wpAnyH_done (by kernel_rfl) ?_ _
          have hW := hW.swap
          simp only [Exit.then]
          exact ⟨g4q8, g4q9, rfl, hW, hK7, hK7_g4q8, hK7_g4q9⟩
        refine all_cons ?_ ?_
        · skip
          obtain ⟨g4q8, W4q8, hr, hW, hbb, hge⟩ := hW.mk1 (P := Try.prog) (s := Instr.alloc 25 true (.tuple #[])) #[.int .i64 0, .int .i64 0, .int .i64 0] 25 (by kernel_rfl)
          have hK7_g4q8 := Nat.le_trans hK7.size hge
          have hK7 := hK7.below hbb
          refine op_val (w' := W4q8) (a' := (tll_a69 t op a b c n g1 g3 g5 r7 sn9 g4q8)) (.pointer (some ⟨g4q8, 0, none⟩)) rfl (by kernel_rfl) (Eq.trans (b := (do pure (Next.value (← Instr.alloc 25 true (.tuple #[]))) : Sem Next).run Try.prog W4q3) (by kernel_rfl) (st_val hr)) (by kernel_rfl) ?_
          refine ⟨hW.tail, ?_⟩
          refine wpAnyH_all (rs := [7, 9]) (by kernel_rfl) (by simp) ?_
          refine all_cons ?_ ?_
          · skip
            refine op_call rfl (th_Get (⟨t.pc, t.fu, t.st, t.R, t.kd, t.mi, t.mn, r7.s, r7.b, r7.n, t.old⟩ : Th) b W4q8) (by kernel_rfl) (by kernel_rfl) ?_
            rintro _ W4q7 ⟨rfl, hB⟩
            have hW := hW.step hB
            have hK7 := hK7.below hB
            refine ⟨_, (tll_a61 t op a b c n g1 g3 g5 r7 sn9 g4q8), rfl, by (try subst e7); kernel_rfl, ?_⟩
            refine ⟨hW.tail, ?_⟩
            refine wpAnyH_all (rs := [9]) (by kernel_rfl) (by simp) ?_
            refine all_cons ?_ all_nil
            obtain ⟨g4q9, W4q9, hr, hW, hbb, hge⟩ := hW.mk1 (P := Try.prog) (s := Instr.alloc 25 true (.tuple #[])) #[.int .i64 0, .int .i64 0, .int .i64 0] 25 (by kernel_rfl)
            have hK7_g4q9 := Nat.le_trans hK7.size hge
            have hK7 := hK7.below hbb
            refine op_val (w' := W4q9) (a' := (tll_a63 t op a b c n g1 g3 g5 r7 sn9 g4q8 g4q9)) (.pointer (some ⟨g4q9, 0, none⟩)) rfl (by kernel_rfl) (Eq.trans (b := (do pure (Next.value (← Instr.alloc 25 true (.tuple #[]))) : Sem Next).run Try.prog W4q7) (by kernel_rfl) (st_val hr)) (by kernel_rfl) ?_
            refine ⟨hW.tail.tail, ?_⟩
            refine wpAnyH_all (rs := [10]) (by kernel_rfl) (by simp) ?_
            refine all_cons ?_ all_nil
            obtain ⟨W4q10, hr, hW, hF⟩ := hW.storeN (P := Try.prog) (o := 0) (cs' := #[.int .i64 (getR t.R a 0), .int .i64 (getR t.R a 1), .int .i64 (getR t.R a 2)]) (L' := [(g4q9, 25, #[.int .i64 0, .int .i64 0, .int .i64 0]), (g4q8, 25, #[.int .i64 (getR t.R a 0), .int .i64 (getR t.R a 1), .int .i64 (getR t.R a 2)]), (g5, 32, tll_c1), (g3, 45, #[.int .i64 op, .int .i64 a, .int .i64 b, .int .i64 c, .int .i64 n]), (g1, 32, (tll_c2 t r7))]) 1 rfl #[.int .i64 (getR t.R a 0), .int .i64 (getR t.R a 1), .int .i64 (getR t.R a 2)] (by (try subst e7); kernel_rfl) (Nat.le_of_ble_eq_true rfl) (by kernel_rfl) rfl 25 (by kernel_rfl)
            have hK7 := hK7.store hF (.inr hK7_g4q8)
            refine op_none (w' := W4q10) (a' := (tll_a63 t op a b c n g1 g3 g5 r7 sn9 g4q8 g4q9)) rfl (by kernel_rfl) (Eq.trans (b := (do Instr.storeAt 25 (.pointer (some ⟨g4q8, 0, none⟩)) (.agg #[.int .i64 (getR t.R a 0), .int .i64 (getR t.R a 1), .int .i64 (getR t.R a 2)]); pure Next.skip : Sem Next).run Try.prog W4q9) (by kernel_rfl) (st_unit hr)) (by kernel_rfl) ?_
            refine ⟨hW.tail.tail, ?_⟩
            refine wpAnyH_all (rs := [11]) (by kernel_rfl) (by simp) ?_
            refine all_cons ?_ all_nil
            obtain ⟨W4q11, hr, hW, hF⟩ := hW.storeN (P := Try.prog) (o := 0) (cs' := #[.int .i64 (getR t.R b 0), .int .i64 (getR t.R b 1), .int .i64 (getR t.R b 2)]) (L' := [(g4q9, 25, #[.int .i64 (getR t.R b 0), .int .i64 (getR t.R b 1), .int .i64 (getR t.R b 2)]), (g4q8, 25, #[.int .i64 (getR t.R a 0), .int .i64 (getR t.R a 1), .int .i64 (getR t.R a 2)]), (g5, 32, tll_c1), (g3, 45, #[.int .i64 op, .int .i64 a, .int .i64 b, .int .i64 c, .int .i64 n]), (g1, 32, (tll_c2 t r7))]) 0 rfl #[.int .i64 (getR t.R b 0), .int .i64 (getR t.R b 1), .int .i64 (getR t.R b 2)] (by (try subst e7); kernel_rfl) (Nat.le_of_ble_eq_true rfl) (by kernel_rfl) rfl 25 (by kernel_rfl)
            have hK7 := hK7.store hF (.inr hK7_g4q9)
            refine op_none (w' := W4q11) (a' := (tll_a63 t op a b c n g1 g3 g5 r7 sn9 g4q8 g4q9)) rfl (by kernel_rfl) (Eq.trans (b := (do Instr.storeAt 25 (.pointer (some ⟨g4q9, 0, none⟩)) (.agg #[.int .i64 (getR t.R b 0), .int .i64 (getR t.R b 1), .int .i64 (getR t.R b 2)]); pure Next.skip : Sem Next).run Try.prog W4q10) (by kernel_rfl) (st_unit hr)) (by kernel_rfl) ?_
            refine ⟨hW.tail.tail, ?_⟩
            refine wpAnyH_done (by kernel_rfl) ?_ _
            simp only [Exit.then]
            exact ⟨g4q8, g4q9, rfl, hW, hK7, hK7_g4q8, hK7_g4q9⟩
          refine all_cons ?_ all_nil
          obtain ⟨g4q9, W4q9, hr, hW, hbb, hge⟩ := hW.mk1 (P := Try.prog) (s := Instr.alloc 25 true (.tuple #[])) #[.int .i64 0, .int .i64 0, .int .i64 0] 25 (by kernel_rfl)
          have hK7_g4q9 := Nat.le_trans hK7.size hge
          have hK7 := hK7.below hbb
          refine op_val (w' := W4q9) (a' := (tll_a70 t op a b c n g1 g3 g5 r7 sn9 g4q8 g4q9)) (.pointer (some ⟨g4q9, 0, none⟩)) rfl (by kernel_rfl) (Eq.trans (b := (do pure (Next.value (← Instr.alloc 25 true (.tuple #[]))) : Sem Next).run Try.prog W4q8) (by kernel_rfl) (st_val hr)) (by kernel_rfl) ?_
          refine ⟨hW.tail.tail, ?_⟩
          refine wpAnyH_all (rs := [7]) (by kernel_rfl) (by simp) ?_
          refine all_cons ?_ all_nil
          refine op_call rfl (th_Get (⟨t.pc, t.fu, t.st, t.R, t.kd, t.mi, t.mn, r7.s, r7.b, r7.n, t.old⟩ : Th) b W4q9) (by kernel_rfl) (by kernel_rfl) ?_
          rintro _ W4q7 ⟨rfl, hB⟩
          have hW := hW.step hB
          have hK7 := hK7.below hB
          refine ⟨_, (tll_a63 t op a b c n g1 g3 g5 r7 sn9 g4q8 g4q9), rfl, by (try subst e7); kernel_rfl, ?_⟩
          refine ⟨hW.tail.tail, ?_⟩
          refine wpAnyH_all (rs := [10]) (by kernel_rfl) (by simp) ?_
          refine all_cons ?_ all_nil
          obtain ⟨W4q10, hr, hW, hF⟩ := hW.storeN (P := Try.prog) (o := 0) (cs' := #[.int .i64 (getR t.R a 0), .int .i64 (getR t.R a 1), .int .i64 (getR t.R a 2)]) (L' := [(g4q9, 25, #[.int .i64 0, .int .i64 0, .int .i64 0]), (g4q8, 25, #[.int .i64 (getR t.R a 0), .int .i64 (getR t.R a 1), .int .i64 (getR t.R a 2)]), (g5, 32, tll_c1), (g3, 45, #[.int .i64 op, .int .i64 a, .int .i64 b, .int .i64 c, .int .i64 n]), (g1, 32, (tll_c2 t r7))]) 1 rfl #[.int .i64 (getR t.R a 0), .int .i64 (getR t.R a 1), .int .i64 (getR t.R a 2)] (by (try subst e7); kernel_rfl) (Nat.le_of_ble_eq_true rfl) (by kernel_rfl) rfl 25 (by kernel_rfl)
          have hK7 := hK7.store hF (.inr hK7_g4q8)
          refine op_none (w' := W4q10) (a' := (tll_a63 t op a b c n g1 g3 g5 r7 sn9 g4q8 g4q9)) rfl (by kernel_rfl) (Eq.trans (b := (do Instr.storeAt 25 (.pointer (some ⟨g4q8, 0, none⟩)) (.agg #[.int .i64 (getR t.R a 0), .int .i64 (getR t.R a 1), .int .i64 (getR t.R a 2)]); pure Next.skip : Sem Next).run Try.prog W4q7) (by kernel_rfl) (st_unit hr)) (by kernel_rfl) ?_
          refine ⟨hW.tail.tail, ?_⟩
          refine wpAnyH_all (rs := [11]) (by kernel_rfl) (by simp) ?_
          refine all_cons ?_ all_nil
          obtain ⟨W4q11, hr, hW, hF⟩ := hW.storeN (P := Try.prog) (o := 0) (cs' := #[.int .i64 (getR t.R b 0), .int .i64 (getR t.R b 1), .int .i64 (getR t.R b 2)]) (L' := [(g4q9, 25, #[.int .i64 (getR t.R b 0), .int .i64 (getR t.R b 1), .int .i64 (getR t.R b 2)]), (g4q8, 25, #[.int .i64 (getR t.R a 0), .int .i64 (getR t.R a 1), .int .i64 (getR t.R a 2)]), (g5, 32, tll_c1), (g3, 45, #[.int .i64 op, .int .i64 a, .int .i64 b, .int .i64 c, .int .i64 n]), (g1, 32, (tll_c2 t r7))]) 0 rfl #[.int .i64 (getR t.R b 0), .int .i64 (getR t.R b 1), .int .i64 (getR t.R b 2)] (by (try subst e7); kernel_rfl) (Nat.le_of_ble_eq_true rfl) (by kernel_rfl) rfl 25 (by kernel_rfl)
          have hK7 := hK7.store hF (.inr hK7_g4q9)
          refine op_none (w' := W4q11) (a' := (tll_a63 t op a b c n g1 g3 g5 r7 sn9 g4q8 g4q9)) rfl (by kernel_rfl) (Eq.trans (b := (do Instr.storeAt 25 (.pointer (some ⟨g4q9, 0, none⟩)) (.agg #[.int .i64 (getR t.R b 0), .int .i64 (getR t.R b 1), .int .i64 (getR t.R b 2)]); pure Next.skip : Sem Next).run Try.prog W4q10) (by kernel_rfl) (st_unit hr)) (by kernel_rfl) ?_
          refine ⟨hW.tail.tail, ?_⟩
          refine wpAnyH_done (by kernel_rfl) ?_ _
          simp only [Exit.then]
          exact ⟨g4q8, g4q9, rfl, hW, hK7, hK7_g4q8, hK7_g4q9⟩
        refine all_cons ?_ all_nil
        obtain ⟨g4q9, W4q9, hr, hW, hbb, hge⟩ := hW.mk1 (P := Try.prog) (s := Instr.alloc 25 true (.tuple #[])) #[.int .i64 0, .int .i64 0, .int .i64 0] 25 (by kernel_rfl)
        have hK7_g4q9 := Nat.le_trans hK7.size hge
        have hK7 := hK7.below hbb
        refine op_val (w' := W4q9) (a' := (tll_a71 t op a b c n g1 g3 g5 r7 sn9 g4q9)) (.pointer (some ⟨g4q9, 0, none⟩)) rfl (by kernel_rfl) (Eq.trans (b := (do pure (Next.value (← Instr.alloc 25 true (.tuple #[]))) : Sem Next).run Try.prog W4q3) (by kernel_rfl) (st_val hr)) (by kernel_rfl) ?_
        refine ⟨hW.tail, ?_⟩
        refine wpAnyH_all (rs := [7, 8]) (by kernel_rfl) (by simp) ?_
        refine all_cons ?_ ?_
        · skip
          refine op_call rfl (th_Get (⟨t.pc, t.fu, t.st, t.R, t.kd, t.mi, t.mn, r7.s, r7.b, r7.n, t.old⟩ : Th) b W4q9) (by kernel_rfl) (by kernel_rfl) ?_
          rintro _ W4q7 ⟨rfl, hB⟩
          have hW := hW.step hB
          have hK7 := hK7.below hB
          refine ⟨_, (tll_a65 t op a b c n g1 g3 g5 r7 sn9 g4q9), rfl, by (try subst e7); kernel_rfl, ?_⟩
          refine ⟨hW.tail, ?_⟩
          refine wpAnyH_all (rs := [8]) (by kernel_rfl) (by simp) ?_
          refine all_cons ?_ all_nil
          obtain ⟨g4q8, W4q8, hr, hW, hbb, hge⟩ := hW.mk1 (P := Try.prog) (s := Instr.alloc 25 true (.tuple #[])) #[.int .i64 0, .int .i64 0, .int .i64 0] 25 (by kernel_rfl)
          have hK7_g4q8 := Nat.le_trans hK7.size hge
          have hK7 := hK7.below hbb
          refine op_val (w' := W4q8) (a' := (tll_a67 t op a b c n g1 g3 g5 r7 sn9 g4q9 g4q8)) (.pointer (some ⟨g4q8, 0, none⟩)) rfl (by kernel_rfl) (Eq.trans (b := (do pure (Next.value (← Instr.alloc 25 true (.tuple #[]))) : Sem Next).run Try.prog W4q7) (by kernel_rfl) (st_val hr)) (by kernel_rfl) ?_
          refine ⟨hW.tail.tail, ?_⟩
          refine wpAnyH_all (rs := [10]) (by kernel_rfl) (by simp) ?_
          refine all_cons ?_ all_nil
          obtain ⟨W4q10, hr, hW, hF⟩ := hW.storeN (P := Try.prog) (o := 0) (cs' := #[.int .i64 (getR t.R a 0), .int .i64 (getR t.R a 1), .int .i64 (getR t.R a 2)]) (L' := [(g4q8, 25, #[.int .i64 (getR t.R a 0), .int .i64 (getR t.R a 1), .int .i64 (getR t.R a 2)]), (g4q9, 25, #[.int .i64 0, .int .i64 0, .int .i64 0]), (g5, 32, tll_c1), (g3, 45, #[.int .i64 op, .int .i64 a, .int .i64 b, .int .i64 c, .int .i64 n]), (g1, 32, (tll_c2 t r7))]) 0 rfl #[.int .i64 (getR t.R a 0), .int .i64 (getR t.R a 1), .int .i64 (getR t.R a 2)] (by (try subst e7); kernel_rfl) (Nat.le_of_ble_eq_true rfl) (by kernel_rfl) rfl 25 (by kernel_rfl)
          have hK7 := hK7.store hF (.inr hK7_g4q8)
          refine op_none (w' := W4q10) (a' := (tll_a67 t op a b c n g1 g3 g5 r7 sn9 g4q9 g4q8)) rfl (by kernel_rfl) (Eq.trans (b := (do Instr.storeAt 25 (.pointer (some ⟨g4q8, 0, none⟩)) (.agg #[.int .i64 (getR t.R a 0), .int .i64 (getR t.R a 1), .int .i64 (getR t.R a 2)]); pure Next.skip : Sem Next).run Try.prog W4q8) (by kernel_rfl) (st_unit hr)) (by kernel_rfl) ?_
          refine ⟨hW.tail.tail, ?_⟩
          refine wpAnyH_all (rs := [11]) (by kernel_rfl) (by simp) ?_
          refine all_cons ?_ all_nil
          obtain ⟨W4q11, hr, hW, hF⟩ := hW.storeN (P := Try.prog) (o := 0) (cs' := #[.int .i64 (getR t.R b 0), .int .i64 (getR t.R b 1), .int .i64 (getR t.R b 2)]) (L' := [(g4q8, 25, #[.int .i64 (getR t.R a 0), .int .i64 (getR t.R a 1), .int .i64 (getR t.R a 2)]), (g4q9, 25, #[.int .i64 (getR t.R b 0), .int .i64 (getR t.R b 1), .int .i64 (getR t.R b 2)]), (g5, 32, tll_c1), (g3, 45, #[.int .i64 op, .int .i64 a, .int .i64 b, .int .i64 c, .int .i64 n]), (g1, 32, (tll_c2 t r7))]) 1 rfl #[.int .i64 (getR t.R b 0), .int .i64 (getR t.R b 1), .int .i64 (getR t.R b 2)] (by (try subst e7); kernel_rfl) (Nat.le_of_ble_eq_true rfl) (by kernel_rfl) rfl 25 (by kernel_rfl)
          have hK7 := hK7.store hF (.inr hK7_g4q9)
          refine op_none (w' := W4q11) (a' := (tll_a67 t op a b c n g1 g3 g5 r7 sn9 g4q9 g4q8)) rfl (by kernel_rfl) (Eq.trans (b := (do Instr.storeAt 25 (.pointer (some ⟨g4q9, 0, none⟩)) (.agg #[.int .i64 (getR t.R b 0), .int .i64 (getR t.R b 1), .int .i64 (getR t.R b 2)]); pure Next.skip : Sem Next).run Try.prog W4q10) (by kernel_rfl) (st_unit hr)) (by kernel_rfl) ?_
          refine ⟨hW.tail.tail, ?_⟩
          refine wpAnyH_done (by kernel_rfl) ?_ _
          have hW := hW.swap
          simp only [Exit.then]
          exact ⟨g4q8, g4q9, rfl, hW, hK7, hK7_g4q8, hK7_g4q9⟩
        refine all_cons ?_ all_nil
        obtain ⟨g4q8, W4q8, hr, hW, hbb, hge⟩ := hW.mk1 (P := Try.prog) (s := Instr.alloc 25 true (.tuple #[])) #[.int .i64 0, .int .i64 0, .int .i64 0] 25 (by kernel_rfl)
        have hK7_g4q8 := Nat.le_trans hK7.size hge
        have hK7 := hK7.below hbb
        refine op_val (w' := W4q8) (a' := (tll_a72 t op a b c n g1 g3 g5 r7 sn9 g4q9 g4q8)) (.pointer (some ⟨g4q8, 0, none⟩)) rfl (by kernel_rfl) (Eq.trans (b := (do pure (Next.value (← Instr.alloc 25 true (.tuple #[]))) : Sem Next).run Try.prog W4q9) (by kernel_rfl) (st_val hr)) (by kernel_rfl) ?_
        refine ⟨hW.tail.tail, ?_⟩
        refine wpAnyH_all (rs := [7]) (by kernel_rfl) (by simp) ?_
        refine all_cons ?_ all_nil
        refine op_call rfl (th_Get (⟨t.pc, t.fu, t.st, t.R, t.kd, t.mi, t.mn, r7.s, r7.b, r7.n, t.old⟩ : Th) b W4q8) (by kernel_rfl) (by kernel_rfl) ?_
        rintro _ W4q7 ⟨rfl, hB⟩
        have hW := hW.step hB
        have hK7 := hK7.below hB
        refine ⟨_, (tll_a67 t op a b c n g1 g3 g5 r7 sn9 g4q9 g4q8), rfl, by (try subst e7); kernel_rfl, ?_⟩
        refine ⟨hW.tail.tail, ?_⟩
        refine wpAnyH_all (rs := [10]) (by kernel_rfl) (by simp) ?_
        refine all_cons ?_ all_nil
        obtain ⟨W4q10, hr, hW, hF⟩ := hW.storeN (P := Try.prog) (o := 0) (cs' := #[.int .i64 (getR t.R a 0), .int .i64 (getR t.R a 1), .int .i64 (getR t.R a 2)]) (L' := [(g4q8, 25, #[.int .i64 (getR t.R a 0), .int .i64 (getR t.R a 1), .int .i64 (getR t.R a 2)]), (g4q9, 25, #[.int .i64 0, .int .i64 0, .int .i64 0]), (g5, 32, tll_c1), (g3, 45, #[.int .i64 op, .int .i64 a, .int .i64 b, .int .i64 c, .int .i64 n]), (g1, 32, (tll_c2 t r7))]) 0 rfl #[.int .i64 (getR t.R a 0), .int .i64 (getR t.R a 1), .int .i64 (getR t.R a 2)] (by (try subst e7); kernel_rfl) (Nat.le_of_ble_eq_true rfl) (by kernel_rfl) rfl 25 (by kernel_rfl)
        have hK7 := hK7.store hF (.inr hK7_g4q8)
        refine op_none (w' := W4q10) (a' := (tll_a67 t op a b c n g1 g3 g5 r7 sn9 g4q9 g4q8)) rfl (by kernel_rfl) (Eq.trans (b := (do Instr.storeAt 25 (.pointer (some ⟨g4q8, 0, none⟩)) (.agg #[.int .i64 (getR t.R a 0), .int .i64 (getR t.R a 1), .int .i64 (getR t.R a 2)]); pure Next.skip : Sem Next).run Try.prog W4q7) (by kernel_rfl) (st_unit hr)) (by kernel_rfl) ?_
        refine ⟨hW.tail.tail, ?_⟩
        refine wpAnyH_all (rs := [11]) (by kernel_rfl) (by simp) ?_
        refine all_cons ?_ all_nil
        obtain ⟨W4q11, hr, hW, hF⟩ := hW.storeN (P := Try.prog) (o := 0) (cs' := #[.int .i64 (getR t.R b 0), .int .i64 (getR t.R b 1), .int .i64 (getR t.R b 2)]) (L' := [(g4q8, 25, #[.int .i64 (getR t.R a 0), .int .i64 (getR t.R a 1), .int .i64 (getR t.R a 2)]), (g4q9, 25, #[.int .i64 (getR t.R b 0), .int .i64 (getR t.R b 1), .int .i64 (getR t.R b 2)]), (g5, 32, tll_c1), (g3, 45, #[.int .i64 op, .int .i64 a, .int .i64 b, .int .i64 c, .int .i64 n]), (g1, 32, (tll_c2 t r7))]) 1 rfl #[.int .i64 (getR t.R b 0), .int .i64 (getR t.R b 1), .int .i64 (getR t.R b 2)] (by (try subst e7); kernel_rfl) (Nat.le_of_ble_eq_true rfl) (by kernel_rfl) rfl 25 (by kernel_rfl)
        have hK7 := hK7.store hF (.inr hK7_g4q9)
        refine op_none (w' := W4q11) (a' := (tll_a67 t op a b c n g1 g3 g5 r7 sn9 g4q9 g4q8)) rfl (by kernel_rfl) (Eq.trans (b := (do Instr.storeAt 25 (.pointer (some ⟨g4q9, 0, none⟩)) (.agg #[.int .i64 (getR t.R b 0), .int .i64 (getR t.R b 1), .int .i64 (getR t.R b 2)]); pure Next.skip : Sem Next).run Try.prog W4q10) (by kernel_rfl) (st_unit hr)) (by kernel_rfl) ?_
        refine ⟨hW.tail.tail, ?_⟩
        refine wpAnyH_done (by kernel_rfl) ?_ _
        have hW := hW.swap
        simp only [Exit.then]
        exact ⟨g4q8, g4q9, rfl, hW, hK7, hK7_g4q8, hK7_g4q9⟩
      refine all_cons ?_ ?_
      · skip
        obtain ⟨g4q8, W4q8, hr, hW, hbb, hge⟩ := hW.mk1 (P := Try.prog) (s := Instr.alloc 25 true (.tuple #[])) #[.int .i64 0, .int .i64 0, .int .i64 0] 25 (by kernel_rfl)
        have hK7_g4q8 := Nat.le_trans hK7.size hge
        have hK7 := hK7.below hbb
        refine op_val (w' := W4q8) (a' := (tll_a73 t op a b c n g1 g3 g5 r7 sn9 g4q8)) (.pointer (some ⟨g4q8, 0, none⟩)) rfl (by kernel_rfl) (Eq.trans (b := (do pure (Next.value (← Instr.alloc 25 true (.tuple #[]))) : Sem Next).run Try.prog W10.drew) (by kernel_rfl) (st_val hr)) (by kernel_rfl) ?_
        refine ⟨hW.tail, ?_⟩
        refine wpAnyH_all (rs := [3, 9]) (by kernel_rfl) (by simp) ?_
        refine all_cons ?_ ?_
        · skip
          refine op_call rfl (th_Get (⟨t.pc, t.fu, t.st, t.R, t.kd, t.mi, t.mn, r7.s, r7.b, r7.n, t.old⟩ : Th) a W4q8) (by kernel_rfl) (by kernel_rfl) ?_
          rintro _ W4q3 ⟨rfl, hB⟩
          have hW := hW.step hB
          have hK7 := hK7.below hB
          refine ⟨_, (tll_a69 t op a b c n g1 g3 g5 r7 sn9 g4q8), rfl, by (try subst e7); kernel_rfl, ?_⟩
          refine ⟨hW.tail, ?_⟩
          refine wpAnyH_all (rs := [7, 9]) (by kernel_rfl) (by simp) ?_
          refine all_cons ?_ ?_
          · skip
            refine op_call rfl (th_Get (⟨t.pc, t.fu, t.st, t.R, t.kd, t.mi, t.mn, r7.s, r7.b, r7.n, t.old⟩ : Th) b W4q3) (by kernel_rfl) (by kernel_rfl) ?_
            rintro _ W4q7 ⟨rfl, hB⟩
            have hW := hW.step hB
            have hK7 := hK7.below hB
            refine ⟨_, (tll_a61 t op a b c n g1 g3 g5 r7 sn9 g4q8), rfl, by (try subst e7); kernel_rfl, ?_⟩
            refine ⟨hW.tail, ?_⟩
            refine wpAnyH_all (rs := [9]) (by kernel_rfl) (by simp) ?_
            refine all_cons ?_ all_nil
            obtain ⟨g4q9, W4q9, hr, hW, hbb, hge⟩ := hW.mk1 (P := Try.prog) (s := Instr.alloc 25 true (.tuple #[])) #[.int .i64 0, .int .i64 0, .int .i64 0] 25 (by kernel_rfl)
            have hK7_g4q9 := Nat.le_trans hK7.size hge
            have hK7 := hK7.below hbb
            refine op_val (w' := W4q9) (a' := (tll_a63 t op a b c n g1 g3 g5 r7 sn9 g4q8 g4q9)) (.pointer (some ⟨g4q9, 0, none⟩)) rfl (by kernel_rfl) (Eq.trans (b := (do pure (Next.value (← Instr.alloc 25 true (.tuple #[]))) : Sem Next).run Try.prog W4q7) (by kernel_rfl) (st_val hr)) (by kernel_rfl) ?_
            refine ⟨hW.tail.tail, ?_⟩
            refine wpAnyH_all (rs := [10]) (by kernel_rfl) (by simp) ?_
            refine all_cons ?_ all_nil
            obtain ⟨W4q10, hr, hW, hF⟩ := hW.storeN (P := Try.prog) (o := 0) (cs' := #[.int .i64 (getR t.R a 0), .int .i64 (getR t.R a 1), .int .i64 (getR t.R a 2)]) (L' := [(g4q9, 25, #[.int .i64 0, .int .i64 0, .int .i64 0]), (g4q8, 25, #[.int .i64 (getR t.R a 0), .int .i64 (getR t.R a 1), .int .i64 (getR t.R a 2)]), (g5, 32, tll_c1), (g3, 45, #[.int .i64 op, .int .i64 a, .int .i64 b, .int .i64 c, .int .i64 n]), (g1, 32, (tll_c2 t r7))]) 1 rfl #[.int .i64 (getR t.R a 0), .int .i64 (getR t.R a 1), .int .i64 (getR t.R a 2)] (by (try subst e7); kernel_rfl) (Nat.le_of_ble_eq_true rfl) (by kernel_rfl) rfl 25 (by kernel_rfl)
            have hK7 := hK7.store hF (.inr hK7_g4q8)
            refine op_none (w' := W4q10) (a' := (tll_a63 t op a b c n g1 g3 g5 r7 sn9 g4q8 g4q9)) rfl (by kernel_rfl) (Eq.trans (b := (do Instr.storeAt 25 (.pointer (some ⟨g4q8, 0, none⟩)) (.agg #[.int .i64 (getR t.R a 0), .int .i64 (getR t.R a 1), .int .i64 (getR t.R a 2)]); pure Next.skip : Sem Next).run Try.prog W4q9) (by kernel_rfl) (st_unit hr)) (by kernel_rfl) ?_
            refine ⟨hW.tail.tail, ?_⟩
            refine wpAnyH_all (rs := [11]) (by kernel_rfl) (by simp) ?_
            refine all_cons ?_ all_nil
            obtain ⟨W4q11, hr, hW, hF⟩ := hW.storeN (P := Try.prog) (o := 0) (cs' := #[.int .i64 (getR t.R b 0), .int .i64 (getR t.R b 1), .int .i64 (getR t.R b 2)]) (L' := [(g4q9, 25, #[.int .i64 (getR t.R b 0), .int .i64 (getR t.R b 1), .int .i64 (getR t.R b 2)]), (g4q8, 25, #[.int .i64 (getR t.R a 0), .int .i64 (getR t.R a 1), .int .i64 (getR t.R a 2)]), (g5, 32, tll_c1), (g3, 45, #[.int .i64 op, .int .i64 a, .int .i64 b, .int .i64 c, .int .i64 n]), (g1, 32, (tll_c2 t r7))]) 0 rfl #[.int .i64 (getR t.R b 0), .int .i64 (getR t.R b 1), .int .i64 (getR t.R b 2)] (by (try subst e7); kernel_rfl) (Nat.le_of_ble_eq_true rfl) (by kernel_rfl) rfl 25 (by kernel_rfl)
            have hK7 := hK7.store hF (.inr hK7_g4q9)
            refine op_none (w' := W4q11) (a' := (tll_a63 t op a b c n g1 g3 g5 r7 sn9 g4q8 g4q9)) rfl (by kernel_rfl) (Eq.trans (b := (do Instr.storeAt 25 (.pointer (some ⟨g4q9, 0, none⟩)) (.agg #[.int .i64 (getR t.R b 0), .int .i64 (getR t.R b 1), .int .i64 (getR t.R b 2)]); pure Next.skip : Sem Next).run Try.prog W4q10) (by kernel_rfl) (st_unit hr)) (by kernel_rfl) ?_
            refine ⟨hW.tail.tail, ?_⟩
            refine wpAnyH_done (by kernel_rfl) ?_ _
            simp only [Exit.then]
            exact ⟨g4q8, g4q9, rfl, hW, hK7, hK7_g4q8, hK7_g4q9⟩
          refine all_cons ?_ all_nil
          obtain ⟨g4q9, W4q9, hr, hW, hbb, hge⟩ := hW.mk1 (P := Try.prog) (s := Instr.alloc 25 true (.tuple #[])) #[.int .i64 0, .int .i64 0, .int .i64 0] 25 (by kernel_rfl)
          have hK7_g4q9 := Nat.le_trans hK7.size hge
          have hK7 := hK7.below hbb
          refine op_val (w' := W4q9) (a' := (tll_a70 t op a b c n g1 g3 g5 r7 sn9 g4q8 g4q9)) (.pointer (some ⟨g4q9, 0, none⟩)) rfl (by kernel_rfl) (Eq.trans (b := (do pure (Next.value (← Instr.alloc 25 true (.tuple #[]))) : Sem Next).run Try.prog W4q3) (by kernel_rfl) (st_val hr)) (by kernel_rfl) ?_
          refine ⟨hW.tail.tail, ?_⟩
          refine wpAnyH_all (rs := [7]) (by kernel_rfl) (by simp) ?_
          refine all_cons ?_ all_nil
          refine op_call rfl (th_Get (⟨t.pc, t.fu, t.st, t.R, t.kd, t.mi, t.mn, r7.s, r7.b, r7.n, t.old⟩ : Th) b W4q9) (by kernel_rfl) (by kernel_rfl) ?_
          rintro _ W4q7 ⟨rfl, hB⟩
          have hW := hW.step hB
          have hK7 := hK7.below hB
          refine ⟨_, (tll_a63 t op a b c n g1 g3 g5 r7 sn9 g4q8 g4q9), rfl, by (try subst e7); kernel_rfl, ?_⟩
          refine ⟨hW.tail.tail, ?_⟩
          refine wpAnyH_all (rs := [10]) (by kernel_rfl) (by simp) ?_
          refine all_cons ?_ all_nil
          obtain ⟨W4q10, hr, hW, hF⟩ := hW.storeN (P := Try.prog) (o := 0) (cs' := #[.int .i64 (getR t.R a 0), .int .i64 (getR t.R a 1), .int .i64 (getR t.R a 2)]) (L' := [(g4q9, 25, #[.int .i64 0, .int .i64 0, .int .i64 0]), (g4q8, 25, #[.int .i64 (getR t.R a 0), .int .i64 (getR t.R a 1), .int .i64 (getR t.R a 2)]), (g5, 32, tll_c1), (g3, 45, #[.int .i64 op, .int .i64 a, .int .i64 b, .int .i64 c, .int .i64 n]), (g1, 32, (tll_c2 t r7))]) 1 rfl #[.int .i64 (getR t.R a 0), .int .i64 (getR t.R a 1), .int .i64 (getR t.R a 2)] (by (try subst e7); kernel_rfl) (Nat.le_of_ble_eq_true rfl) (by kernel_rfl) rfl 25 (by kernel_rfl)
          have hK7 := hK7.store hF (.inr hK7_g4q8)
          refine op_none (w' := W4q10) (a' := (tll_a63 t op a b c n g1 g3 g5 r7 sn9 g4q8 g4q9)) rfl (by kernel_rfl) (Eq.trans (b := (do Instr.storeAt 25 (.pointer (some ⟨g4q8, 0, none⟩)) (.agg #[.int .i64 (getR t.R a 0), .int .i64 (getR t.R a 1), .int .i64 (getR t.R a 2)]); pure Next.skip : Sem Next).run Try.prog W4q7) (by kernel_rfl) (st_unit hr)) (by kernel_rfl) ?_
          refine ⟨hW.tail.tail, ?_⟩
          refine wpAnyH_all (rs := [11]) (by kernel_rfl) (by simp) ?_
          refine all_cons ?_ all_nil
          obtain ⟨W4q11, hr, hW, hF⟩ := hW.storeN (P := Try.prog) (o := 0) (cs' := #[.int .i64 (getR t.R b 0), .int .i64 (getR t.R b 1), .int .i64 (getR t.R b 2)]) (L' := [(g4q9, 25, #[.int .i64 (getR t.R b 0), .int .i64 (getR t.R b 1), .int .i64 (getR t.R b 2)]), (g4q8, 25, #[.int .i64 (getR t.R a 0), .int .i64 (getR t.R a 1), .int .i64 (getR t.R a 2)]), (g5, 32, tll_c1), (g3, 45, #[.int .i64 op, .int .i64 a, .int .i64 b, .int .i64 c, .int .i64 n]), (g1, 32, (tll_c2 t r7))]) 0 rfl #[.int .i64 (getR t.R b 0), .int .i64 (getR t.R b 1), .int .i64 (getR t.R b 2)] (by (try subst e7); kernel_rfl) (Nat.le_of_ble_eq_true rfl) (by kernel_rfl) rfl 25 (by kernel_rfl)
          have hK7 := hK7.store hF (.inr hK7_g4q9)
          refine op_none (w' := W4q11) (a' := (tll_a63 t op a b c n g1 g3 g5 r7 sn9 g4q8 g4q9)) rfl (by kernel_rfl) (Eq.trans (b := (do Instr.storeAt 25 (.pointer (some ⟨g4q9, 0, none⟩)) (.agg #[.int .i64 (getR t.R b 0), .int .i64 (getR t.R b 1), .int .i64 (getR t.R b 2)]); pure Next.skip : Sem Next).run Try.prog W4q10) (by kernel_rfl) (st_unit hr)) (by kernel_rfl) ?_
          refine ⟨hW.tail.tail, ?_⟩
          refine wpAnyH_done (by kernel_rfl) ?_ _
          simp only [Exit.then]
          exact ⟨g4q8, g4q9, rfl, hW, hK7, hK7_g4q8, hK7_g4q9⟩
        refine all_cons ?_ all_nil
        obtain ⟨g4q9, W4q9, hr, hW, hbb, hge⟩ := hW.mk1 (P := Try.prog) (s := Instr.alloc 25 true (.tuple #[])) #[.int .i64 0, .int .i64 0, .int .i64 0] 25 (by kernel_rfl)
        have hK7_g4q9 := Nat.le_trans hK7.size hge
        have hK7 := hK7.below hbb
        refine op_val (w' := W4q9) (a' := (tll_a74 t op a b c n g1 g3 g5 r7 sn9 g4q8 g4q9)) (.pointer (some ⟨g4q9, 0, none⟩)) rfl (by kernel_rfl) (Eq.trans (b := (do pure (Next.value (← Instr.alloc 25 true (.tuple #[]))) : Sem Next).run Try.prog W4q8) (by kernel_rfl) (st_val hr)) (by kernel_rfl) ?_
        refine ⟨hW.tail.tail, ?_⟩
        refine wpAnyH_all (rs := [3]) (by kernel_rfl) (by simp) ?_
        refine all_cons ?_ all_nil
        refine op_call rfl (th_Get (⟨t.pc, t.fu, t.st, t.R, t.kd, t.mi, t.mn, r7.s, r7.b, r7.n, t.old⟩ : Th) a W4q9) (by kernel_rfl) (by kernel_rfl) ?_
        rintro _ W4q3 ⟨rfl, hB⟩
        have hW := hW.step hB
        have hK7 := hK7.below hB
        refine ⟨_, (tll_a70 t op a b c n g1 g3 g5 r7 sn9 g4q8 g4q9), rfl, by (try subst e7); kernel_rfl, ?_⟩
        refine ⟨hW.tail.tail, ?_⟩
        refine wpAnyH_all (rs := [7]) (by kernel_rfl) (by simp) ?_
        refine all_cons ?_ all_nil
        refine op_call rfl (th_Get (⟨t.pc, t.fu, t.st, t.R, t.kd, t.mi, t.mn, r7.s, r7.b, r7.n, t.old⟩ : Th) b W4q3) (by kernel_rfl) (by kernel_rfl) ?_
        rintro _ W4q7 ⟨rfl, hB⟩
        have hW := hW.step hB
        have hK7 := hK7.below hB
        refine ⟨_, (tll_a63 t op a b c n g1 g3 g5 r7 sn9 g4q8 g4q9), rfl, by (try subst e7); kernel_rfl, ?_⟩
        refine ⟨hW.tail.tail, ?_⟩
        refine wpAnyH_all (rs := [10]) (by kernel_rfl) (by simp) ?_
        refine all_cons ?_ all_nil
        obtain ⟨W4q10, hr, hW, hF⟩ := hW.storeN (P := Try.prog) (o := 0) (cs' := #[.int .i64 (getR t.R a 0), .int .i64 (getR t.R a 1), .int .i64 (getR t.R a 2)]) (L' := [(g4q9, 25, #[.int .i64 0, .int .i64 0, .int .i64 0]), (g4q8, 25, #[.int .i64 (getR t.R a 0), .int .i64 (getR t.R a 1), .int .i64 (getR t.R a 2)]), (g5, 32, tll_c1), (g3, 45, #[.int .i64 op, .int .i64 a, .int .i64 b, .int .i64 c, .int .i64 n]), (g1, 32, (tll_c2 t r7))]) 1 rfl #[.int .i64 (getR t.R a 0), .int .i64 (getR t.R a 1), .int .i64 (getR t.R a 2)] (by (try subst e7); kernel_rfl) (Nat.le_of_ble_eq_true rfl) (by kernel_rfl) rfl 25 (by kernel_rfl)
        have hK7 := hK7.store hF (.inr hK7_g4q8)
        refine op_none (w' := W4q10) (a' := (tll_a63 t op a b c n g1 g3 g5 r7 sn9 g4q8 g4q9)) rfl (by kernel_rfl) (Eq.trans (b := (do Instr.storeAt 25 (.pointer (some ⟨g4q8, 0, none⟩)) (.agg #[.int .i64 (getR t.R a 0), .int .i64 (getR t.R a 1), .int .i64 (getR t.R a 2)]); pure Next.skip : Sem Next).run Try.prog W4q7) (by kernel_rfl) (st_unit hr)) (by kernel_rfl) ?_
        refine ⟨hW.tail.tail, ?_⟩
        refine wpAnyH_all (rs := [11]) (by kernel_rfl) (by simp) ?_
        refine all_cons ?_ all_nil
        obtain ⟨W4q11, hr, hW, hF⟩ := hW.storeN (P := Try.prog) (o := 0) (cs' := #[.int .i64 (getR t.R b 0), .int .i64 (getR t.R b 1), .int .i64 (getR t.R b 2)]) (L' := [(g4q9, 25, #[.int .i64 (getR t.R b 0), .int .i64 (getR t.R b 1), .int .i64 (getR t.R b 2)]), (g4q8, 25, #[.int .i64 (getR t.R a 0), .int .i64 (getR t.R a 1), .int .i64 (getR t.R a 2)]), (g5, 32, tll_c1), (g3, 45, #[.int .i64 op, .int .i64 a, .int .i64 b, .int .i64 c, .int .i64 n]), (g1, 32, (tll_c2 t r7))]) 0 rfl #[.int .i64 (getR t.R b 0), .int .i64 (getR t.R b 1), .int .i64 (getR t.R b 2)] (by (try subst e7); kernel_rfl) (Nat.le_of_ble_eq_true rfl) (by kernel_rfl) rfl 25 (by kernel_rfl)
        have hK7 := hK7.store hF (.inr hK7_g4q9)
        refine op_none (w' := W4q11) (a' := (tll_a63 t op a b c n g1 g3 g5 r7 sn9 g4q8 g4q9)) rfl (by kernel_rfl) (Eq.trans (b := (do Instr.storeAt 25 (.pointer (some ⟨g4q9, 0, none⟩)) (.agg #[.int .i64 (getR t.R b 0), .int .i64 (getR t.R b 1), .int .i64 (getR t.R b 2)]); pure Next.skip : Sem Next).run Try.prog W4q10) (by kernel_rfl) (st_unit hr)) (by kernel_rfl) ?_
        refine ⟨hW.tail.tail, ?_⟩
        refine wpAnyH_done (by kernel_rfl) ?_ _
        simp only [Exit.then]
        exact ⟨g4q8, g4q9, rfl, hW, hK7, hK7_g4q8, hK7_g4q9⟩
      refine all_cons ?_ all_nil
      obtain ⟨g4q9, W4q9, hr, hW, hbb, hge⟩ := hW.mk1 (P := Try.prog) (s := Instr.alloc 25 true (.tuple #[])) #[.int .i64 0, .int .i64 0, .int .i64 0] 25 (by kernel_rfl)
      have hK7_g4q9 := Nat.le_trans hK7.size hge
      have hK7 := hK7.below hbb
      refine op_val (w' := W4q9) (a' := (tll_a75 t op a b c n g1 g3 g5 r7 sn9 g4q9)) (.pointer (some ⟨g4q9, 0, none⟩)) rfl (by kernel_rfl) (Eq.trans (b := (do pure (Next.value (← Instr.alloc 25 true (.tuple #[]))) : Sem Next).run Try.prog W10.drew) (by kernel_rfl) (st_val hr)) (by kernel_rfl) ?_
      refine ⟨hW.tail, ?_⟩
      refine wpAnyH_all (rs := [3, 8]) (by kernel_rfl) (by simp) ?_
      refine all_cons ?_ ?_
      · skip
        refine op_call rfl (th_Get (⟨t.pc, t.fu, t.st, t.R, t.kd, t.mi, t.mn, r7.s, r7.b, r7.n, t.old⟩ : Th) a W4q9) (by kernel_rfl) (by kernel_rfl) ?_
        rintro _ W4q3 ⟨rfl, hB⟩
        have hW := hW.step hB
        have hK7 := hK7.below hB
        refine ⟨_, (tll_a71 t op a b c n g1 g3 g5 r7 sn9 g4q9), rfl, by (try subst e7); kernel_rfl, ?_⟩
        refine ⟨hW.tail, ?_⟩
        refine wpAnyH_all (rs := [7, 8]) (by kernel_rfl) (by simp) ?_
        refine all_cons ?_ ?_
        · skip
          refine op_call rfl (th_Get (⟨t.pc, t.fu, t.st, t.R, t.kd, t.mi, t.mn, r7.s, r7.b, r7.n, t.old⟩ : Th) b W4q3) (by kernel_rfl) (by kernel_rfl) ?_
          rintro _ W4q7 ⟨rfl, hB⟩
          have hW := hW.step hB
          have hK7 := hK7.below hB
          refine ⟨_, (tll_a65 t op a b c n g1 g3 g5 r7 sn9 g4q9), rfl, by (try subst e7); kernel_rfl, ?_⟩
          refine ⟨hW.tail, ?_⟩
          refine wpAnyH_all (rs := [8]) (by kernel_rfl) (by simp) ?_
          refine all_cons ?_ all_nil
          obtain ⟨g4q8, W4q8, hr, hW, hbb, hge⟩ := hW.mk1 (P := Try.prog) (s := Instr.alloc 25 true (.tuple #[])) #[.int .i64 0, .int .i64 0, .int .i64 0] 25 (by kernel_rfl)
          have hK7_g4q8 := Nat.le_trans hK7.size hge
          have hK7 := hK7.below hbb
          refine op_val (w' := W4q8) (a' := (tll_a67 t op a b c n g1 g3 g5 r7 sn9 g4q9 g4q8)) (.pointer (some ⟨g4q8, 0, none⟩)) rfl (by kernel_rfl) (Eq.trans (b := (do pure (Next.value (← Instr.alloc 25 true (.tuple #[]))) : Sem Next).run Try.prog W4q7) (by kernel_rfl) (st_val hr)) (by kernel_rfl) ?_
          refine ⟨hW.tail.tail, ?_⟩
          refine wpAnyH_all (rs := [10]) (by kernel_rfl) (by simp) ?_
          refine all_cons ?_ all_nil
          obtain ⟨W4q10, hr, hW, hF⟩ := hW.storeN (P := Try.prog) (o := 0) (cs' := #[.int .i64 (getR t.R a 0), .int .i64 (getR t.R a 1), .int .i64 (getR t.R a 2)]) (L' := [(g4q8, 25, #[.int .i64 (getR t.R a 0), .int .i64 (getR t.R a 1), .int .i64 (getR t.R a 2)]), (g4q9, 25, #[.int .i64 0, .int .i64 0, .int .i64 0]), (g5, 32, tll_c1), (g3, 45, #[.int .i64 op, .int .i64 a, .int .i64 b, .int .i64 c, .int .i64 n]), (g1, 32, (tll_c2 t r7))]) 0 rfl #[.int .i64 (getR t.R a 0), .int .i64 (getR t.R a 1), .int .i64 (getR t.R a 2)] (by (try subst e7); kernel_rfl) (Nat.le_of_ble_eq_true rfl) (by kernel_rfl) rfl 25 (by kernel_rfl)
          have hK7 := hK7.store hF (.inr hK7_g4q8)
          refine op_none (w' := W4q10) (a' := (tll_a67 t op a b c n g1 g3 g5 r7 sn9 g4q9 g4q8)) rfl (by kernel_rfl) (Eq.trans (b := (do Instr.storeAt 25 (.pointer (some ⟨g4q8, 0, none⟩)) (.agg #[.int .i64 (getR t.R a 0), .int .i64 (getR t.R a 1), .int .i64 (getR t.R a 2)]); pure Next.skip : Sem Next).run Try.prog W4q8) (by kernel_rfl) (st_unit hr)) (by kernel_rfl) ?_
          refine ⟨hW.tail.tail, ?_⟩
          refine wpAnyH_all (rs := [11]) (by kernel_rfl) (by simp) ?_
          refine all_cons ?_ all_nil
          obtain ⟨W4q11, hr, hW, hF⟩ := hW.storeN (P := Try.prog) (o := 0) (cs' := #[.int .i64 (getR t.R b 0), .int .i64 (getR t.R b 1), .int .i64 (getR t.R b 2)]) (L' := [(g4q8, 25, #[.int .i64 (getR t.R a 0), .int .i64 (getR t.R a 1), .int .i64 (getR t.R a 2)]), (g4q9, 25, #[.int .i64 (getR t.R b 0), .int .i64 (getR t.R b 1), .int .i64 (getR t.R b 2)]), (g5, 32, tll_c1), (g3, 45, #[.int .i64 op, .int .i64 a, .int .i64 b, .int .i64 c, .int .i64 n]), (g1, 32, (tll_c2 t r7))]) 1 rfl #[.int .i64 (getR t.R b 0), .int .i64 (getR t.R b 1), .int .i64 (getR t.R b 2)] (by (try subst e7); kernel_rfl) (Nat.le_of_ble_eq_true rfl) (by kernel_rfl) rfl 25 (by kernel_rfl)
          have hK7 := hK7.store hF (.inr hK7_g4q9)
          refine op_none (w' := W4q11) (a' := (tll_a67 t op a b c n g1 g3 g5 r7 sn9 g4q9 g4q8)) rfl (by kernel_rfl) (Eq.trans (b := (do Instr.storeAt 25 (.pointer (some ⟨g4q9, 0, none⟩)) (.agg #[.int .i64 (getR t.R b 0), .int .i64 (getR t.R b 1), .int .i64 (getR t.R b 2)]); pure Next.skip : Sem Next).run Try.prog W4q10) (by kernel_rfl) (st_unit hr)) (by kernel_rfl) ?_
          refine ⟨hW.tail.tail, ?_⟩
          refine wpAnyH_done (by kernel_rfl) ?_ _
          have hW := hW.swap
          simp only [Exit.then]
          exact ⟨g4q8, g4q9, rfl, hW, hK7, hK7_g4q8, hK7_g4q9⟩
        refine all_cons ?_ all_nil
        obtain ⟨g4q8, W4q8, hr, hW, hbb, hge⟩ := hW.mk1 (P := Try.prog) (s := Instr.alloc 25 true (.tuple #[])) #[.int .i64 0, .int .i64 0, .int .i64 0] 25 (by kernel_rfl)
        have hK7_g4q8 := Nat.le_trans hK7.size hge
        have hK7 := hK7.below hbb
        refine op_val (w' := W4q8) (a' := (tll_a72 t op a b c n g1 g3 g5 r7 sn9 g4q9 g4q8)) (.pointer (some ⟨g4q8, 0, none⟩)) rfl (by kernel_rfl) (Eq.trans (b := (do pure (Next.value (← Instr.alloc 25 true (.tuple #[]))) : Sem Next).run Try.prog W4q3) (by kernel_rfl) (st_val hr)) (by kernel_rfl) ?_
        refine ⟨hW.tail.tail, ?_⟩
        refine wpAnyH_all (rs := [7]) (by kernel_rfl) (by simp) ?_
        refine all_cons ?_ all_nil
        refine op_call rfl (th_Get (⟨t.pc, t.fu, t.st, t.R, t.kd, t.mi, t.mn, r7.s, r7.b, r7.n, t.old⟩ : Th) b W4q8) (by kernel_rfl) (by kernel_rfl) ?_
        rintro _ W4q7 ⟨rfl, hB⟩
        have hW := hW.step hB
        have hK7 := hK7.below hB
        refine ⟨_, (tll_a67 t op a b c n g1 g3 g5 r7 sn9 g4q9 g4q8), rfl, by (try subst e7); kernel_rfl, ?_⟩
        refine ⟨hW.tail.tail, ?_⟩
        refine wpAnyH_all (rs := [10]) (by kernel_rfl) (by simp) ?_
        refine all_cons ?_ all_nil
        obtain ⟨W4q10, hr, hW, hF⟩ := hW.storeN (P := Try.prog) (o := 0) (cs' := #[.int .i64 (getR t.R a 0), .int .i64 (getR t.R a 1), .int .i64 (getR t.R a 2)]) (L' := [(g4q8, 25, #[.int .i64 (getR t.R a 0), .int .i64 (getR t.R a 1), .int .i64 (getR t.R a 2)]), (g4q9, 25, #[.int .i64 0, .int .i64 0, .int .i64 0]), (g5, 32, tll_c1), (g3, 45, #[.int .i64 op, .int .i64 a, .int .i64 b, .int .i64 c, .int .i64 n]), (g1, 32, (tll_c2 t r7))]) 0 rfl #[.int .i64 (getR t.R a 0), .int .i64 (getR t.R a 1), .int .i64 (getR t.R a 2)] (by (try subst e7); kernel_rfl) (Nat.le_of_ble_eq_true rfl) (by kernel_rfl) rfl 25 (by kernel_rfl)
        have hK7 := hK7.store hF (.inr hK7_g4q8)
        refine op_none (w' := W4q10) (a' := (tll_a67 t op a b c n g1 g3 g5 r7 sn9 g4q9 g4q8)) rfl (by kernel_rfl) (Eq.trans (b := (do Instr.storeAt 25 (.pointer (some ⟨g4q8, 0, none⟩)) (.agg #[.int .i64 (getR t.R a 0), .int .i64 (getR t.R a 1), .int .i64 (getR t.R a 2)]); pure Next.skip : Sem Next).run Try.prog W4q7) (by kernel_rfl) (st_unit hr)) (by kernel_rfl) ?_
        refine ⟨hW.tail.tail, ?_⟩
        refine wpAnyH_all (rs := [11]) (by kernel_rfl) (by simp) ?_
        refine all_cons ?_ all_nil
        obtain ⟨W4q11, hr, hW, hF⟩ := hW.storeN (P := Try.prog) (o := 0) (cs' := #[.int .i64 (getR t.R b 0), .int .i64 (getR t.R b 1), .int .i64 (getR t.R b 2)]) (L' := [(g4q8, 25, #[.int .i64 (getR t.R a 0), .int .i64 (getR t.R a 1), .int .i64 (getR t.R a 2)]), (g4q9, 25, #[.int .i64 (getR t.R b 0), .int .i64 (getR t.R b 1), .int .i64 (getR t.R b 2)]), (g5, 32, tll_c1), (g3, 45, #[.int .i64 op, .int .i64 a, .int .i64 b, .int .i64 c, .int .i64 n]), (g1, 32, (tll_c2 t r7))]) 1 rfl #[.int .i64 (getR t.R b 0), .int .i64 (getR t.R b 1), .int .i64 (getR t.R b 2)] (by (try subst e7); kernel_rfl) (Nat.le_of_ble_eq_true rfl) (by kernel_rfl) rfl 25 (by kernel_rfl)
        have hK7 := hK7.store hF (.inr hK7_g4q9)
        refine op_none (w' := W4q11) (a' := (tll_a67 t op a b c n g1 g3 g5 r7 sn9 g4q9 g4q8)) rfl (by kernel_rfl) (Eq.trans (b := (do Instr.storeAt 25 (.pointer (some ⟨g4q9, 0, none⟩)) (.agg #[.int .i64 (getR t.R b 0), .int .i64 (getR t.R b 1), .int .i64 (getR t.R b 2)]); pure Next.skip : Sem Next).run Try.prog W4q10) (by kernel_rfl) (st_unit hr)) (by kernel_rfl) ?_
        refine ⟨hW.tail.tail, ?_⟩
        refine wpAnyH_done (by kernel_rfl) ?_ _
        have hW := hW.swap
        simp only [Exit.then]
        exact ⟨g4q8, g4q9, rfl, hW, hK7, hK7_g4q8, hK7_g4q9⟩
      refine all_cons ?_ all_nil
      obtain ⟨g4q8, W4q8, hr, hW, hbb, hge⟩ := hW.mk1 (P := Try.prog) (s := Instr.alloc 25 true (.tuple #[])) #[.int .i64 0, .int .i64 0, .int .i64 0] 25 (by kernel_rfl)
      have hK7_g4q8 := Nat.le_trans hK7.size hge
      have hK7 := hK7.below hbb
      refine op_val (w' := W4q8) (a' := (tll_a76 t op a b c n g1 g3 g5 r7 sn9 g4q9 g4q8)) (.pointer (some ⟨g4q8, 0, none⟩)) rfl (by kernel_rfl) (Eq.trans (b := (do pure (Next.value (← Instr.alloc 25 true (.tuple #[]))) : Sem Next).run Try.prog W4q9) (by kernel_rfl) (st_val hr)) (by kernel_rfl) ?_
      refine ⟨hW.tail.tail, ?_⟩
      refine wpAnyH_all (rs := [3]) (by kernel_rfl) (by simp) ?_
      refine all_cons ?_ all_nil
      refine op_call rfl (th_Get (⟨t.pc, t.fu, t.st, t.R, t.kd, t.mi, t.mn, r7.s, r7.b, r7.n, t.old⟩ : Th) a W4q8) (by kernel_rfl) (by kernel_rfl) ?_
      rintro _ W4q3 ⟨rfl, hB⟩
      have hW := hW.step hB
      have hK7 := hK7.below hB
      refine ⟨_, (tll_a72 t op a b c n g1 g3 g5 r7 sn9 g4q9 g4q8), rfl, by (try subst e7); kernel_rfl, ?_⟩
      refine ⟨hW.tail.tail, ?_⟩
      refine wpAnyH_all (rs := [7]) (by kernel_rfl) (by simp) ?_
      refine all_cons ?_ all_nil
      refine op_call rfl (th_Get (⟨t.pc, t.fu, t.st, t.R, t.kd, t.mi, t.mn, r7.s, r7.b, r7.n, t.old⟩ : Th) b W4q3) (by kernel_rfl) (by kernel_rfl) ?_
      rintro _ W4q7 ⟨rfl, hB⟩
      have hW := hW.step hB
      have hK7 := hK7.below hB
      refine ⟨_, (tll_a67 t op a b c n g1 g3 g5 r7 sn9 g4q9 g4q8), rfl, by (try subst e7); kernel_rfl, ?_⟩
      refine ⟨hW.tail.tail, ?_⟩
      refine wpAnyH_all (rs := [10]) (by kernel_rfl) (by simp) ?_
      refine all_cons ?_ all_nil
      obtain ⟨W4q10, hr, hW, hF⟩ := hW.storeN (P := Try.prog) (o := 0) (cs' := #[.int .i64 (getR t.R a 0), .int .i64 (getR t.R a 1), .int .i64 (getR t.R a 2)]) (L' := [(g4q8, 25, #[.int .i64 (getR t.R a 0), .int .i64 (getR t.R a 1), .int .i64 (getR t.R a 2)]), (g4q9, 25, #[.int .i64 0, .int .i64 0, .int .i64 0]), (g5, 32, tll_c1), (g3, 45, #[.int .i64 op, .int .i64 a, .int .i64 b, .int .i64 c, .int .i64 n]), (g1, 32, (tll_c2 t r7))]) 0 rfl #[.int .i64 (getR t.R a 0), .int .i64 (getR t.R a 1), .int .i64 (getR t.R a 2)] (by (try subst e7); kernel_rfl) (Nat.le_of_ble_eq_true rfl) (by kernel_rfl) rfl 25 (by kernel_rfl)
      have hK7 := hK7.store hF (.inr hK7_g4q8)
      refine op_none (w' := W4q10) (a' := (tll_a67 t op a b c n g1 g3 g5 r7 sn9 g4q9 g4q8)) rfl (by kernel_rfl) (Eq.trans (b := (do Instr.storeAt 25 (.pointer (some ⟨g4q8, 0, none⟩)) (.agg #[.int .i64 (getR t.R a 0), .int .i64 (getR t.R a 1), .int .i64 (getR t.R a 2)]); pure Next.skip : Sem Next).run Try.prog W4q7) (by kernel_rfl) (st_unit hr)) (by kernel_rfl) ?_
      refine ⟨hW.tail.tail, ?_⟩
      refine wpAnyH_all (rs := [11]) (by kernel_rfl) (by simp) ?_
      refine all_cons ?_ all_nil
      obtain ⟨W4q11, hr, hW, hF⟩ := hW.storeN (P := Try.prog) (o := 0) (cs' := #[.int .i64 (getR t.R b 0), .int .i64 (getR t.R b 1), .int .i64 (getR t.R b 2)]) (L' := [(g4q8, 25, #[.int .i64 (getR t.R a 0), .int .i64 (getR t.R a 1), .int .i64 (getR t.R a 2)]), (g4q9, 25, #[.int .i64 (getR t.R b 0), .int .i64 (getR t.R b 1), .int .i64 (getR t.R b 2)]), (g5, 32, tll_c1), (g3, 45, #[.int .i64 op, .int .i64 a, .int .i64 b, .int .i64 c, .int .i64 n]), (g1, 32, (tll_c2 t r7))]) 1 rfl #[.int .i64 (getR t.R b 0), .int .i64 (getR t.R b 1), .int .i64 (getR t.R b 2)] (by (try subst e7); kernel_rfl) (Nat.le_of_ble_eq_true rfl) (by kernel_rfl) rfl 25 (by kernel_rfl)
      have hK7 := hK7.store hF (.inr hK7_g4q9)
      refine op_none (w' := W4q11) (a' := (tll_a67 t op a b c n g1 g3 g5 r7 sn9 g4q9 g4q8)) rfl (by kernel_rfl) (Eq.trans (b := (do Instr.storeAt 25 (.pointer (some ⟨g4q9, 0, none⟩)) (.agg #[.int .i64 (getR t.R b 0), .int .i64 (getR t.R b 1), .int .i64 (getR t.R b 2)]); pure Next.skip : Sem Next).run Try.prog W4q10) (by kernel_rfl) (st_unit hr)) (by kernel_rfl) ?_
      refine ⟨hW.tail.tail, ?_⟩
      refine wpAnyH_done (by kernel_rfl) ?_ _
      have hW := hW.swap
      simp only [Exit.then]
      exact ⟨g4q8, g4q9, rfl, hW, hK7, hK7_g4q8, hK7_g4q9⟩
    rintro _ Wm4 ⟨g4q8, g4q9, rfl, hW, hK7, hK7_g4q8, hK7_g4q9⟩
    refine wp_seq ?_
    refine wp_seq ?_
    refine wp_region_list ?_
    refine sk (a' := (tll_a77 t op a b c n g1 g3 g5 r7 sn9 g4q8 g4q9)) (.pointer (some ⟨g3, 0, none⟩)) ?_
    refine se (a' := (tll_a79 t op a b c n g1 g3 g5 r7 sn9 g4q8 g4q9)) (.int .i64 op) (ev1 hW 3 0 Try.underlying3) ?_
    refine wpList_nil ?_
    refine wp_block ?_
    refine wp_seq ?_
    rcases hq hop with rfl | rfl | rfl | rfl | ⟨rfl, hz⟩ | ⟨rfl, hz⟩ | ⟨rfl, hz⟩ | ⟨rfl, hz⟩ | rfl | rfl | rfl | ⟨rfl, hz⟩ | ⟨rfl, hz⟩
    · skip
      refine wp_region_list ?_
      refine sk (a' := (tll_a81 t a b c n g1 g3 g5 r7 sn9 g4q8 g4q9)) (.bool true) ?_
      refine sk (a' := (tll_a86 t a b c n g1 g3 g5 r7 sn9 g4q8 g4q9)) (.bool true) ?_
      refine wpList_nil ?_
      refine wp_cond (t := true) (by kernel_rfl) ?_
      refine wp_region_list ?_
      refine sk (a' := (tll_a88 t a b c n g1 g3 g5 r7 sn9 g4q8 g4q9)) (.pointer (some ⟨g1, 2, none⟩)) ?_
      obtain ⟨W11, hr, hW, hF⟩ := hW.store1 (P := Try.prog) (o := 2) (cs' := (tll_c3 t r7)) (L' := [(g4q9, 25, #[.int .i64 (getR t.R b 0), .int .i64 (getR t.R b 1), .int .i64 (getR t.R b 2)]), (g4q8, 25, #[.int .i64 (getR t.R a 0), .int .i64 (getR t.R a 1), .int .i64 (getR t.R a 2)]), (g5, 32, tll_c1), (g3, 45, #[.int .i64 1, .int .i64 a, .int .i64 b, .int .i64 c, .int .i64 n]), (g1, 32, (tll_c3 t r7))]) 4 rfl (.int .i64 1) rfl (Nat.le_of_ble_eq_true rfl) (by rfl) rfl 3 (by kernel_rfl)
      have hK7 := hK7.store hF (.inl hK7_g1)
      refine st_none (w' := W11) (a' := (tll_a88 t a b c n g1 g3 g5 r7 sn9 g4q8 g4q9)) (by kernel_rfl) (Eq.trans (b := (do Instr.storeAt 3 (.pointer (some ⟨g1, 2, none⟩)) (.int .i64 1); pure Next.skip : Sem Next).run Try.prog Wm4) (by kernel_rfl) (st_unit hr)) (by kernel_rfl) ?_
      refine wpList_nil ?_
      refine wp_seq ?_
      refine wp_region_list ?_
      refine se (a' := (tll_a91 t a b c n g1 g3 g5 r7 sn9 g4q8 g4q9)) (.agg (tll_c3 t r7)) (evA hW 4 0 Try.underlying32) ?_
      obtain ⟨W12, hr, hW, hF⟩ := hW.storeN (P := Try.prog) (o := 0) (cs' := (tll_c3 t r7)) (L' := [(g4q9, 25, #[.int .i64 (getR t.R b 0), .int .i64 (getR t.R b 1), .int .i64 (getR t.R b 2)]), (g4q8, 25, #[.int .i64 (getR t.R a 0), .int .i64 (getR t.R a 1), .int .i64 (getR t.R a 2)]), (g5, 32, (tll_c3 t r7)), (g3, 45, #[.int .i64 1, .int .i64 a, .int .i64 b, .int .i64 c, .int .i64 n]), (g1, 32, (tll_c3 t r7))]) 2 rfl (tll_c3 t r7) (by (try subst e7); kernel_rfl) (Nat.le_of_ble_eq_true rfl) (by kernel_rfl) rfl 32 (by kernel_rfl)
      have hK7 := hK7.store hF (.inl hK7_g5)
      refine st_none (w' := W12) (a' := (tll_a91 t a b c n g1 g3 g5 r7 sn9 g4q8 g4q9)) (by kernel_rfl) (Eq.trans (b := (do Instr.storeAt 32 (.pointer (some ⟨g5, 0, none⟩)) (.agg (tll_c3 t r7)); pure Next.skip : Sem Next).run Try.prog W11) (by kernel_rfl) (st_unit hr)) (by kernel_rfl) ?_
      refine sk (a' := (tll_a93 t a b c n g1 g3 g5 r7 sn9 g4q8 g4q9)) (.bool true) ?_
      refine wpList_nil ?_
      refine wp_ret ?_
      (try simp only [Exit.then, Exit.inBlock])
      change bodyPost Try.prog Try.f21 _ .ret _ _
      refine bodyPost_ret (results_ct rfl _ _ g5 32 _ (0, 0) _ (by kernel_rfl) (hW.blk 2 _ _ _ rfl).1 Try.underlying32 rfl (by kernel_rfl)) rfl ?_
      have hloc : localT t 1 a b c n = ({ t with st := 1 }, true) := (by kernel_rfl)
      subst e7
      rw [hloc]
      exact ⟨As7, cs7, Ab7, cb7, An7, cn7, rfl, ⟨Kd.R_lower (hK7.R hO7.s) hK7_le, Kd.R_lower (hK7.R hO7.b) hK7_le, Kd.R_lower (hK7.R hO7.n) hK7_le⟩, hW.below⟩
    · skip
      refine wp_region_list ?_
      refine sk (a' := (tll_a95 t a b c n g1 g3 g5 r7 sn9 g4q8 g4q9)) (.bool false) ?_
      refine sk (a' := (tll_a100 t a b c n g1 g3 g5 r7 sn9 g4q8 g4q9)) (.bool false) ?_
      refine wpList_nil ?_
      refine wp_cond (t := false) (by kernel_rfl) ?_
      refine wp_seq ?_
      refine wp_region_list ?_
      refine sk (a' := (tll_a102 t a b c n g1 g3 g5 r7 sn9 g4q8 g4q9)) (.bool true) ?_
      refine sk (a' := (tll_a104 t a b c n g1 g3 g5 r7 sn9 g4q8 g4q9)) (.bool true) ?_
      refine wpList_nil ?_
      refine wp_cond (t := true) (by kernel_rfl) ?_
      have hW := hW.drew
      have hK7 := hK7.below (below_drew (Below.refl _ _))
      refine dd_begin 7 (fun W => Ws w W [(g4q9, 25, #[.int .i64 (getR t.R b 0), .int .i64 (getR t.R b 1), .int .i64 (getR t.R b 2)]), (g4q8, 25, #[.int .i64 (getR t.R a 0), .int .i64 (getR t.R a 1), .int .i64 (getR t.R a 2)]), (g5, 32, tll_c1), (g3, 45, #[.int .i64 2, .int .i64 a, .int .i64 b, .int .i64 c, .int .i64 n]), (g1, 32, (tll_c2 t r7))]) (by kernel_rfl) ?_
      refine dd_one 0 (a' := (tll_a106 t a b c n g1 g3 g5 r7 sn9 g4q8 g4q9)) (.agg (tll_c2 t r7)) rfl (by kernel_rfl) (by kernel_rfl) (by kernel_rfl) (fun _ _ _ h => h) (by kernel_rfl) (by kernel_rfl) (by kernel_rfl) (fun W hH => (evA hH 4 0 Try.underlying32)) hW (by kernel_rfl) ?_
      refine dd_one 1 (a' := (tll_a108 t a b c n g1 g3 g5 r7 sn9 g4q8 g4q9)) (.pointer (some ⟨g3, 1, none⟩)) rfl (by kernel_rfl) (by kernel_rfl) (by kernel_rfl) (fun _ _ _ h => h) (by kernel_rfl) (by kernel_rfl) (by kernel_rfl) (fun W hH => by kernel_rfl) hW (by kernel_rfl) ?_
      refine dd_one 2 (a' := (tll_a110 t a b c n g1 g3 g5 r7 sn9 g4q8 g4q9)) (.int .i64 a) rfl (by kernel_rfl) (by kernel_rfl) (by kernel_rfl) (fun _ _ _ h => h) (by kernel_rfl) (by kernel_rfl) (by kernel_rfl) (fun W hH => (ev1 hH 3 1 Try.underlying3)) hW (by kernel_rfl) ?_
      refine dd_one 3 (a' := (tll_a112 t a b c n g1 g3 g5 r7 sn9 g4q8 g4q9)) (.pointer (some ⟨g3, 4, none⟩)) rfl (by kernel_rfl) (by kernel_rfl) (by kernel_rfl) (fun _ _ _ h => h) (by kernel_rfl) (by kernel_rfl) (by kernel_rfl) (fun W hH => by kernel_rfl) hW (by kernel_rfl) ?_
      refine dd_one 4 (a' := (tll_a114 t a b c n g1 g3 g5 r7 sn9 g4q8 g4q9)) (.int .i64 n) rfl (by kernel_rfl) (by kernel_rfl) (by kernel_rfl) (fun _ _ _ h => h) (by kernel_rfl) (by kernel_rfl) (by kernel_rfl) (fun W hH => (ev1 hH 3 4 Try.underlying2)) hW (by kernel_rfl) ?_
      refine dd_ready [5] (by kernel_rfl) rfl ?_
      refine all_cons ?_ all_nil
      refine op_call rfl (tag_Plain.calls n n 0 0 Wm4.drew rfl) (by kernel_rfl) (by kernel_rfl) ?_
      rintro _ W11 ⟨rfl, hB⟩
      have hW := hW.step hB
      have hK7 := hK7.below hB
      refine ⟨_, (tll_a116 t a b c n g1 g3 g5 r7 sn9 g4q8 g4q9), rfl, by (try subst e7); kernel_rfl, ?_⟩
      refine ⟨(fun _ => hW), ?_⟩
      refine dd_ready [6] (by kernel_rfl) rfl ?_
      refine all_cons ?_ all_nil
      have hK12_g4q9 : g4q9 < W11.heap.size := blk_lt (hW.blk 0 _ _ _ rfl).1
      have hK12_g4q8 : g4q8 < W11.heap.size := blk_lt (hW.blk 1 _ _ _ rfl).1
      have hK12_g5 : g5 < W11.heap.size := blk_lt (hW.blk 2 _ _ _ rfl).1
      have hK12_g3 : g3 < W11.heap.size := blk_lt (hW.blk 3 _ _ _ rfl).1
      have hK12_g1 : g1 < W11.heap.size := blk_lt (hW.blk 4 _ _ _ rfl).1
      have hK12_le : w.heap.size ≤ W11.heap.size := hW.below.size
      refine op_call rfl (th_Set (t := (⟨t.pc, t.fu, t.st, t.R, t.kd, t.mi, t.mn, r7.s, r7.b, r7.n, t.old⟩ : Th)) (xs := xs) (bs := bs) (ns := ns) (by subst e7; exact ⟨(hO7.keep hK7).reads.s, (hO7.keep hK7).reads.b, (hO7.keep hK7).reads.n⟩) hl a n 0 0) (by kernel_rfl) (by kernel_rfl) ?_
      rintro _ W12 ⟨As12, cs12, Ab12, cb12, An12, cn12, rfl, hO12, hB⟩
      have hW := hW.step hB
      have hK7 := hK7.below hB
      have hK12 := KeepUp.refl W11.heap.size W12
      obtain ⟨r12, e12⟩ : ∃ r : Rw, r = ⟨.slice As12 xs.length cs12, .slice Ab12 bs.length cb12, .slice An12 ns.length cn12⟩ := ⟨_, rfl⟩
      refine ⟨_, (tll_a119 t a b c n g1 g3 g5 r7 sn9 g4q8 g4q9 r12), rfl, by (try subst e7); (try subst e12); kernel_rfl, ?_⟩
      refine ⟨(fun _ => hW), ?_⟩
      refine dd_ready [7] (by kernel_rfl) rfl ?_
      refine all_cons ?_ all_nil
      obtain ⟨W13, hr, hW, hF⟩ := hW.storeN (P := Try.prog) (o := 0) (cs' := (tll_c4 t a n r12)) (L' := [(g4q9, 25, #[.int .i64 (getR t.R b 0), .int .i64 (getR t.R b 1), .int .i64 (getR t.R b 2)]), (g4q8, 25, #[.int .i64 (getR t.R a 0), .int .i64 (getR t.R a 1), .int .i64 (getR t.R a 2)]), (g5, 32, tll_c1), (g3, 45, #[.int .i64 2, .int .i64 a, .int .i64 b, .int .i64 c, .int .i64 n]), (g1, 32, (tll_c4 t a n r12))]) 4 rfl (tll_c4 t a n r12) (by (try subst e7); (try subst e12); kernel_rfl) (Nat.le_of_ble_eq_true rfl) (by kernel_rfl) rfl 32 (by kernel_rfl)
      have hK7 := hK7.store hF (.inl hK7_g1)
      have hK12 := hK12.store hF (.inl hK12_g1)
      refine op_none (w' := W13) (a' := (tll_a119 t a b c n g1 g3 g5 r7 sn9 g4q8 g4q9 r12)) rfl (by kernel_rfl) (Eq.trans (b := (do Instr.storeAt 32 (.pointer (some ⟨g1, 0, none⟩)) (.agg (tll_c4 t a n r12)); pure Next.skip : Sem Next).run Try.prog W12) (by kernel_rfl) (st_unit hr)) (by kernel_rfl) ?_
      refine ⟨(fun h => by cases (show true = false from h)), ?_⟩
      refine dd_done (by kernel_rfl) ?_ _
      refine wp_seq ?_
      refine wp_region_list ?_
      refine se (a' := (tll_a121 t a b c n g1 g3 g5 r7 sn9 g4q8 g4q9 r12)) (.agg (tll_c4 t a n r12)) (evA hW 4 0 Try.underlying32) ?_
      obtain ⟨W14, hr, hW, hF⟩ := hW.storeN (P := Try.prog) (o := 0) (cs' := (tll_c4 t a n r12)) (L' := [(g4q9, 25, #[.int .i64 (getR t.R b 0), .int .i64 (getR t.R b 1), .int .i64 (getR t.R b 2)]), (g4q8, 25, #[.int .i64 (getR t.R a 0), .int .i64 (getR t.R a 1), .int .i64 (getR t.R a 2)]), (g5, 32, (tll_c4 t a n r12)), (g3, 45, #[.int .i64 2, .int .i64 a, .int .i64 b, .int .i64 c, .int .i64 n]), (g1, 32, (tll_c4 t a n r12))]) 2 rfl (tll_c4 t a n r12) (by (try subst e7); (try subst e12); kernel_rfl) (Nat.le_of_ble_eq_true rfl) (by kernel_rfl) rfl 32 (by kernel_rfl)
      have hK7 := hK7.store hF (.inl hK7_g5)
      have hK12 := hK12.store hF (.inl hK12_g5)
      refine st_none (w' := W14) (a' := (tll_a121 t a b c n g1 g3 g5 r7 sn9 g4q8 g4q9 r12)) (by kernel_rfl) (Eq.trans (b := (do Instr.storeAt 32 (.pointer (some ⟨g5, 0, none⟩)) (.agg (tll_c4 t a n r12)); pure Next.skip : Sem Next).run Try.prog W13) (by kernel_rfl) (st_unit hr)) (by kernel_rfl) ?_
      refine sk (a' := (tll_a123 t a b c n g1 g3 g5 r7 sn9 g4q8 g4q9 r12)) (.bool true) ?_
      refine wpList_nil ?_
      refine wp_ret ?_
      (try simp only [Exit.then, Exit.inBlock])
      change bodyPost Try.prog Try.f21 _ .ret _ _
      refine bodyPost_ret (results_ct rfl _ _ g5 32 _ (0, 0) _ (by kernel_rfl) (hW.blk 2 _ _ _ rfl).1 Try.underlying32 rfl (by kernel_rfl)) rfl ?_
      have hloc : localT t 2 a b c n = ({ t with R := setR t.R a n 0 0 }, true) := (by kernel_rfl)
      subst e12
      rw [hloc]
      exact ⟨As12, cs12, Ab12, cb12, An12, cn12, rfl, ⟨Kd.R_lower (hK12.R hO12.s) hK12_le, Kd.R_lower (hK12.R hO12.b) hK12_le, Kd.R_lower (hK12.R hO12.n) hK12_le⟩, hW.below⟩
    · skip
      refine wp_region_list ?_
      refine sk (a' := (tll_a125 t a b c n g1 g3 g5 r7 sn9 g4q8 g4q9)) (.bool false) ?_
      refine sk (a' := (tll_a129 t a b c n g1 g3 g5 r7 sn9 g4q8 g4q9)) (.bool false) ?_
      refine wpList_nil ?_
      refine wp_cond (t := false) (by kernel_rfl) ?_
      refine wp_seq ?_
      refine wp_region_list ?_
      refine sk (a' := (tll_a130 t a b c n g1 g3 g5 r7 sn9 g4q8 g4q9)) (.bool false) ?_
      refine sk (a' := (tll_a132 t a b c n g1 g3 g5 r7 sn9 g4q8 g4q9)) (.bool false) ?_
      refine wpList_nil ?_
      refine wp_cond (t := false) (by kernel_rfl) ?_
      refine wp_seq ?_
      refine wp_region_list ?_
      refine sk (a' := (tll_a134 t a b c n g1 g3 g5 r7 sn9 g4q8 g4q9)) (.bool true) ?_
      refine sk (a' := (tll_a136 t a b c n g1 g3 g5 r7 sn9 g4q8 g4q9)) (.bool true) ?_
      refine wpList_nil ?_
      refine wp_cond (t := true) (by kernel_rfl) ?_
      refine wp_region_list ?_
      refine se (a' := (tll_a138 t a b c n g1 g3 g5 r7 sn9 g4q8 g4q9)) (.agg (tll_c2 t r7)) (evA hW 4 0 Try.underlying32) ?_
      refine sk (a' := (tll_a140 t a b c n g1 g3 g5 r7 sn9 g4q8 g4q9)) (.pointer (some ⟨g3, 1, none⟩)) ?_
      refine se (a' := (tll_a142 t a b c n g1 g3 g5 r7 sn9 g4q8 g4q9)) (.int .i64 a) (ev1 hW 3 1 Try.underlying3) ?_
      refine se (a' := (tll_a144 t a b c n g1 g3 g5 r7 sn9 g4q8 g4q9)) (.agg #[.int .i64 (getR t.R b 0), .int .i64 (getR t.R b 1), .int .i64 (getR t.R b 2)]) (evA hW 0 0 Try.underlying25) ?_
      have hK11_g4q9 : g4q9 < Wm4.heap.size := blk_lt (hW.blk 0 _ _ _ rfl).1
      have hK11_g4q8 : g4q8 < Wm4.heap.size := blk_lt (hW.blk 1 _ _ _ rfl).1
      have hK11_g5 : g5 < Wm4.heap.size := blk_lt (hW.blk 2 _ _ _ rfl).1
      have hK11_g3 : g3 < Wm4.heap.size := blk_lt (hW.blk 3 _ _ _ rfl).1
      have hK11_g1 : g1 < Wm4.heap.size := blk_lt (hW.blk 4 _ _ _ rfl).1
      have hK11_le : w.heap.size ≤ Wm4.heap.size := hW.below.size
      refine st_call (th_Set (t := (⟨t.pc, t.fu, t.st, t.R, t.kd, t.mi, t.mn, r7.s, r7.b, r7.n, t.old⟩ : Th)) (xs := xs) (bs := bs) (ns := ns) (by subst e7; exact ⟨(hO7.keep hK7).reads.s, (hO7.keep hK7).reads.b, (hO7.keep hK7).reads.n⟩) hl a (getR t.R b 0) (getR t.R b 1) (getR t.R b 2)) (by kernel_rfl) (by kernel_rfl) ?_
      rintro _ W11 ⟨As11, cs11, Ab11, cb11, An11, cn11, rfl, hO11, hB⟩
      have hW := hW.step hB
      have hK7 := hK7.below hB
      have hK11 := KeepUp.refl Wm4.heap.size W11
      obtain ⟨r11, e11⟩ : ∃ r : Rw, r = ⟨.slice As11 xs.length cs11, .slice Ab11 bs.length cb11, .slice An11 ns.length cn11⟩ := ⟨_, rfl⟩
      refine ⟨_, (tll_a147 t a b c n g1 g3 g5 r7 sn9 g4q8 g4q9 r11), rfl, by (try subst e7); (try subst e11); kernel_rfl, ?_⟩
      obtain ⟨W12, hr, hW, hF⟩ := hW.storeN (P := Try.prog) (o := 0) (cs' := (tll_c5 t a b r11)) (L' := [(g4q9, 25, #[.int .i64 (getR t.R b 0), .int .i64 (getR t.R b 1), .int .i64 (getR t.R b 2)]), (g4q8, 25, #[.int .i64 (getR t.R a 0), .int .i64 (getR t.R a 1), .int .i64 (getR t.R a 2)]), (g5, 32, tll_c1), (g3, 45, #[.int .i64 3, .int .i64 a, .int .i64 b, .int .i64 c, .int .i64 n]), (g1, 32, (tll_c5 t a b r11))]) 4 rfl (tll_c5 t a b r11) (by (try subst e7); (try subst e11); kernel_rfl) (Nat.le_of_ble_eq_true rfl) (by kernel_rfl) rfl 32 (by kernel_rfl)
      have hK7 := hK7.store hF (.inl hK7_g1)
      have hK11 := hK11.store hF (.inl hK11_g1)
      refine st_none (w' := W12) (a' := (tll_a147 t a b c n g1 g3 g5 r7 sn9 g4q8 g4q9 r11)) (by kernel_rfl) (Eq.trans (b := (do Instr.storeAt 32 (.pointer (some ⟨g1, 0, none⟩)) (.agg (tll_c5 t a b r11)); pure Next.skip : Sem Next).run Try.prog W11) (by kernel_rfl) (st_unit hr)) (by kernel_rfl) ?_
      refine wpList_nil ?_
      refine wp_seq ?_
      refine wp_region_list ?_
      refine se (a' := (tll_a149 t a b c n g1 g3 g5 r7 sn9 g4q8 g4q9 r11)) (.agg (tll_c5 t a b r11)) (evA hW 4 0 Try.underlying32) ?_
      obtain ⟨W13, hr, hW, hF⟩ := hW.storeN (P := Try.prog) (o := 0) (cs' := (tll_c5 t a b r11)) (L' := [(g4q9, 25, #[.int .i64 (getR t.R b 0), .int .i64 (getR t.R b 1), .int .i64 (getR t.R b 2)]), (g4q8, 25, #[.int .i64 (getR t.R a 0), .int .i64 (getR t.R a 1), .int .i64 (getR t.R a 2)]), (g5, 32, (tll_c5 t a b r11)), (g3, 45, #[.int .i64 3, .int .i64 a, .int .i64 b, .int .i64 c, .int .i64 n]), (g1, 32, (tll_c5 t a b r11))]) 2 rfl (tll_c5 t a b r11) (by (try subst e7); (try subst e11); kernel_rfl) (Nat.le_of_ble_eq_true rfl) (by kernel_rfl) rfl 32 (by kernel_rfl)
      have hK7 := hK7.store hF (.inl hK7_g5)
      have hK11 := hK11.store hF (.inl hK11_g5)
      refine st_none (w' := W13) (a' := (tll_a149 t a b c n g1 g3 g5 r7 sn9 g4q8 g4q9 r11)) (by kernel_rfl) (Eq.trans (b := (do Instr.storeAt 32 (.pointer (some ⟨g5, 0, none⟩)) (.agg (tll_c5 t a b r11)); pure Next.skip : Sem Next).run Try.prog W12) (by kernel_rfl) (st_unit hr)) (by kernel_rfl) ?_
      refine sk (a' := (tll_a151 t a b c n g1 g3 g5 r7 sn9 g4q8 g4q9 r11)) (.bool true) ?_
      refine wpList_nil ?_
      refine wp_ret ?_
      (try simp only [Exit.then, Exit.inBlock])
      change bodyPost Try.prog Try.f21 _ .ret _ _
      refine bodyPost_ret (results_ct rfl _ _ g5 32 _ (0, 0) _ (by kernel_rfl) (hW.blk 2 _ _ _ rfl).1 Try.underlying32 rfl (by kernel_rfl)) rfl ?_
      have hloc : localT t 3 a b c n = ({ t with R := setR t.R a (getR t.R b 0) (getR t.R b 1) (getR t.R b 2) }, true) := (by kernel_rfl)
      subst e11
      rw [hloc]
      exact ⟨As11, cs11, Ab11, cb11, An11, cn11, rfl, ⟨Kd.R_lower (hK11.R hO11.s) hK11_le, Kd.R_lower (hK11.R hO11.b) hK11_le, Kd.R_lower (hK11.R hO11.n) hK11_le⟩, hW.below⟩
    · skip
      refine wp_region_list ?_
      refine sk (a' := (tll_a153 t a b c n g1 g3 g5 r7 sn9 g4q8 g4q9)) (.bool false) ?_
      refine sk (a' := (tll_a157 t a b c n g1 g3 g5 r7 sn9 g4q8 g4q9)) (.bool false) ?_
      refine wpList_nil ?_
      refine wp_cond (t := false) (by kernel_rfl) ?_
      refine wp_seq ?_
      refine wp_region_list ?_
      refine sk (a' := (tll_a158 t a b c n g1 g3 g5 r7 sn9 g4q8 g4q9)) (.bool false) ?_
      refine sk (a' := (tll_a159 t a b c n g1 g3 g5 r7 sn9 g4q8 g4q9)) (.bool false) ?_
      refine wpList_nil ?_
      refine wp_cond (t := false) (by kernel_rfl) ?_
      refine wp_seq ?_
      refine wp_region_list ?_
      refine sk (a' := (tll_a160 t a b c n g1 g3 g5 r7 sn9 g4q8 g4q9)) (.bool false) ?_
      refine sk (a' := (tll_a162 t a b c n g1 g3 g5 r7 sn9 g4q8 g4q9)) (.bool false) ?_
      refine wpList_nil ?_
      refine wp_cond (t := false) (by kernel_rfl) ?_
      refine wp_seq ?_
      refine wp_region_list ?_
      refine sk (a' := (tll_a164 t a b c n g1 g3 g5 r7 sn9 g4q8 g4q9)) (.bool true) ?_
      refine sk (a' := (tll_a166 t a b c n g1 g3 g5 r7 sn9 g4q8 g4q9)) (.bool true) ?_
      refine wpList_nil ?_
      refine wp_cond (t := true) (by kernel_rfl) ?_
      refine wp_region_list ?_
      refine sk (a' := (tll_a168 t a b c n g1 g3 g5 r7 sn9 g4q8 g4q9)) (.pointer (some ⟨g3, 4, none⟩)) ?_
      refine se (a' := (tll_a170 t a b c n g1 g3 g5 r7 sn9 g4q8 g4q9)) (.int .i64 n) (ev1 hW 3 4 Try.underlying2) ?_
      refine sk (a' := (tll_a172 t a b c n g1 g3 g5 r7 sn9 g4q8 g4q9)) (.pointer (some ⟨g1, 0, none⟩)) ?_
      obtain ⟨W11, hr, hW, hF⟩ := hW.store1 (P := Try.prog) (o := 0) (cs' := (tll_c6 t n r7)) (L' := [(g4q9, 25, #[.int .i64 (getR t.R b 0), .int .i64 (getR t.R b 1), .int .i64 (getR t.R b 2)]), (g4q8, 25, #[.int .i64 (getR t.R a 0), .int .i64 (getR t.R a 1), .int .i64 (getR t.R a 2)]), (g5, 32, tll_c1), (g3, 45, #[.int .i64 8, .int .i64 a, .int .i64 b, .int .i64 c, .int .i64 n]), (g1, 32, (tll_c6 t n r7))]) 4 rfl (.int .i64 n) rfl (Nat.le_of_ble_eq_true rfl) (by rfl) rfl 3 (by kernel_rfl)
      have hK7 := hK7.store hF (.inl hK7_g1)
      refine st_none (w' := W11) (a' := (tll_a172 t a b c n g1 g3 g5 r7 sn9 g4q8 g4q9)) (by kernel_rfl) (Eq.trans (b := (do Instr.storeAt 3 (.pointer (some ⟨g1, 0, none⟩)) (.int .i64 n); pure Next.skip : Sem Next).run Try.prog Wm4) (by kernel_rfl) (st_unit hr)) (by kernel_rfl) ?_
      refine wpList_nil ?_
      refine wp_seq ?_
      refine wp_region_list ?_
      refine se (a' := (tll_a175 t a b c n g1 g3 g5 r7 sn9 g4q8 g4q9)) (.agg (tll_c6 t n r7)) (evA hW 4 0 Try.underlying32) ?_
      obtain ⟨W12, hr, hW, hF⟩ := hW.storeN (P := Try.prog) (o := 0) (cs' := (tll_c6 t n r7)) (L' := [(g4q9, 25, #[.int .i64 (getR t.R b 0), .int .i64 (getR t.R b 1), .int .i64 (getR t.R b 2)]), (g4q8, 25, #[.int .i64 (getR t.R a 0), .int .i64 (getR t.R a 1), .int .i64 (getR t.R a 2)]), (g5, 32, (tll_c6 t n r7)), (g3, 45, #[.int .i64 8, .int .i64 a, .int .i64 b, .int .i64 c, .int .i64 n]), (g1, 32, (tll_c6 t n r7))]) 2 rfl (tll_c6 t n r7) (by (try subst e7); kernel_rfl) (Nat.le_of_ble_eq_true rfl) (by kernel_rfl) rfl 32 (by kernel_rfl)
      have hK7 := hK7.store hF (.inl hK7_g5)
      refine st_none (w' := W12) (a' := (tll_a175 t a b c n g1 g3 g5 r7 sn9 g4q8 g4q9)) (by kernel_rfl) (Eq.trans (b := (do Instr.storeAt 32 (.pointer (some ⟨g5, 0, none⟩)) (.agg (tll_c6 t n r7)); pure Next.skip : Sem Next).run Try.prog W11) (by kernel_rfl) (st_unit hr)) (by kernel_rfl) ?_
      refine sk (a' := (tll_a177 t a b c n g1 g3 g5 r7 sn9 g4q8 g4q9)) (.bool true) ?_
      refine wpList_nil ?_
      refine wp_ret ?_
      (try simp only [Exit.then, Exit.inBlock])
      change bodyPost Try.prog Try.f21 _ .ret _ _
      refine bodyPost_ret (results_ct rfl _ _ g5 32 _ (0, 0) _ (by kernel_rfl) (hW.blk 2 _ _ _ rfl).1 Try.underlying32 rfl (by kernel_rfl)) rfl ?_
      have hloc : localT t 8 a b c n = ({ t with pc := n }, true) := (by kernel_rfl)
      subst e7
      rw [hloc]
      exact ⟨As7, cs7, Ab7, cb7, An7, cn7, rfl, ⟨Kd.R_lower (hK7.R hO7.s) hK7_le, Kd.R_lower (hK7.R hO7.b) hK7_le, Kd.R_lower (hK7.R hO7.n) hK7_le⟩, hW.below⟩
    · skip
      refine wp_region_list ?_
      refine sk (a' := (tll_a179 t a b c n g1 g3 g5 r7 sn9 g4q8 g4q9)) (.bool false) ?_
      refine sk (a' := (tll_a183 t a b c n g1 g3 g5 r7 sn9 g4q8 g4q9)) (.bool false) ?_
      refine wpList_nil ?_
      refine wp_cond (t := false) (by kernel_rfl) ?_
      refine wp_seq ?_
      refine wp_region_list ?_
      refine sk (a' := (tll_a184 t a b c n g1 g3 g5 r7 sn9 g4q8 g4q9)) (.bool false) ?_
      refine sk (a' := (tll_a185 t a b c n g1 g3 g5 r7 sn9 g4q8 g4q9)) (.bool false) ?_
      refine wpList_nil ?_
      refine wp_cond (t := false) (by kernel_rfl) ?_
      refine wp_seq ?_
      refine wp_region_list ?_
      refine sk (a' := (tll_a186 t a b c n g1 g3 g5 r7 sn9 g4q8 g4q9)) (.bool false) ?_
      refine sk (a' := (tll_a187 t a b c n g1 g3 g5 r7 sn9 g4q8 g4q9)) (.bool false) ?_
      refine wpList_nil ?_
      refine wp_cond (t := false) (by kernel_rfl) ?_
      refine wp_seq ?_
      refine wp_region_list ?_
      refine sk (a' := (tll_a188 t a b c n g1 g3 g5 r7 sn9 g4q8 g4q9)) (.bool false) ?_
      refine sk (a' := (tll_a190 t a b c n g1 g3 g5 r7 sn9 g4q8 g4q9)) (.bool false) ?_
      refine wpList_nil ?_
      refine wp_cond (t := false) (by kernel_rfl) ?_
      refine wp_seq ?_
      refine wp_region_list ?_
      refine sk (a' := (tll_a192 t a b c n g1 g3 g5 r7 sn9 g4q8 g4q9)) (.bool true) ?_
      refine sk (a' := (tll_a194 t a b c n g1 g3 g5 r7 sn9 g4q8 g4q9)) (.bool true) ?_
      refine wpList_nil ?_
      refine wp_cond (t := true) (by kernel_rfl) ?_
      refine wp_seq ?_
      refine wp_region_list ?_
      refine sk (a' := (tll_a196 t a b c n g1 g3 g5 r7 sn9 g4q8 g4q9)) (.pointer (some ⟨g4q8, 0, none⟩)) ?_
      refine se (a' := (tll_a198 t a b c n g1 g3 g5 r7 sn9 g4q8 g4q9)) (.int .i64 (getR t.R a 0)) (ev1 hW 1 0 Try.underlying2) ?_
      refine se (a' := (tll_a200 t a b c n g1 g3 g5 r7 sn9 g4q8 g4q9)) (.bool true) (Eq.trans (b := .ok (.value (.bool (((getR t.R a 0) : Int) == 0))) Wm4) (by kernel_rfl) (st_ok (beq_iff_eq.2 (by omega)))) ?_
      refine wpList_nil ?_
      refine wp_cond (t := true) (by kernel_rfl) ?_
      refine wp_region_list ?_
      refine sk (a' := (tll_a202 t a b c n g1 g3 g5 r7 sn9 g4q8 g4q9)) (.pointer (some ⟨g3, 4, none⟩)) ?_
      refine se (a' := (tll_a204 t a b c n g1 g3 g5 r7 sn9 g4q8 g4q9)) (.int .i64 n) (ev1 hW 3 4 Try.underlying2) ?_
      refine sk (a' := (tll_a206 t a b c n g1 g3 g5 r7 sn9 g4q8 g4q9)) (.pointer (some ⟨g1, 0, none⟩)) ?_
      obtain ⟨W11, hr, hW, hF⟩ := hW.store1 (P := Try.prog) (o := 0) (cs' := (tll_c6 t n r7)) (L' := [(g4q9, 25, #[.int .i64 (getR t.R b 0), .int .i64 (getR t.R b 1), .int .i64 (getR t.R b 2)]), (g4q8, 25, #[.int .i64 (getR t.R a 0), .int .i64 (getR t.R a 1), .int .i64 (getR t.R a 2)]), (g5, 32, tll_c1), (g3, 45, #[.int .i64 9, .int .i64 a, .int .i64 b, .int .i64 c, .int .i64 n]), (g1, 32, (tll_c6 t n r7))]) 4 rfl (.int .i64 n) rfl (Nat.le_of_ble_eq_true rfl) (by rfl) rfl 3 (by kernel_rfl)
      have hK7 := hK7.store hF (.inl hK7_g1)
      refine st_none (w' := W11) (a' := (tll_a206 t a b c n g1 g3 g5 r7 sn9 g4q8 g4q9)) (by kernel_rfl) (Eq.trans (b := (do Instr.storeAt 3 (.pointer (some ⟨g1, 0, none⟩)) (.int .i64 n); pure Next.skip : Sem Next).run Try.prog Wm4) (by kernel_rfl) (st_unit hr)) (by kernel_rfl) ?_
      refine wpList_nil ?_
      refine wp_seq ?_
      refine wp_region_list ?_
      refine se (a' := (tll_a208 t a b c n g1 g3 g5 r7 sn9 g4q8 g4q9)) (.agg (tll_c6 t n r7)) (evA hW 4 0 Try.underlying32) ?_
      obtain ⟨W12, hr, hW, hF⟩ := hW.storeN (P := Try.prog) (o := 0) (cs' := (tll_c6 t n r7)) (L' := [(g4q9, 25, #[.int .i64 (getR t.R b 0), .int .i64 (getR t.R b 1), .int .i64 (getR t.R b 2)]), (g4q8, 25, #[.int .i64 (getR t.R a 0), .int .i64 (getR t.R a 1), .int .i64 (getR t.R a 2)]), (g5, 32, (tll_c6 t n r7)), (g3, 45, #[.int .i64 9, .int .i64 a, .int .i64 b, .int .i64 c, .int .i64 n]), (g1, 32, (tll_c6 t n r7))]) 2 rfl (tll_c6 t n r7) (by (try subst e7); kernel_rfl) (Nat.le_of_ble_eq_true rfl) (by kernel_rfl) rfl 32 (by kernel_rfl)
      have hK7 := hK7.store hF (.inl hK7_g5)
      refine st_none (w' := W12) (a' := (tll_a208 t a b c n g1 g3 g5 r7 sn9 g4q8 g4q9)) (by kernel_rfl) (Eq.trans (b := (do Instr.storeAt 32 (.pointer (some ⟨g5, 0, none⟩)) (.agg (tll_c6 t n r7)); pure Next.skip : Sem Next).run Try.prog W11) (by kernel_rfl) (st_unit hr)) (by kernel_rfl) ?_
      refine sk (a' := (tll_a209 t a b c n g1 g3 g5 r7 sn9 g4q8 g4q9)) (.bool true) ?_
      refine wpList_nil ?_
      refine wp_ret ?_
      (try simp only [Exit.then, Exit.inBlock])
      change bodyPost Try.prog Try.f21 _ .ret _ _
      refine bodyPost_ret (results_ct rfl _ _ g5 32 _ (0, 0) _ (by kernel_rfl) (hW.blk 2 _ _ _ rfl).1 Try.underlying32 rfl (by kernel_rfl)) rfl ?_
      have hloc : localT t 9 a b c n = ({ t with pc := n }, true) := (Eq.trans (b := ((if getR t.R a 0 = 0 then { t with pc := n } else t : Th), true)) (by kernel_rfl) (by rw [if_pos hz]))
      subst e7
      rw [hloc]
      exact ⟨As7, cs7, Ab7, cb7, An7, cn7, rfl, ⟨Kd.R_lower (hK7.R hO7.s) hK7_le, Kd.R_lower (hK7.R hO7.b) hK7_le, Kd.R_lower (hK7.R hO7.n) hK7_le⟩, hW.below⟩
    · skip
      refine wp_region_list ?_
      refine sk (a' := (tll_a179 t a b c n g1 g3 g5 r7 sn9 g4q8 g4q9)) (.bool false) ?_
      refine sk (a' := (tll_a183 t a b c n g1 g3 g5 r7 sn9 g4q8 g4q9)) (.bool false) ?_
      refine wpList_nil ?_
      refine wp_cond (t := false) (by kernel_rfl) ?_
      refine wp_seq ?_
      refine wp_region_list ?_
      refine sk (a' := (tll_a184 t a b c n g1 g3 g5 r7 sn9 g4q8 g4q9)) (.bool false) ?_
      refine sk (a' := (tll_a185 t a b c n g1 g3 g5 r7 sn9 g4q8 g4q9)) (.bool false) ?_
      refine wpList_nil ?_
      refine wp_cond (t := false) (by kernel_rfl) ?_
      refine wp_seq ?_
      refine wp_region_list ?_
      refine sk (a' := (tll_a186 t a b c n g1 g3 g5 r7 sn9 g4q8 g4q9)) (.bool false) ?_
      refine sk (a' := (tll_a187 t a b c n g1 g3 g5 r7 sn9 g4q8 g4q9)) (.bool false) ?_
      refine wpList_nil ?_
      refine wp_cond (t := false) (by kernel_rfl) ?_
      refine wp_seq ?_
      refine wp_region_list ?_
      refine sk (a' := (tll_a188 t a b c n g1 g3 g5 r7 sn9 g4q8 g4q9)) (.bool false) ?_
      refine sk (a' := (tll_a190 t a b c n g1 g3 g5 r7 sn9 g4q8 g4q9)) (.bool false) ?_
      refine wpList_nil ?_
      refine wp_cond (t := false) (by kernel_rfl) ?_
      refine wp_seq ?_
      refine wp_region_list ?_
      refine sk (a' := (tll_a192 t a b c n g1 g3 g5 r7 sn9 g4q8 g4q9)) (.bool true) ?_
      refine sk (a' := (tll_a194 t a b c n g1 g3 g5 r7 sn9 g4q8 g4q9)) (.bool true) ?_
      refine wpList_nil ?_
      refine wp_cond (t := true) (by kernel_rfl) ?_
      refine wp_seq ?_
      refine wp_region_list ?_
      refine sk (a' := (tll_a196 t a b c n g1 g3 g5 r7 sn9 g4q8 g4q9)) (.pointer (some ⟨g4q8, 0, none⟩)) ?_
      refine se (a' := (tll_a198 t a b c n g1 g3 g5 r7 sn9 g4q8 g4q9)) (.int .i64 (getR t.R a 0)) (ev1 hW 1 0 Try.underlying2) ?_
      refine se (a' := (tll_a211 t a b c n g1 g3 g5 r7 sn9 g4q8 g4q9)) (.bool false) (Eq.trans (b := .ok (.value (.bool (((getR t.R a 0) : Int) == 0))) Wm4) (by kernel_rfl) (st_ok (beq_eq_false_iff_ne.2 (by omega)))) ?_
      refine wpList_nil ?_
      refine wp_cond (t := false) (by kernel_rfl) ?_
      refine wp_skip ?_
      refine wp_seq ?_
      refine wp_region_list ?_
      refine se (a' := (tll_a213 t a b c n g1 g3 g5 r7 sn9 g4q8 g4q9)) (.agg (tll_c2 t r7)) (evA hW 4 0 Try.underlying32) ?_
      obtain ⟨W11, hr, hW, hF⟩ := hW.storeN (P := Try.prog) (o := 0) (cs' := (tll_c2 t r7)) (L' := [(g4q9, 25, #[.int .i64 (getR t.R b 0), .int .i64 (getR t.R b 1), .int .i64 (getR t.R b 2)]), (g4q8, 25, #[.int .i64 (getR t.R a 0), .int .i64 (getR t.R a 1), .int .i64 (getR t.R a 2)]), (g5, 32, (tll_c2 t r7)), (g3, 45, #[.int .i64 9, .int .i64 a, .int .i64 b, .int .i64 c, .int .i64 n]), (g1, 32, (tll_c2 t r7))]) 2 rfl (tll_c2 t r7) (by (try subst e7); kernel_rfl) (Nat.le_of_ble_eq_true rfl) (by kernel_rfl) rfl 32 (by kernel_rfl)
      have hK7 := hK7.store hF (.inl hK7_g5)
      refine st_none (w' := W11) (a' := (tll_a213 t a b c n g1 g3 g5 r7 sn9 g4q8 g4q9)) (by kernel_rfl) (Eq.trans (b := (do Instr.storeAt 32 (.pointer (some ⟨g5, 0, none⟩)) (.agg (tll_c2 t r7)); pure Next.skip : Sem Next).run Try.prog Wm4) (by kernel_rfl) (st_unit hr)) (by kernel_rfl) ?_
      refine sk (a' := (tll_a215 t a b c n g1 g3 g5 r7 sn9 g4q8 g4q9)) (.bool true) ?_
      refine wpList_nil ?_
      refine wp_ret ?_
      (try simp only [Exit.then, Exit.inBlock])
      change bodyPost Try.prog Try.f21 _ .ret _ _
      refine bodyPost_ret (results_ct rfl _ _ g5 32 _ (0, 0) _ (by kernel_rfl) (hW.blk 2 _ _ _ rfl).1 Try.underlying32 rfl (by kernel_rfl)) rfl ?_
      have hloc : localT t 9 a b c n = (t, true) := (Eq.trans (b := ((if getR t.R a 0 = 0 then { t with pc := n } else t : Th), true)) (by kernel_rfl) (by rw [if_neg hz]))
      subst e7
      rw [hloc]
      exact ⟨As7, cs7, Ab7, cb7, An7, cn7, rfl, ⟨Kd.R_lower (hK7.R hO7.s) hK7_le, Kd.R_lower (hK7.R hO7.b) hK7_le, Kd.R_lower (hK7.R hO7.n) hK7_le⟩, hW.below⟩
    · skip
      refine wp_region_list ?_
      refine sk (a' := (tll_a216 t a b c n g1 g3 g5 r7 sn9 g4q8 g4q9)) (.bool false) ?_
      refine sk (a' := (tll_a220 t a b c n g1 g3 g5 r7 sn9 g4q8 g4q9)) (.bool false) ?_
      refine wpList_nil ?_
      refine wp_cond (t := false) (by kernel_rfl) ?_
      refine wp_seq ?_
      refine wp_region_list ?_
      refine sk (a' := (tll_a221 t a b c n g1 g3 g5 r7 sn9 g4q8 g4q9)) (.bool false) ?_
      refine sk (a' := (tll_a222 t a b c n g1 g3 g5 r7 sn9 g4q8 g4q9)) (.bool false) ?_
      refine wpList_nil ?_
      refine wp_cond (t := false) (by kernel_rfl) ?_
      refine wp_seq ?_
      refine wp_region_list ?_
      refine sk (a' := (tll_a223 t a b c n g1 g3 g5 r7 sn9 g4q8 g4q9)) (.bool false) ?_
      refine sk (a' := (tll_a224 t a b c n g1 g3 g5 r7 sn9 g4q8 g4q9)) (.bool false) ?_
      refine wpList_nil ?_
      refine wp_cond (t := false) (by kernel_rfl) ?_
      refine wp_seq ?_
      refine wp_region_list ?_
      refine sk (a' := (tll_a225 t a b c n g1 g3 g5 r7 sn9 g4q8 g4q9)) (.bool false) ?_
      refine sk (a' := (tll_a226 t a b c n g1 g3 g5 r7 sn9 g4q8 g4q9)) (.bool false) ?_
      refine wpList_nil ?_
      refine wp_cond (t := false) (by kernel_rfl) ?_
      refine wp_seq ?_
      refine wp_region_list ?_
      refine sk (a' := (tll_a227 t a b c n g1 g3 g5 r7 sn9 g4q8 g4q9)) (.bool false) ?_
      refine sk (a' := (tll_a229 t a b c n g1 g3 g5 r7 sn9 g4q8 g4q9)) (.bool false) ?_
      refine wpList_nil ?_
      refine wp_cond (t := false) (by kernel_rfl) ?_
      refine wp_seq ?_
      refine wp_region_list ?_
      refine sk (a' := (tll_a231 t a b c n g1 g3 g5 r7 sn9 g4q8 g4q9)) (.bool true) ?_
      refine sk (a' := (tll_a233 t a b c n g1 g3 g5 r7 sn9 g4q8 g4q9)) (.bool true) ?_
      refine wpList_nil ?_
      refine wp_cond (t := true) (by kernel_rfl) ?_
      refine wp_seq ?_
      refine wp_region_list ?_
      refine se (a' := (tll_a235 t a b c n g1 g3 g5 r7 sn9 g4q8 g4q9)) (.agg #[.int .i64 (getR t.R a 0), .int .i64 (getR t.R a 1), .int .i64 (getR t.R a 2)]) (evA hW 1 0 Try.underlying25) ?_
      refine se (a' := (tll_a237 t a b c n g1 g3 g5 r7 sn9 g4q8 g4q9)) (.agg #[.int .i64 (getR t.R b 0), .int .i64 (getR t.R b 1), .int .i64 (getR t.R b 2)]) (evA hW 0 0 Try.underlying25) ?_
      refine st_call (equal_is (getR t.R a 0) (getR t.R a 1) (getR t.R a 2) (getR t.R b 0) (getR t.R b 1) (getR t.R b 2) true hz Wm4) (by kernel_rfl) (by kernel_rfl) ?_
      rintro _ W11 ⟨rfl, hB⟩
      have hW := hW.step hB
      have hK7 := hK7.below hB
      refine ⟨_, (tll_a239 t a b c n g1 g3 g5 r7 sn9 g4q8 g4q9), rfl, by (try subst e7); kernel_rfl, ?_⟩
      refine wpList_nil ?_
      refine wp_cond (t := true) (by kernel_rfl) ?_
      refine wp_region_list ?_
      refine sk (a' := (tll_a241 t a b c n g1 g3 g5 r7 sn9 g4q8 g4q9)) (.pointer (some ⟨g3, 4, none⟩)) ?_
      refine se (a' := (tll_a243 t a b c n g1 g3 g5 r7 sn9 g4q8 g4q9)) (.int .i64 n) (ev1 hW 3 4 Try.underlying2) ?_
      refine sk (a' := (tll_a245 t a b c n g1 g3 g5 r7 sn9 g4q8 g4q9)) (.pointer (some ⟨g1, 0, none⟩)) ?_
      obtain ⟨W12, hr, hW, hF⟩ := hW.store1 (P := Try.prog) (o := 0) (cs' := (tll_c6 t n r7)) (L' := [(g4q9, 25, #[.int .i64 (getR t.R b 0), .int .i64 (getR t.R b 1), .int .i64 (getR t.R b 2)]), (g4q8, 25, #[.int .i64 (getR t.R a 0), .int .i64 (getR t.R a 1), .int .i64 (getR t.R a 2)]), (g5, 32, tll_c1), (g3, 45, #[.int .i64 10, .int .i64 a, .int .i64 b, .int .i64 c, .int .i64 n]), (g1, 32, (tll_c6 t n r7))]) 4 rfl (.int .i64 n) rfl (Nat.le_of_ble_eq_true rfl) (by rfl) rfl 3 (by kernel_rfl)
      have hK7 := hK7.store hF (.inl hK7_g1)
      refine st_none (w' := W12) (a' := (tll_a245 t a b c n g1 g3 g5 r7 sn9 g4q8 g4q9)) (by kernel_rfl) (Eq.trans (b := (do Instr.storeAt 3 (.pointer (some ⟨g1, 0, none⟩)) (.int .i64 n); pure Next.skip : Sem Next).run Try.prog W11) (by kernel_rfl) (st_unit hr)) (by kernel_rfl) ?_
      refine wpList_nil ?_
      refine wp_seq ?_
      refine wp_region_list ?_
      refine se (a' := (tll_a247 t a b c n g1 g3 g5 r7 sn9 g4q8 g4q9)) (.agg (tll_c6 t n r7)) (evA hW 4 0 Try.underlying32) ?_
      obtain ⟨W13, hr, hW, hF⟩ := hW.storeN (P := Try.prog) (o := 0) (cs' := (tll_c6 t n r7)) (L' := [(g4q9, 25, #[.int .i64 (getR t.R b 0), .int .i64 (getR t.R b 1), .int .i64 (getR t.R b 2)]), (g4q8, 25, #[.int .i64 (getR t.R a 0), .int .i64 (getR t.R a 1), .int .i64 (getR t.R a 2)]), (g5, 32, (tll_c6 t n r7)), (g3, 45, #[.int .i64 10, .int .i64 a, .int .i64 b, .int .i64 c, .int .i64 n]), (g1, 32, (tll_c6 t n r7))]) 2 rfl (tll_c6 t n r7) (by (try subst e7); kernel_rfl) (Nat.le_of_ble_eq_true rfl) (by kernel_rfl) rfl 32 (by kernel_rfl)
      have hK7 := hK7.store hF (.inl hK7_g5)
      refine st_none (w' := W13) (a' := (tll_a247 t a b c n g1 g3 g5 r7 sn9 g4q8 g4q9)) (by kernel_rfl) (Eq.trans (b := (do Instr.storeAt 32 (.pointer (some ⟨g5, 0, none⟩)) (.agg (tll_c6 t n r7)); pure Next.skip : Sem Next).run Try.prog W12) (by kernel_rfl) (st_unit hr)) (by kernel_rfl) ?_
      refine sk (a' := (tll_a248 t a b c n g1 g3 g5 r7 sn9 g4q8 g4q9)) (.bool true) ?_
      refine wpList_nil ?_
      refine wp_ret ?_
      (try simp only [Exit.then, Exit.inBlock])
      change bodyPost Try.prog Try.f21 _ .ret _ _
      refine bodyPost_ret (results_ct rfl _ _ g5 32 _ (0, 0) _ (by kernel_rfl) (hW.blk 2 _ _ _ rfl).1 Try.underlying32 rfl (by kernel_rfl)) rfl ?_
      have hloc : localT t 10 a b c n = ({ t with pc := n }, true) := (Eq.trans (b := ((if getR t.R a 0 = getR t.R b 0 then { t with pc := n } else t : Th), true)) (by kernel_rfl) (by rw [if_pos (beq_iff_eq.1 hz)]))
      subst e7
      rw [hloc]
      exact ⟨As7, cs7, Ab7, cb7, An7, cn7, rfl, ⟨Kd.R_lower (hK7.R hO7.s) hK7_le, Kd.R_lower (hK7.R hO7.b) hK7_le, Kd.R_lower (hK7.R hO7.n) hK7_le⟩, hW.below⟩
    · skip
      refine wp_region_list ?_
      refine sk (a' := (tll_a216 t a b c n g1 g3 g5 r7 sn9 g4q8 g4q9)) (.bool false) ?_
      refine sk (a' := (tll_a220 t a b c n g1 g3 g5 r7 sn9 g4q8 g4q9)) (.bool false) ?_
      refine wpList_nil ?_
      refine wp_cond (t := false) (by kernel_rfl) ?_
      refine wp_seq ?_
      refine wp_region_list ?_
      refine sk (a' := (tll_a221 t a b c n g1 g3 g5 r7 sn9 g4q8 g4q9)) (.bool false) ?_
      refine sk (a' := (tll_a222 t a b c n g1 g3 g5 r7 sn9 g4q8 g4q9)) (.bool false) ?_
      refine wpList_nil ?_
      refine wp_cond (t := false) (by kernel_rfl) ?_
      refine wp_seq ?_
      refine wp_region_list ?_
      refine sk (a' := (tll_a223 t a b c n g1 g3 g5 r7 sn9 g4q8 g4q9)) (.bool false) ?_
      refine sk (a' := (tll_a224 t a b c n g1 g3 g5 r7 sn9 g4q8 g4q9)) (.bool false) ?_
      refine wpList_nil ?_
      refine wp_cond (t := false) (by kernel_rfl) ?_
      refine wp_seq ?_
      refine wp_region_list ?_
      refine sk (a' := (tll_a225 t a b c n g1 g3 g5 r7 sn9 g4q8 g4q9)) (.bool false) ?_
      refine sk (a' := (tll_a226 t a b c n g1 g3 g5 r7 sn9 g4q8 g4q9)) (.bool false) ?_
      refine wpList_nil ?_
      refine wp_cond (t := false) (by kernel_rfl) ?_
      refine wp_seq ?_
      refine wp_region_list ?_
      refine sk (a' := (tll_a227 t a b c n g1 g3 g5 r7 sn9 g4q8 g4q9)) (.bool false) ?_
      refine sk (a' := (tll_a229 t a b c n g1 g3 g5 r7 sn9 g4q8 g4q9)) (.bool false) ?_
      refine wpList_nil ?_
      refine wp_cond (t := false) (by kernel_rfl) ?_
      refine wp_seq ?_
      refine wp_region_list ?_
      refine sk (a' := (tll_a231 t a b c n g1 g3 g5 r7 sn9 g4q8 g4q9)) (.bool true) ?_
      refine sk (a' := (tll_a233 t a b c n g1 g3 g5 r7 sn9 g4q8 g4q9)) (.bool true) ?_
      refine wpList_nil ?_
      refine wp_cond (t := true) (by kernel_rfl) ?_
      refine wp_seq ?_
      refine wp_region_list ?_
      refine se (a' := (tll_a235 t a b c n g1 g3 g5 r7 sn9 g4q8 g4q9)) (.agg #[.int .i64 (getR t.R a 0), .int .i64 (getR t.R a 1), .int .i64 (getR t.R a 2)]) (evA hW 1 0 Try.underlying25) ?_
      refine se (a' := (tll_a237 t a b c n g1 g3 g5 r7 sn9 g4q8 g4q9)) (.agg #[.int .i64 (getR t.R b 0), .int .i64 (getR t.R b 1), .int .i64 (getR t.R b 2)]) (evA hW 0 0 Try.underlying25) ?_
      refine st_call (equal_is (getR t.R a 0) (getR t.R a 1) (getR t.R a 2) (getR t.R b 0) (getR t.R b 1) (getR t.R b 2) false hz Wm4) (by kernel_rfl) (by kernel_rfl) ?_
      rintro _ W11 ⟨rfl, hB⟩
      have hW := hW.step hB
      have hK7 := hK7.below hB
      refine ⟨_, (tll_a250 t a b c n g1 g3 g5 r7 sn9 g4q8 g4q9), rfl, by (try subst e7); kernel_rfl, ?_⟩
      refine wpList_nil ?_
      refine wp_cond (t := false) (by kernel_rfl) ?_
      refine wp_skip ?_
      refine wp_seq ?_
      refine wp_region_list ?_
      refine se (a' := (tll_a252 t a b c n g1 g3 g5 r7 sn9 g4q8 g4q9)) (.agg (tll_c2 t r7)) (evA hW 4 0 Try.underlying32) ?_
      obtain ⟨W12, hr, hW, hF⟩ := hW.storeN (P := Try.prog) (o := 0) (cs' := (tll_c2 t r7)) (L' := [(g4q9, 25, #[.int .i64 (getR t.R b 0), .int .i64 (getR t.R b 1), .int .i64 (getR t.R b 2)]), (g4q8, 25, #[.int .i64 (getR t.R a 0), .int .i64 (getR t.R a 1), .int .i64 (getR t.R a 2)]), (g5, 32, (tll_c2 t r7)), (g3, 45, #[.int .i64 10, .int .i64 a, .int .i64 b, .int .i64 c, .int .i64 n]), (g1, 32, (tll_c2 t r7))]) 2 rfl (tll_c2 t r7) (by (try subst e7); kernel_rfl) (Nat.le_of_ble_eq_true rfl) (by kernel_rfl) rfl 32 (by kernel_rfl)
      have hK7 := hK7.store hF (.inl hK7_g5)
      refine st_none (w' := W12) (a' := (tll_a252 t a b c n g1 g3 g5 r7 sn9 g4q8 g4q9)) (by kernel_rfl) (Eq.trans (b := (do Instr.storeAt 32 (.pointer (some ⟨g5, 0, none⟩)) (.agg (tll_c2 t r7)); pure Next.skip : Sem Next).run Try.prog W11) (by kernel_rfl) (st_unit hr)) (by kernel_rfl) ?_
      refine sk (a' := (tll_a253 t a b c n g1 g3 g5 r7 sn9 g4q8 g4q9)) (.bool true) ?_
      refine wpList_nil ?_
      refine wp_ret ?_
      (try simp only [Exit.then, Exit.inBlock])
      change bodyPost Try.prog Try.f21 _ .ret _ _
      refine bodyPost_ret (results_ct rfl _ _ g5 32 _ (0, 0) _ (by kernel_rfl) (hW.blk 2 _ _ _ rfl).1 Try.underlying32 rfl (by kernel_rfl)) rfl ?_
      have hloc : localT t 10 a b c n = (t, true) := (Eq.trans (b := ((if getR t.R a 0 = getR t.R b 0 then { t with pc := n } else t : Th), true)) (by kernel_rfl) (by rw [if_neg (beq_eq_false_iff_ne.1 hz)]))
      subst e7
      rw [hloc]
      exact ⟨As7, cs7, Ab7, cb7, An7, cn7, rfl, ⟨Kd.R_lower (hK7.R hO7.s) hK7_le, Kd.R_lower (hK7.R hO7.b) hK7_le, Kd.R_lower (hK7.R hO7.n) hK7_le⟩, hW.below⟩
    · skip
      refine wp_region_list ?_
      refine sk (a' := (tll_a254 t a b c n g1 g3 g5 r7 sn9 g4q8 g4q9)) (.bool false) ?_
      refine sk (a' := (tll_a258 t a b c n g1 g3 g5 r7 sn9 g4q8 g4q9)) (.bool false) ?_
      refine wpList_nil ?_
      refine wp_cond (t := false) (by kernel_rfl) ?_
      refine wp_seq ?_
      refine wp_region_list ?_
      refine sk (a' := (tll_a259 t a b c n g1 g3 g5 r7 sn9 g4q8 g4q9)) (.bool false) ?_
      refine sk (a' := (tll_a260 t a b c n g1 g3 g5 r7 sn9 g4q8 g4q9)) (.bool false) ?_
      refine wpList_nil ?_
      refine wp_cond (t := false) (by kernel_rfl) ?_
      refine wp_seq ?_
      refine wp_region_list ?_
      refine sk (a' := (tll_a261 t a b c n g1 g3 g5 r7 sn9 g4q8 g4q9)) (.bool false) ?_
      refine sk (a' := (tll_a262 t a b c n g1 g3 g5 r7 sn9 g4q8 g4q9)) (.bool false) ?_
      refine wpList_nil ?_
      refine wp_cond (t := false) (by kernel_rfl) ?_
      refine wp_seq ?_
      refine wp_region_list ?_
      refine sk (a' := (tll_a263 t a b c n g1 g3 g5 r7 sn9 g4q8 g4q9)) (.bool false) ?_
      refine sk (a' := (tll_a264 t a b c n g1 g3 g5 r7 sn9 g4q8 g4q9)) (.bool false) ?_
      refine wpList_nil ?_
      refine wp_cond (t := false) (by kernel_rfl) ?_
      refine wp_seq ?_
      refine wp_region_list ?_
      refine sk (a' := (tll_a265 t a b c n g1 g3 g5 r7 sn9 g4q8 g4q9)) (.bool false) ?_
      refine sk (a' := (tll_a266 t a b c n g1 g3 g5 r7 sn9 g4q8 g4q9)) (.bool false) ?_
      refine wpList_nil ?_
      refine wp_cond (t := false) (by kernel_rfl) ?_
      refine wp_seq ?_
      refine wp_region_list ?_
      refine sk (a' := (tll_a267 t a b c n g1 g3 g5 r7 sn9 g4q8 g4q9)) (.bool false) ?_
      refine sk (a' := (tll_a269 t a b c n g1 g3 g5 r7 sn9 g4q8 g4q9)) (.bool false) ?_
      refine wpList_nil ?_
      refine wp_cond (t := false) (by kernel_rfl) ?_
      refine wp_seq ?_
      have hW := hW.drew
      have hK7 := hK7.below (below_drew (Below.refl _ _))
      refine wp_mid (M := fun a' W' => ∃ g6q11 : Nat, a' = (tll_a295 t a b c n g1 g3 g5 r7 sn9 g4q8 g4q9 g6q11) ∧ Ws w W' [(g6q11, 25, #[.int .i64 ((arithF 4 (getR t.R b 0) (getR t.R c 0)).1), .int .i64 0, .int .i64 0]), (g4q9, 25, #[.int .i64 (getR t.R b 0), .int .i64 (getR t.R b 1), .int .i64 (getR t.R b 2)]), (g4q8, 25, #[.int .i64 (getR t.R a 0), .int .i64 (getR t.R a 1), .int .i64 (getR t.R a 2)]), (g5, 32, tll_c1), (g3, 45, #[.int .i64 4, .int .i64 a, .int .i64 b, .int .i64 c, .int .i64 n]), (g1, 32, (tll_c2 t r7))] ∧ KeepUp W6.heap.size W7 W' ∧ W7.heap.size ≤ g6q11) ?_ ?_
      · skip
        refine wp_region_held_drew (S := fun W => Ws w W [(g4q9, 25, #[.int .i64 (getR t.R b 0), .int .i64 (getR t.R b 1), .int .i64 (getR t.R b 2)]), (g4q8, 25, #[.int .i64 (getR t.R a 0), .int .i64 (getR t.R a 1), .int .i64 (getR t.R a 2)]), (g5, 32, tll_c1), (g3, 45, #[.int .i64 4, .int .i64 a, .int .i64 b, .int .i64 c, .int .i64 n]), (g1, 32, (tll_c2 t r7))]) (by kernel_rfl) hW (fun _ => ?_)
        refine dk (a' := (tll_a271 t a b c n g1 g3 g5 r7 sn9 g4q8 g4q9)) 0 (.pointer (some ⟨g3, 0, none⟩)) hW ?_
        refine de (a' := (tll_a273 t a b c n g1 g3 g5 r7 sn9 g4q8 g4q9)) 1 (.int .i64 4) rfl (fun W hH => (ev1 hH 3 0 Try.underlying3)) hW ?_
        refine de (a' := (tll_a275 t a b c n g1 g3 g5 r7 sn9 g4q8 g4q9)) 2 (.agg #[.int .i64 (getR t.R b 0), .int .i64 (getR t.R b 1), .int .i64 (getR t.R b 2)]) rfl (fun W hH => (evA hH 0 0 Try.underlying25)) hW ?_
        refine de (a' := (tll_a277 t a b c n g1 g3 g5 r7 sn9 g4q8 g4q9)) 3 (.agg (tll_c2 t r7)) rfl (fun W hH => (evA hH 4 0 Try.underlying32)) hW ?_
        refine dk (a' := (tll_a279 t a b c n g1 g3 g5 r7 sn9 g4q8 g4q9)) 4 (.pointer (some ⟨g3, 3, none⟩)) hW ?_
        refine de (a' := (tll_a281 t a b c n g1 g3 g5 r7 sn9 g4q8 g4q9)) 5 (.int .i64 c) rfl (fun W hH => (ev1 hH 3 3 Try.underlying3)) hW ?_
        refine wpAnyH_all (rs := [6, 11]) (by kernel_rfl) (by simp) ?_
        refine all_cons ?_ ?_
        · skip
          refine op_call rfl (th_Get (⟨t.pc, t.fu, t.st, t.R, t.kd, t.mi, t.mn, r7.s, r7.b, r7.n, t.old⟩ : Th) c Wm4.drew) (by kernel_rfl) (by kernel_rfl) ?_
          rintro _ W6q6 ⟨rfl, hB⟩
          have hW := hW.step hB
          have hK7 := hK7.below hB
          refine ⟨_, (tll_a283 t a b c n g1 g3 g5 r7 sn9 g4q8 g4q9), rfl, by (try subst e7); kernel_rfl, ?_⟩
          refine ⟨hW, ?_⟩
          refine wpAnyH_all (rs := [7, 11]) (by kernel_rfl) (by simp) ?_
          refine all_cons ?_ ?_
          · skip
            refine op_call rfl (arith_is 4 (getR t.R b 0) (getR t.R b 1) (getR t.R b 2) (getR t.R c 0) (getR t.R c 1) (getR t.R c 2) (by omega) true rfl W6q6) (by kernel_rfl) (by kernel_rfl) ?_
            rintro _ W6q7 ⟨rfl, hB⟩
            have hW := hW.step hB
            have hK7 := hK7.below hB
            refine ⟨_, (tll_a285 t a b c n g1 g3 g5 r7 sn9 g4q8 g4q9), rfl, by (try subst e7); kernel_rfl, ?_⟩
            refine ⟨hW, ?_⟩
            refine dk (a' := (tll_a287 t a b c n g1 g3 g5 r7 sn9 g4q8 g4q9)) 8 (.tuple #[.agg #[.int .i64 ((arithF 4 (getR t.R b 0) (getR t.R c 0)).1), .int .i64 0, .int .i64 0], .bool true]) hW ?_
            refine de (a' := (tll_a289 t a b c n g1 g3 g5 r7 sn9 g4q8 g4q9)) 9 (.agg #[.int .i64 ((arithF 4 (getR t.R b 0) (getR t.R c 0)).1), .int .i64 0, .int .i64 0]) rfl (fun W hH => by kernel_rfl) hW ?_
            refine de (a' := (tll_a291 t a b c n g1 g3 g5 r7 sn9 g4q8 g4q9)) 10 (.bool true) rfl (fun W hH => by kernel_rfl) hW ?_
            refine wpAnyH_all (rs := [11]) (by kernel_rfl) (by simp) ?_
            refine all_cons ?_ all_nil
            obtain ⟨g6q11, W6q11, hr, hW, hbb, hge⟩ := hW.mk1 (P := Try.prog) (s := Instr.alloc 25 true (.tuple #[])) #[.int .i64 0, .int .i64 0, .int .i64 0] 25 (by kernel_rfl)
            have hK7_g6q11 := Nat.le_trans hK7.size hge
            have hK7 := hK7.below hbb
            refine op_val (w' := W6q11) (a' := (tll_a293 t a b c n g1 g3 g5 r7 sn9 g4q8 g4q9 g6q11)) (.pointer (some ⟨g6q11, 0, none⟩)) rfl (by kernel_rfl) (Eq.trans (b := (do pure (Next.value (← Instr.alloc 25 true (.tuple #[]))) : Sem Next).run Try.prog W6q7) (by kernel_rfl) (st_val hr)) (by kernel_rfl) ?_
            refine ⟨hW.tail, ?_⟩
            refine wpAnyH_all (rs := [12]) (by kernel_rfl) (by simp) ?_
            refine all_cons ?_ all_nil
            obtain ⟨W6q12, hr, hW, hF⟩ := hW.storeN (P := Try.prog) (o := 0) (cs' := #[.int .i64 ((arithF 4 (getR t.R b 0) (getR t.R c 0)).1), .int .i64 0, .int .i64 0]) (L' := [(g6q11, 25, #[.int .i64 ((arithF 4 (getR t.R b 0) (getR t.R c 0)).1), .int .i64 0, .int .i64 0]), (g4q9, 25, #[.int .i64 (getR t.R b 0), .int .i64 (getR t.R b 1), .int .i64 (getR t.R b 2)]), (g4q8, 25, #[.int .i64 (getR t.R a 0), .int .i64 (getR t.R a 1), .int .i64 (getR t.R a 2)]), (g5, 32, tll_c1), (g3, 45, #[.int .i64 4, .int .i64 a, .int .i64 b, .int .i64 c, .int .i64 n]), (g1, 32, (tll_c2 t r7))]) 0 rfl #[.int .i64 ((arithF 4 (getR t.R b 0) (getR t.R c 0)).1), .int .i64 0, .int .i64 0] (by (try subst e7); kernel_rfl) (Nat.le_of_ble_eq_true rfl) (by kernel_rfl) rfl 25 (by kernel_rfl)
            have hK7 := hK7.store hF (.inr hK7_g6q11)
            refine op_none (w' := W6q12) (a' := (tll_a293 t a b c n g1 g3 g5 r7 sn9 g4q8 g4q9 g6q11)) rfl (by kernel_rfl) (Eq.trans (b := (do Instr.storeAt 25 (.pointer (some ⟨g6q11, 0, none⟩)) (.agg #[.int .i64 ((arithF 4 (getR t.R b 0) (getR t.R c 0)).1), .int .i64 0, .int .i64 0]); pure Next.skip : Sem Next).run Try.prog W6q11) (by kernel_rfl) (st_unit hr)) (by kernel_rfl) ?_
            refine ⟨hW.tail, ?_⟩
            refine dk (a' := (tll_a295 t a b c n g1 g3 g5 r7 sn9 g4q8 g4q9 g6q11)) 13 (.bool true) hW.tail ?_
            refine wpAnyH_done (by kernel_rfl) ?_ _
            simp only [Exit.then]
            exact ⟨g6q11, rfl, hW, hK7, hK7_g6q11⟩
          refine all_cons ?_ all_nil
          obtain ⟨g6q11, W6q11, hr, hW, hbb, hge⟩ := hW.mk1 (P := Try.prog) (s := Instr.alloc 25 true (.tuple #[])) #[.int .i64 0, .int .i64 0, .int .i64 0] 25 (by kernel_rfl)
          have hK7_g6q11 := Nat.le_trans hK7.size hge
          have hK7 := hK7.below hbb
          refine op_val (w' := W6q11) (a' := (tll_a297 t a b c n g1 g3 g5 r7 sn9 g4q8 g4q9 g6q11)) (.pointer (some ⟨g6q11, 0, none⟩)) rfl (by kernel_rfl) (Eq.trans (b := (do pure (Next.value (← Instr.alloc 25 true (.tuple #[]))) : Sem Next).run Try.prog W6q6) (by kernel_rfl) (st_val hr)) (by kernel_rfl) ?_
          refine ⟨hW.tail, ?_⟩
          refine wpAnyH_all (rs := [7]) (by kernel_rfl) (by simp) ?_
          refine all_cons ?_ all_nil
          refine op_call rfl (arith_is 4 (getR t.R b 0) (getR t.R b 1) (getR t.R b 2) (getR t.R c 0) (getR t.R c 1) (getR t.R c 2) (by omega) true rfl W6q11) (by kernel_rfl) (by kernel_rfl) ?_
          rintro _ W6q7 ⟨rfl, hB⟩
          have hW := hW.step hB
          have hK7 := hK7.below hB
          refine ⟨_, (tll_a298 t a b c n g1 g3 g5 r7 sn9 g4q8 g4q9 g6q11), rfl, by (try subst e7); kernel_rfl, ?_⟩
          refine ⟨hW.tail, ?_⟩
          refine dk (a' := (tll_a299 t a b c n g1 g3 g5 r7 sn9 g4q8 g4q9 g6q11)) 8 (.tuple #[.agg #[.int .i64 ((arithF 4 (getR t.R b 0) (getR t.R c 0)).1), .int .i64 0, .int .i64 0], .bool true]) hW.tail ?_
          refine de (a' := (tll_a300 t a b c n g1 g3 g5 r7 sn9 g4q8 g4q9 g6q11)) 9 (.agg #[.int .i64 ((arithF 4 (getR t.R b 0) (getR t.R c 0)).1), .int .i64 0, .int .i64 0]) rfl (fun W hH => by kernel_rfl) hW.tail ?_
          refine de (a' := (tll_a293 t a b c n g1 g3 g5 r7 sn9 g4q8 g4q9 g6q11)) 10 (.bool true) rfl (fun W hH => by kernel_rfl) hW.tail ?_
          refine wpAnyH_all (rs := [12]) (by kernel_rfl) (by simp) ?_
          refine all_cons ?_ all_nil
          obtain ⟨W6q12, hr, hW, hF⟩ := hW.storeN (P := Try.prog) (o := 0) (cs' := #[.int .i64 ((arithF 4 (getR t.R b 0) (getR t.R c 0)).1), .int .i64 0, .int .i64 0]) (L' := [(g6q11, 25, #[.int .i64 ((arithF 4 (getR t.R b 0) (getR t.R c 0)).1), .int .i64 0, .int .i64 0]), (g4q9, 25, #[.int .i64 (getR t.R b 0), .int .i64 (getR t.R b 1), .int .i64 (getR t.R b 2)]), (g4q8, 25, #[.int .i64 (getR t.R a 0), .int .i64 (getR t.R a 1), .int .i64 (getR t.R a 2)]), (g5, 32, tll_c1), (g3, 45, #[.int .i64 4, .int .i64 a, .int .i64 b, .int .i64 c, .int .i64 n]), (g1, 32, (tll_c2 t r7))]) 0 rfl #[.int .i64 ((arithF 4 (getR t.R b 0) (getR t.R c 0)).1), .int .i64 0, .int .i64 0] (by (try subst e7); kernel_rfl) (Nat.le_of_ble_eq_true rfl) (by kernel_rfl) rfl 25 (by kernel_rfl)
          have hK7 := hK7.store hF (.inr hK7_g6q11)
          refine op_none (w' := W6q12) (a' := (tll_a293 t a b c n g1 g3 g5 r7 sn9 g4q8 g4q9 g6q11)) rfl (by kernel_rfl) (Eq.trans (b := (do Instr.storeAt 25 (.pointer (some ⟨g6q11, 0, none⟩)) (.agg #[.int .i64 ((arithF 4 (getR t.R b 0) (getR t.R c 0)).1), .int .i64 0, .int .i64 0]); pure Next.skip : Sem Next).run Try.prog W6q7) (by kernel_rfl) (st_unit hr)) (by kernel_rfl) ?_
          refine ⟨hW.tail, ?_⟩
          refine dk (a' := (tll_a295 t a b c n g1 g3 g5 r7 sn9 g4q8 g4q9 g6q11)) 13 (.bool true) hW.tail ?_
          refine wpAnyH_done (by kernel_rfl) ?_ _
          simp only [Exit.then]
          exact ⟨g6q11, rfl, hW, hK7, hK7_g6q11⟩
        refine all_cons ?_ all_nil
        obtain ⟨g6q11, W6q11, hr, hW, hbb, hge⟩ := hW.mk1 (P := Try.prog) (s := Instr.alloc 25 true (.tuple #[])) #[.int .i64 0, .int .i64 0, .int .i64 0] 25 (by kernel_rfl)
        have hK7_g6q11 := Nat.le_trans hK7.size hge
        have hK7 := hK7.below hbb
        refine op_val (w' := W6q11) (a' := (tll_a301 t a b c n g1 g3 g5 r7 sn9 g4q8 g4q9 g6q11)) (.pointer (some ⟨g6q11, 0, none⟩)) rfl (by kernel_rfl) (Eq.trans (b := (do pure (Next.value (← Instr.alloc 25 true (.tuple #[]))) : Sem Next).run Try.prog Wm4.drew) (by kernel_rfl) (st_val hr)) (by kernel_rfl) ?_
        refine ⟨hW.tail, ?_⟩
        refine wpAnyH_all (rs := [6]) (by kernel_rfl) (by simp) ?_
        refine all_cons ?_ all_nil
        refine op_call rfl (th_Get (⟨t.pc, t.fu, t.st, t.R, t.kd, t.mi, t.mn, r7.s, r7.b, r7.n, t.old⟩ : Th) c W6q11) (by kernel_rfl) (by kernel_rfl) ?_
        rintro _ W6q6 ⟨rfl, hB⟩
        have hW := hW.step hB
        have hK7 := hK7.below hB
        refine ⟨_, (tll_a297 t a b c n g1 g3 g5 r7 sn9 g4q8 g4q9 g6q11), rfl, by (try subst e7); kernel_rfl, ?_⟩
        refine ⟨hW.tail, ?_⟩
        refine wpAnyH_all (rs := [7]) (by kernel_rfl) (by simp) ?_
        refine all_cons ?_ all_nil
        refine op_call rfl (arith_is 4 (getR t.R b 0) (getR t.R b 1) (getR t.R b 2) (getR t.R c 0) (getR t.R c 1) (getR t.R c 2) (by omega) true rfl W6q6) (by kernel_rfl) (by kernel_rfl) ?_
        rintro _ W6q7 ⟨rfl, hB⟩
        have hW := hW.step hB
        have hK7 := hK7.below hB
        refine ⟨_, (tll_a298 t a b c n g1 g3 g5 r7 sn9 g4q8 g4q9 g6q11), rfl, by (try subst e7); kernel_rfl, ?_⟩
        refine ⟨hW.tail, ?_⟩
        refine dk (a' := (tll_a299 t a b c n g1 g3 g5 r7 sn9 g4q8 g4q9 g6q11)) 8 (.tuple #[.agg #[.int .i64 ((arithF 4 (getR t.R b 0) (getR t.R c 0)).1), .int .i64 0, .int .i64 0], .bool true]) hW.tail ?_
        refine de (a' := (tll_a300 t a b c n g1 g3 g5 r7 sn9 g4q8 g4q9 g6q11)) 9 (.agg #[.int .i64 ((arithF 4 (getR t.R b 0) (getR t.R c 0)).1), .int .i64 0, .int .i64 0]) rfl (fun W hH => by kernel_rfl) hW.tail ?_
        refine de (a' := (tll_a293 t a b c n g1 g3 g5 r7 sn9 g4q8 g4q9 g6q11)) 10 (.bool true) rfl (fun W hH => by kernel_rfl) hW.tail ?_
        refine wpAnyH_all (rs := [12]) (by kernel_rfl) (by simp) ?_
        refine all_cons ?_ all_nil
        obtain ⟨W6q12, hr, hW, hF⟩ := hW.storeN (P := Try.prog) (o := 0) (cs' := #[.int .i64 ((arithF 4 (getR t.R b 0) (getR t.R c 0)).1), .int .i64 0, .int .i64 0]) (L' := [(g6q11, 25, #[.int .i64 ((arithF 4 (getR t.R b 0) (getR t.R c 0)).1), .int .i64 0, .int .i64 0]), (g4q9, 25, #[.int .i64 (getR t.R b 0), .int .i64 (getR t.R b 1), .int .i64 (getR t.R b 2)]), (g4q8, 25, #[.int .i64 (getR t.R a 0), .int .i64 (getR t.R a 1), .int .i64 (getR t.R a 2)]), (g5, 32, tll_c1), (g3, 45, #[.int .i64 4, .int .i64 a, .int .i64 b, .int .i64 c, .int .i64 n]), (g1, 32, (tll_c2 t r7))]) 0 rfl #[.int .i64 ((arithF 4 (getR t.R b 0) (getR t.R c 0)).1), .int .i64 0, .int .i64 0] (by (try subst e7); kernel_rfl) (Nat.le_of_ble_eq_true rfl) (by kernel_rfl) rfl 25 (by kernel_rfl)
        have hK7 := hK7.store hF (.inr hK7_g6q11)
        refine op_none (w' := W6q12) (a' := (tll_a293 t a b c n g1 g3 g5 r7 sn9 g4q8 g4q9 g6q11)) rfl (by kernel_rfl) (Eq.trans (b := (do Instr.storeAt 25 (.pointer (some ⟨g6q11, 0, none⟩)) (.agg #[.int .i64 ((arithF 4 (getR t.R b 0) (getR t.R c 0)).1), .int .i64 0, .int .i64 0]); pure Next.skip : Sem Next).run Try.prog W6q7) (by kernel_rfl) (st_unit hr)) (by kernel_rfl) ?_
        refine ⟨hW.tail, ?_⟩
        refine dk (a' := (tll_a295 t a b c n g1 g3 g5 r7 sn9 g4q8 g4q9 g6q11)) 13 (.bool true) hW.tail ?_
        refine wpAnyH_done (by kernel_rfl) ?_ _
        simp only [Exit.then]
        exact ⟨g6q11, rfl, hW, hK7, hK7_g6q11⟩
      rintro _ Wm6 ⟨g6q11, rfl, hW, hK7, hK7_g6q11⟩
      refine wp_seq ?_
      refine wp_seq ?_
      refine wp_region_list ?_
      refine sk (a' := (tll_a302 t a b c n g1 g3 g5 r7 sn9 g4q8 g4q9 g6q11)) (.bool true) ?_
      refine sk (a' := (tll_a304 t a b c n g1 g3 g5 r7 sn9 g4q8 g4q9 g6q11)) (.bool false) ?_
      refine wpList_nil ?_
      refine wp_cond (t := false) (by kernel_rfl) ?_
      refine wp_skip ?_
      refine wp_region_list ?_
      refine se (a' := (tll_a306 t a b c n g1 g3 g5 r7 sn9 g4q8 g4q9 g6q11)) (.agg (tll_c2 t r7)) (evA hW 5 0 Try.underlying32) ?_
      refine sk (a' := (tll_a308 t a b c n g1 g3 g5 r7 sn9 g4q8 g4q9 g6q11)) (.pointer (some ⟨g3, 1, none⟩)) ?_
      refine se (a' := (tll_a310 t a b c n g1 g3 g5 r7 sn9 g4q8 g4q9 g6q11)) (.int .i64 a) (ev1 hW 4 1 Try.underlying3) ?_
      refine se (a' := (tll_a312 t a b c n g1 g3 g5 r7 sn9 g4q8 g4q9 g6q11)) (.agg #[.int .i64 ((arithF 4 (getR t.R b 0) (getR t.R c 0)).1), .int .i64 0, .int .i64 0]) (evA hW 0 0 Try.underlying25) ?_
      have hK11_g6q11 : g6q11 < Wm6.heap.size := blk_lt (hW.blk 0 _ _ _ rfl).1
      have hK11_g4q9 : g4q9 < Wm6.heap.size := blk_lt (hW.blk 1 _ _ _ rfl).1
      have hK11_g4q8 : g4q8 < Wm6.heap.size := blk_lt (hW.blk 2 _ _ _ rfl).1
      have hK11_g5 : g5 < Wm6.heap.size := blk_lt (hW.blk 3 _ _ _ rfl).1
      have hK11_g3 : g3 < Wm6.heap.size := blk_lt (hW.blk 4 _ _ _ rfl).1
      have hK11_g1 : g1 < Wm6.heap.size := blk_lt (hW.blk 5 _ _ _ rfl).1
      have hK11_le : w.heap.size ≤ Wm6.heap.size := hW.below.size
      refine st_call (th_Set (t := (⟨t.pc, t.fu, t.st, t.R, t.kd, t.mi, t.mn, r7.s, r7.b, r7.n, t.old⟩ : Th)) (xs := xs) (bs := bs) (ns := ns) (by subst e7; exact ⟨(hO7.keep hK7).reads.s, (hO7.keep hK7).reads.b, (hO7.keep hK7).reads.n⟩) hl a ((arithF 4 (getR t.R b 0) (getR t.R c 0)).1) 0 0) (by kernel_rfl) (by kernel_rfl) ?_
      rintro _ W11 ⟨As11, cs11, Ab11, cb11, An11, cn11, rfl, hO11, hB⟩
      have hW := hW.step hB
      have hK7 := hK7.below hB
      have hK11 := KeepUp.refl Wm6.heap.size W11
      obtain ⟨r11, e11⟩ : ∃ r : Rw, r = ⟨.slice As11 xs.length cs11, .slice Ab11 bs.length cb11, .slice An11 ns.length cn11⟩ := ⟨_, rfl⟩
      refine ⟨_, (tll_a315 t a b c n g1 g3 g5 r7 sn9 g4q8 g4q9 g6q11 r11), rfl, by (try subst e7); (try subst e11); kernel_rfl, ?_⟩
      obtain ⟨W12, hr, hW, hF⟩ := hW.storeN (P := Try.prog) (o := 0) (cs' := (tll_c7 t a b c r11)) (L' := [(g6q11, 25, #[.int .i64 ((arithF 4 (getR t.R b 0) (getR t.R c 0)).1), .int .i64 0, .int .i64 0]), (g4q9, 25, #[.int .i64 (getR t.R b 0), .int .i64 (getR t.R b 1), .int .i64 (getR t.R b 2)]), (g4q8, 25, #[.int .i64 (getR t.R a 0), .int .i64 (getR t.R a 1), .int .i64 (getR t.R a 2)]), (g5, 32, tll_c1), (g3, 45, #[.int .i64 4, .int .i64 a, .int .i64 b, .int .i64 c, .int .i64 n]), (g1, 32, (tll_c7 t a b c r11))]) 5 rfl (tll_c7 t a b c r11) (by (try subst e7); (try subst e11); kernel_rfl) (Nat.le_of_ble_eq_true rfl) (by kernel_rfl) rfl 32 (by kernel_rfl)
      have hK7 := hK7.store hF (.inl hK7_g1)
      have hK11 := hK11.store hF (.inl hK11_g1)
      refine st_none (w' := W12) (a' := (tll_a315 t a b c n g1 g3 g5 r7 sn9 g4q8 g4q9 g6q11 r11)) (by kernel_rfl) (Eq.trans (b := (do Instr.storeAt 32 (.pointer (some ⟨g1, 0, none⟩)) (.agg (tll_c7 t a b c r11)); pure Next.skip : Sem Next).run Try.prog W11) (by kernel_rfl) (st_unit hr)) (by kernel_rfl) ?_
      refine wpList_nil ?_
      refine wp_seq ?_
      refine wp_region_list ?_
      refine se (a' := (tll_a317 t a b c n g1 g3 g5 r7 sn9 g4q8 g4q9 g6q11 r11)) (.agg (tll_c7 t a b c r11)) (evA hW 5 0 Try.underlying32) ?_
      obtain ⟨W13, hr, hW, hF⟩ := hW.storeN (P := Try.prog) (o := 0) (cs' := (tll_c7 t a b c r11)) (L' := [(g6q11, 25, #[.int .i64 ((arithF 4 (getR t.R b 0) (getR t.R c 0)).1), .int .i64 0, .int .i64 0]), (g4q9, 25, #[.int .i64 (getR t.R b 0), .int .i64 (getR t.R b 1), .int .i64 (getR t.R b 2)]), (g4q8, 25, #[.int .i64 (getR t.R a 0), .int .i64 (getR t.R a 1), .int .i64 (getR t.R a 2)]), (g5, 32, (tll_c7 t a b c r11)), (g3, 45, #[.int .i64 4, .int .i64 a, .int .i64 b, .int .i64 c, .int .i64 n]), (g1, 32, (tll_c7 t a b c r11))]) 3 rfl (tll_c7 t a b c r11) (by (try subst e7); (try subst e11); kernel_rfl) (Nat.le_of_ble_eq_true rfl) (by kernel_rfl) rfl 32 (by kernel_rfl)
      have hK7 := hK7.store hF (.inl hK7_g5)
      have hK11 := hK11.store hF (.inl hK11_g5)
      refine st_none (w' := W13) (a' := (tll_a317 t a b c n g1 g3 g5 r7 sn9 g4q8 g4q9 g6q11 r11)) (by kernel_rfl) (Eq.trans (b := (do Instr.storeAt 32 (.pointer (some ⟨g5, 0, none⟩)) (.agg (tll_c7 t a b c r11)); pure Next.skip : Sem Next).run Try.prog W12) (by kernel_rfl) (st_unit hr)) (by kernel_rfl) ?_
      refine sk (a' := (tll_a319 t a b c n g1 g3 g5 r7 sn9 g4q8 g4q9 g6q11 r11)) (.bool true) ?_
      refine wpList_nil ?_
      refine wp_ret ?_
      (try simp only [Exit.then, Exit.inBlock])
      change bodyPost Try.prog Try.f21 _ .ret _ _
      refine bodyPost_ret (results_ct rfl _ _ g5 32 _ (0, 0) _ (by kernel_rfl) (hW.blk 3 _ _ _ rfl).1 Try.underlying32 rfl (by kernel_rfl)) rfl ?_
      have hloc : localT t 4 a b c n = ({ t with R := setR t.R a (arithF 4 (getR t.R b 0) (getR t.R c 0)).1 0 0 }, true) := (by kernel_rfl)
      subst e11
      rw [hloc]
      exact ⟨As11, cs11, Ab11, cb11, An11, cn11, rfl, ⟨Kd.R_lower (hK11.R hO11.s) hK11_le, Kd.R_lower (hK11.R hO11.b) hK11_le, Kd.R_lower (hK11.R hO11.n) hK11_le⟩, hW.below⟩
    · skip
      refine wp_region_list ?_
      refine sk (a' := (tll_a321 t a b c n g1 g3 g5 r7 sn9 g4q8 g4q9)) (.bool false) ?_
      refine sk (a' := (tll_a325 t a b c n g1 g3 g5 r7 sn9 g4q8 g4q9)) (.bool false) ?_
      refine wpList_nil ?_
      refine wp_cond (t := false) (by kernel_rfl) ?_
      refine wp_seq ?_
      refine wp_region_list ?_
      refine sk (a' := (tll_a326 t a b c n g1 g3 g5 r7 sn9 g4q8 g4q9)) (.bool false) ?_
      refine sk (a' := (tll_a327 t a b c n g1 g3 g5 r7 sn9 g4q8 g4q9)) (.bool false) ?_
      refine wpList_nil ?_
      refine wp_cond (t := false) (by kernel_rfl) ?_
      refine wp_seq ?_
      refine wp_region_list ?_
      refine sk (a' := (tll_a328 t a b c n g1 g3 g5 r7 sn9 g4q8 g4q9)) (.bool false) ?_
      refine sk (a' := (tll_a329 t a b c n g1 g3 g5 r7 sn9 g4q8 g4q9)) (.bool false) ?_
      refine wpList_nil ?_
      refine wp_cond (t := false) (by kernel_rfl) ?_
      refine wp_seq ?_
      refine wp_region_list ?_
      refine sk (a' := (tll_a330 t a b c n g1 g3 g5 r7 sn9 g4q8 g4q9)) (.bool false) ?_
      refine sk (a' := (tll_a331 t a b c n g1 g3 g5 r7 sn9 g4q8 g4q9)) (.bool false) ?_
      refine wpList_nil ?_
      refine wp_cond (t := false) (by kernel_rfl) ?_
      refine wp_seq ?_
      refine wp_region_list ?_
      refine sk (a' := (tll_a332 t a b c n g1 g3 g5 r7 sn9 g4q8 g4q9)) (.bool false) ?_
      refine sk (a' := (tll_a333 t a b c n g1 g3 g5 r7 sn9 g4q8 g4q9)) (.bool false) ?_
      refine wpList_nil ?_
      refine wp_cond (t := false) (by kernel_rfl) ?_
      refine wp_seq ?_
      refine wp_region_list ?_
      refine sk (a' := (tll_a334 t a b c n g1 g3 g5 r7 sn9 g4q8 g4q9)) (.bool false) ?_
      refine sk (a' := (tll_a335 t a b c n g1 g3 g5 r7 sn9 g4q8 g4q9)) (.bool false) ?_
      refine wpList_nil ?_
      refine wp_cond (t := false) (by kernel_rfl) ?_
      refine wp_seq ?_
      have hW := hW.drew
      have hK7 := hK7.below (below_drew (Below.refl _ _))
      refine wp_mid (M := fun a' W' => ∃ g6q11 : Nat, a' = (tll_a360 t a b c n g1 g3 g5 r7 sn9 g4q8 g4q9 g6q11) ∧ Ws w W' [(g6q11, 25, #[.int .i64 ((arithF 5 (getR t.R b 0) (getR t.R c 0)).1), .int .i64 0, .int .i64 0]), (g4q9, 25, #[.int .i64 (getR t.R b 0), .int .i64 (getR t.R b 1), .int .i64 (getR t.R b 2)]), (g4q8, 25, #[.int .i64 (getR t.R a 0), .int .i64 (getR t.R a 1), .int .i64 (getR t.R a 2)]), (g5, 32, tll_c1), (g3, 45, #[.int .i64 5, .int .i64 a, .int .i64 b, .int .i64 c, .int .i64 n]), (g1, 32, (tll_c2 t r7))] ∧ KeepUp W6.heap.size W7 W' ∧ W7.heap.size ≤ g6q11) ?_ ?_
      · skip
        refine wp_region_held_drew (S := fun W => Ws w W [(g4q9, 25, #[.int .i64 (getR t.R b 0), .int .i64 (getR t.R b 1), .int .i64 (getR t.R b 2)]), (g4q8, 25, #[.int .i64 (getR t.R a 0), .int .i64 (getR t.R a 1), .int .i64 (getR t.R a 2)]), (g5, 32, tll_c1), (g3, 45, #[.int .i64 5, .int .i64 a, .int .i64 b, .int .i64 c, .int .i64 n]), (g1, 32, (tll_c2 t r7))]) (by kernel_rfl) hW (fun _ => ?_)
        refine dk (a' := (tll_a336 t a b c n g1 g3 g5 r7 sn9 g4q8 g4q9)) 0 (.pointer (some ⟨g3, 0, none⟩)) hW ?_
        refine de (a' := (tll_a338 t a b c n g1 g3 g5 r7 sn9 g4q8 g4q9)) 1 (.int .i64 5) rfl (fun W hH => (ev1 hH 3 0 Try.underlying3)) hW ?_
        refine de (a' := (tll_a340 t a b c n g1 g3 g5 r7 sn9 g4q8 g4q9)) 2 (.agg #[.int .i64 (getR t.R b 0), .int .i64 (getR t.R b 1), .int .i64 (getR t.R b 2)]) rfl (fun W hH => (evA hH 0 0 Try.underlying25)) hW ?_
        refine de (a' := (tll_a342 t a b c n g1 g3 g5 r7 sn9 g4q8 g4q9)) 3 (.agg (tll_c2 t r7)) rfl (fun W hH => (evA hH 4 0 Try.underlying32)) hW ?_
        refine dk (a' := (tll_a344 t a b c n g1 g3 g5 r7 sn9 g4q8 g4q9)) 4 (.pointer (some ⟨g3, 3, none⟩)) hW ?_
        refine de (a' := (tll_a346 t a b c n g1 g3 g5 r7 sn9 g4q8 g4q9)) 5 (.int .i64 c) rfl (fun W hH => (ev1 hH 3 3 Try.underlying3)) hW ?_
        refine wpAnyH_all (rs := [6, 11]) (by kernel_rfl) (by simp) ?_
        refine all_cons ?_ ?_
        · skip
          refine op_call rfl (th_Get (⟨t.pc, t.fu, t.st, t.R, t.kd, t.mi, t.mn, r7.s, r7.b, r7.n, t.old⟩ : Th) c Wm4.drew) (by kernel_rfl) (by kernel_rfl) ?_
          rintro _ W6q6 ⟨rfl, hB⟩
          have hW := hW.step hB
          have hK7 := hK7.below hB
          refine ⟨_, (tll_a348 t a b c n g1 g3 g5 r7 sn9 g4q8 g4q9), rfl, by (try subst e7); kernel_rfl, ?_⟩
          refine ⟨hW, ?_⟩
          refine wpAnyH_all (rs := [7, 11]) (by kernel_rfl) (by simp) ?_
          refine all_cons ?_ ?_
          · skip
            refine op_call rfl (arith_is 5 (getR t.R b 0) (getR t.R b 1) (getR t.R b 2) (getR t.R c 0) (getR t.R c 1) (getR t.R c 2) (by omega) true rfl W6q6) (by kernel_rfl) (by kernel_rfl) ?_
            rintro _ W6q7 ⟨rfl, hB⟩
            have hW := hW.step hB
            have hK7 := hK7.below hB
            refine ⟨_, (tll_a350 t a b c n g1 g3 g5 r7 sn9 g4q8 g4q9), rfl, by (try subst e7); kernel_rfl, ?_⟩
            refine ⟨hW, ?_⟩
            refine dk (a' := (tll_a352 t a b c n g1 g3 g5 r7 sn9 g4q8 g4q9)) 8 (.tuple #[.agg #[.int .i64 ((arithF 5 (getR t.R b 0) (getR t.R c 0)).1), .int .i64 0, .int .i64 0], .bool true]) hW ?_
            refine de (a' := (tll_a354 t a b c n g1 g3 g5 r7 sn9 g4q8 g4q9)) 9 (.agg #[.int .i64 ((arithF 5 (getR t.R b 0) (getR t.R c 0)).1), .int .i64 0, .int .i64 0]) rfl (fun W hH => by kernel_rfl) hW ?_
            refine de (a' := (tll_a356 t a b c n g1 g3 g5 r7 sn9 g4q8 g4q9)) 10 (.bool true) rfl (fun W hH => by kernel_rfl) hW ?_
            refine wpAnyH_all (rs := [11]) (by kernel_rfl) (by simp) ?_
            refine all_cons ?_ all_nil
            obtain ⟨g6q11, W6q11, hr, hW, hbb, hge⟩ := hW.mk1 (P := Try.prog) (s := Instr.alloc 25 true (.tuple #[])) #[.int .i64 0, .int .i64 0, .int .i64 0] 25 (by kernel_rfl)
            have hK7_g6q11 := Nat.le_trans hK7.size hge
            have hK7 := hK7.below hbb
            refine op_val (w' := W6q11) (a' := (tll_a358 t a b c n g1 g3 g5 r7 sn9 g4q8 g4q9 g6q11)) (.pointer (some ⟨g6q11, 0, none⟩)) rfl (by kernel_rfl) (Eq.trans (b := (do pure (Next.value (← Instr.alloc 25 true (.tuple #[]))) : Sem Next).run Try.prog W6q7) (by kernel_rfl) (st_val hr)) (by kernel_rfl) ?_
            refine ⟨hW.tail, ?_⟩
            refine wpAnyH_all (rs := [12]) (by kernel_rfl) (by simp) ?_
            refine all_cons ?_ all_nil
            obtain ⟨W6q12, hr, hW, hF⟩ := hW.storeN (P := Try.prog) (o := 0) (cs' := #[.int .i64 ((arithF 5 (getR t.R b 0) (getR t.R c 0)).1), .int .i64 0, .int .i64 0]) (L' := [(g6q11, 25, #[.int .i64 ((arithF 5 (getR t.R b 0) (getR t.R c 0)).1), .int .i64 0, .int .i64 0]), (g4q9, 25, #[.int .i64 (getR t.R b 0), .int .i64 (getR t.R b 1), .int .i64 (getR t.R b 2)]), (g4q8, 25, #[.int .i64 (getR t.R a 0), .int .i64 (getR t.R a 1), .int .i64 (getR t.R a 2)]), (g5, 32, tll_c1), (g3, 45, #[.int .i64 5, .int .i64 a, .int .i64 b, .int .i64 c, .int .i64 n]), (g1, 32, (tll_c2 t r7))]) 0 rfl #[.int .i64 ((arithF 5 (getR t.R b 0) (getR t.R c 0)).1), .int .i64 0, .int .i64 0] (by (try subst e7); kernel_rfl) (Nat.le_of_ble_eq_true rfl) (by kernel_rfl) rfl 25 (by kernel_rfl)
            have hK7 := hK7.store hF (.inr hK7_g6q11)
            refine op_none (w' := W6q12) (a' := (tll_a358 t a b c n g1 g3 g5 r7 sn9 g4q8 g4q9 g6q11)) rfl (by kernel_rfl) (Eq.trans (b := (do Instr.storeAt 25 (.pointer (some ⟨g6q11, 0, none⟩)) (.agg #[.int .i64 ((arithF 5 (getR t.R b 0) (getR t.R c 0)).1), .int .i64 0, .int .i64 0]); pure Next.skip : Sem Next).run Try.prog W6q11) (by kernel_rfl) (st_unit hr)) (by kernel_rfl) ?_
            refine ⟨hW.tail, ?_⟩
            refine dk (a' := (tll_a360 t a b c n g1 g3 g5 r7 sn9 g4q8 g4q9 g6q11)) 13 (.bool true) hW.tail ?_
            refine wpAnyH_done (by kernel_rfl) ?_ _
            simp only [Exit.then]
            exact ⟨g6q11, rfl, hW, hK7, hK7_g6q11⟩
          refine all_cons ?_ all_nil
          obtain ⟨g6q11, W6q11, hr, hW, hbb, hge⟩ := hW.mk1 (P := Try.prog) (s := Instr.alloc 25 true (.tuple #[])) #[.int .i64 0, .int .i64 0, .int .i64 0] 25 (by kernel_rfl)
          have hK7_g6q11 := Nat.le_trans hK7.size hge
          have hK7 := hK7.below hbb
          refine op_val (w' := W6q11) (a' := (tll_a362 t a b c n g1 g3 g5 r7 sn9 g4q8 g4q9 g6q11)) (.pointer (some ⟨g6q11, 0, none⟩)) rfl (by kernel_rfl) (Eq.trans (b := (do pure (Next.value (← Instr.alloc 25 true (.tuple #[]))) : Sem Next).run Try.prog W6q6) (by kernel_rfl) (st_val hr)) (by kernel_rfl) ?_
          refine ⟨hW.tail, ?_⟩
          refine wpAnyH_all (rs := [7]) (by kernel_rfl) (by simp) ?_
          refine all_cons ?_ all_nil
          refine op_call rfl (arith_is 5 (getR t.R b 0) (getR t.R b 1) (getR t.R b 2) (getR t.R c 0) (getR t.R c 1) (getR t.R c 2) (by omega) true rfl W6q11) (by kernel_rfl) (by kernel_rfl) ?_
          rintro _ W6q7 ⟨rfl, hB⟩
          have hW := hW.step hB
          have hK7 := hK7.below hB
          refine ⟨_, (tll_a363 t a b c n g1 g3 g5 r7 sn9 g4q8 g4q9 g6q11), rfl, by (try subst e7); kernel_rfl, ?_⟩
          refine ⟨hW.tail, ?_⟩
          refine dk (a' := (tll_a364 t a b c n g1 g3 g5 r7 sn9 g4q8 g4q9 g6q11)) 8 (.tuple #[.agg #[.int .i64 ((arithF 5 (getR t.R b 0) (getR t.R c 0)).1), .int .i64 0, .int .i64 0], .bool true]) hW.tail ?_
          refine de (a' := (tll_a365 t a b c n g1 g3 g5 r7 sn9 g4q8 g4q9 g6q11)) 9 (.agg #[.int .i64 ((arithF 5 (getR t.R b 0) (getR t.R c 0)).1), .int .i64 0, .int .i64 0]) rfl (fun W hH => by kernel_rfl) hW.tail ?_
          refine de (a' := (tll_a358 t a b c n g1 g3 g5 r7 sn9 g4q8 g4q9 g6q11)) 10 (.bool true) rfl (fun W hH => by kernel_rfl) hW.tail ?_
          refine wpAnyH_all (rs := [12]) (by kernel_rfl) (by simp) ?_
          refine all_cons ?_ all_nil
          obtain ⟨W6q12, hr, hW, hF⟩ := hW.storeN (P := Try.prog) (o := 0) (cs' := #[.int .i64 ((arithF 5 (getR t.R b 0) (getR t.R c 0)).1), .int .i64 0, .int .i64 0]) (L' := [(g6q11, 25, #[.int .i64 ((arithF 5 (getR t.R b 0) (getR t.R c 0)).1), .int .i64 0, .int .i64 0]), (g4q9, 25, #[.int .i64 (getR t.R b 0), .int .i64 (getR t.R b 1), .int .i64 (getR t.R b 2)]), (g4q8, 25, #[.int .i64 (getR t.R a 0), .int .i64 (getR t.R a 1), .int .i64 (getR t.R a 2)]), (g5, 32, tll_c1), (g3, 45, #[.int .i64 5, .int .i64 a, .int .i64 b, .int .i64 c, .int .i64 n]), (g1, 32, (tll_c2 t r7))]) 0 rfl #[.int .i64 ((arithF 5 (getR t.R b 0) (getR t.R c 0)).1), .int .i64 0, .int .i64 0] (by (try subst e7); kernel_rfl) (Nat.le_of_ble_eq_true rfl) (by kernel_rfl) rfl 25 (by kernel_rfl)
          have hK7 := hK7.store hF (.inr hK7_g6q11)
          refine op_none (w' := W6q12) (a' := (tll_a358 t a b c n g1 g3 g5 r7 sn9 g4q8 g4q9 g6q11)) rfl (by kernel_rfl) (Eq.trans (b := (do Instr.storeAt 25 (.pointer (some ⟨g6q11, 0, none⟩)) (.agg #[.int .i64 ((arithF 5 (getR t.R b 0) (getR t.R c 0)).1), .int .i64 0, .int .i64 0]); pure Next.skip : Sem Next).run Try.prog W6q7) (by kernel_rfl) (st_unit hr)) (by kernel_rfl) ?_
          refine ⟨hW.tail, ?_⟩
          refine dk (a' := (tll_a360 t a b c n g1 g3 g5 r7 sn9 g4q8 g4q9 g6q11)) 13 (.bool true) hW.tail ?_
          refine wpAnyH_done (by kernel_rfl) ?_ _
          simp only [Exit.then]
          exact ⟨g6q11, rfl, hW, hK7, hK7_g6q11⟩
        refine all_cons ?_ all_nil
        obtain ⟨g6q11, W6q11, hr, hW, hbb, hge⟩ := hW.mk1 (P := Try.prog) (s := Instr.alloc 25 true (.tuple #[])) #[.int .i64 0, .int .i64 0, .int .i64 0] 25 (by kernel_rfl)
        have hK7_g6q11 := Nat.le_trans hK7.size hge
        have hK7 := hK7.below hbb
        refine op_val (w' := W6q11) (a' := (tll_a366 t a b c n g1 g3 g5 r7 sn9 g4q8 g4q9 g6q11)) (.pointer (some ⟨g6q11, 0, none⟩)) rfl (by kernel_rfl) (Eq.trans (b := (do pure (Next.value (← Instr.alloc 25 true (.tuple #[]))) : Sem Next).run Try.prog Wm4.drew) (by kernel_rfl) (st_val hr)) (by kernel_rfl) ?_
        refine ⟨hW.tail, ?_⟩
        refine wpAnyH_all (rs := [6]) (by kernel_rfl) (by simp) ?_
        refine all_cons ?_ all_nil
        refine op_call rfl (th_Get (⟨t.pc, t.fu, t.st, t.R, t.kd, t.mi, t.mn, r7.s, r7.b, r7.n, t.old⟩ : Th) c W6q11) (by kernel_rfl) (by kernel_rfl) ?_
        rintro _ W6q6 ⟨rfl, hB⟩
        have hW := hW.step hB
        have hK7 := hK7.below hB
        refine ⟨_, (tll_a362 t a b c n g1 g3 g5 r7 sn9 g4q8 g4q9 g6q11), rfl, by (try subst e7); kernel_rfl, ?_⟩
        refine ⟨hW.tail, ?_⟩
        refine wpAnyH_all (rs := [7]) (by kernel_rfl) (by simp) ?_
        refine all_cons ?_ all_nil
        refine op_call rfl (arith_is 5 (getR t.R b 0) (getR t.R b 1) (getR t.R b 2) (getR t.R c 0) (getR t.R c 1) (getR t.R c 2) (by omega) true rfl W6q6) (by kernel_rfl) (by kernel_rfl) ?_
        rintro _ W6q7 ⟨rfl, hB⟩
        have hW := hW.step hB
        have hK7 := hK7.below hB
        refine ⟨_, (tll_a363 t a b c n g1 g3 g5 r7 sn9 g4q8 g4q9 g6q11), rfl, by (try subst e7); kernel_rfl, ?_⟩
        refine ⟨hW.tail, ?_⟩
        refine dk (a' := (tll_a364 t a b c n g1 g3 g5 r7 sn9 g4q8 g4q9 g6q11)) 8 (.tuple #[.agg #[.int .i64 ((arithF 5 (getR t.R b 0) (getR t.R c 0)).1), .int .i64 0, .int .i64 0], .bool true]) hW.tail ?_
        refine de (a' := (tll_a365 t a b c n g1 g3 g5 r7 sn9 g4q8 g4q9 g6q11)) 9 (.agg #[.int .i64 ((arithF 5 (getR t.R b 0) (getR t.R c 0)).1), .int .i64 0, .int .i64 0]) rfl (fun W hH => by kernel_rfl) hW.tail ?_
        refine de (a' := (tll_a358 t a b c n g1 g3 g5 r7 sn9 g4q8 g4q9 g6q11)) 10 (.bool true) rfl (fun W hH => by kernel_rfl) hW.tail ?_
        refine wpAnyH_all (rs := [12]) (by kernel_rfl) (by simp) ?_
        refine all_cons ?_ all_nil
        obtain ⟨W6q12, hr, hW, hF⟩ := hW.storeN (P := Try.prog) (o := 0) (cs' := #[.int .i64 ((arithF 5 (getR t.R b 0) (getR t.R c 0)).1), .int .i64 0, .int .i64 0]) (L' := [(g6q11, 25, #[.int .i64 ((arithF 5 (getR t.R b 0) (getR t.R c 0)).1), .int .i64 0, .int .i64 0]), (g4q9, 25, #[.int .i64 (getR t.R b 0), .int .i64 (getR t.R b 1), .int .i64 (getR t.R b 2)]), (g4q8, 25, #[.int .i64 (getR t.R a 0), .int .i64 (getR t.R a 1), .int .i64 (getR t.R a 2)]), (g5, 32, tll_c1), (g3, 45, #[.int .i64 5, .int .i64 a, .int .i64 b, .int .i64 c, .int .i64 n]), (g1, 32, (tll_c2 t r7))]) 0 rfl #[.int .i64 ((arithF 5 (getR t.R b 0) (getR t.R c 0)).1), .int .i64 0, .int .i64 0] (by (try subst e7); kernel_rfl) (Nat.le_of_ble_eq_true rfl) (by kernel_rfl) rfl 25 (by kernel_rfl)
        have hK7 := hK7.store hF (.inr hK7_g6q11)
        refine op_none (w' := W6q12) (a' := (tll_a358 t a b c n g1 g3 g5 r7 sn9 g4q8 g4q9 g6q11)) rfl (by kernel_rfl) (Eq.trans (b := (do Instr.storeAt 25 (.pointer (some ⟨g6q11, 0, none⟩)) (.agg #[.int .i64 ((arithF 5 (getR t.R b 0) (getR t.R c 0)).1), .int .i64 0, .int .i64 0]); pure Next.skip : Sem Next).run Try.prog W6q7) (by kernel_rfl) (st_unit hr)) (by kernel_rfl) ?_
        refine ⟨hW.tail, ?_⟩
        refine dk (a' := (tll_a360 t a b c n g1 g3 g5 r7 sn9 g4q8 g4q9 g6q11)) 13 (.bool true) hW.tail ?_
        refine wpAnyH_done (by kernel_rfl) ?_ _
        simp only [Exit.then]
        exact ⟨g6q11, rfl, hW, hK7, hK7_g6q11⟩
      rintro _ Wm6 ⟨g6q11, rfl, hW, hK7, hK7_g6q11⟩
      refine wp_seq ?_
      refine wp_seq ?_
      refine wp_region_list ?_
      refine sk (a' := (tll_a367 t a b c n g1 g3 g5 r7 sn9 g4q8 g4q9 g6q11)) (.bool true) ?_
      refine sk (a' := (tll_a368 t a b c n g1 g3 g5 r7 sn9 g4q8 g4q9 g6q11)) (.bool false) ?_
      refine wpList_nil ?_
      refine wp_cond (t := false) (by kernel_rfl) ?_
      refine wp_skip ?_
      refine wp_region_list ?_
      refine se (a' := (tll_a369 t a b c n g1 g3 g5 r7 sn9 g4q8 g4q9 g6q11)) (.agg (tll_c2 t r7)) (evA hW 5 0 Try.underlying32) ?_
      refine sk (a' := (tll_a370 t a b c n g1 g3 g5 r7 sn9 g4q8 g4q9 g6q11)) (.pointer (some ⟨g3, 1, none⟩)) ?_
      refine se (a' := (tll_a371 t a b c n g1 g3 g5 r7 sn9 g4q8 g4q9 g6q11)) (.int .i64 a) (ev1 hW 4 1 Try.underlying3) ?_
      refine se (a' := (tll_a372 t a b c n g1 g3 g5 r7 sn9 g4q8 g4q9 g6q11)) (.agg #[.int .i64 ((arithF 5 (getR t.R b 0) (getR t.R c 0)).1), .int .i64 0, .int .i64 0]) (evA hW 0 0 Try.underlying25) ?_
      have hK11_g6q11 : g6q11 < Wm6.heap.size := blk_lt (hW.blk 0 _ _ _ rfl).1
      have hK11_g4q9 : g4q9 < Wm6.heap.size := blk_lt (hW.blk 1 _ _ _ rfl).1
      have hK11_g4q8 : g4q8 < Wm6.heap.size := blk_lt (hW.blk 2 _ _ _ rfl).1
      have hK11_g5 : g5 < Wm6.heap.size := blk_lt (hW.blk 3 _ _ _ rfl).1
      have hK11_g3 : g3 < Wm6.heap.size := blk_lt (hW.blk 4 _ _ _ rfl).1
      have hK11_g1 : g1 < Wm6.heap.size := blk_lt (hW.blk 5 _ _ _ rfl).1
      have hK11_le : w.heap.size ≤ Wm6.heap.size := hW.below.size
      refine st_call (th_Set (t := (⟨t.pc, t.fu, t.st, t.R, t.kd, t.mi, t.mn, r7.s, r7.b, r7.n, t.old⟩ : Th)) (xs := xs) (bs := bs) (ns := ns) (by subst e7; exact ⟨(hO7.keep hK7).reads.s, (hO7.keep hK7).reads.b, (hO7.keep hK7).reads.n⟩) hl a ((arithF 5 (getR t.R b 0) (getR t.R c 0)).1) 0 0) (by kernel_rfl) (by kernel_rfl) ?_
      rintro _ W11 ⟨As11, cs11, Ab11, cb11, An11, cn11, rfl, hO11, hB⟩
      have hW := hW.step hB
      have hK7 := hK7.below hB
      have hK11 := KeepUp.refl Wm6.heap.size W11
      obtain ⟨r11, e11⟩ : ∃ r : Rw, r = ⟨.slice As11 xs.length cs11, .slice Ab11 bs.length cb11, .slice An11 ns.length cn11⟩ := ⟨_, rfl⟩
      refine ⟨_, (tll_a375 t a b c n g1 g3 g5 r7 sn9 g4q8 g4q9 g6q11 r11), rfl, by (try subst e7); (try subst e11); kernel_rfl, ?_⟩
      obtain ⟨W12, hr, hW, hF⟩ := hW.storeN (P := Try.prog) (o := 0) (cs' := (tll_c8 t a b c r11)) (L' := [(g6q11, 25, #[.int .i64 ((arithF 5 (getR t.R b 0) (getR t.R c 0)).1), .int .i64 0, .int .i64 0]), (g4q9, 25, #[.int .i64 (getR t.R b 0), .int .i64 (getR t.R b 1), .int .i64 (getR t.R b 2)]), (g4q8, 25, #[.int .i64 (getR t.R a 0), .int .i64 (getR t.R a 1), .int .i64 (getR t.R a 2)]), (g5, 32, tll_c1), (g3, 45, #[.int .i64 5, .int .i64 a, .int .i64 b, .int .i64 c, .int .i64 n]), (g1, 32, (tll_c8 t a b c r11))]) 5 rfl (tll_c8 t a b c r11) (by (try subst e7); (try subst e11); kernel_rfl) (Nat.le_of_ble_eq_true rfl) (by kernel_rfl) rfl 32 (by kernel_rfl)
      have hK7 := hK7.store hF (.inl hK7_g1)
      have hK11 := hK11.store hF (.inl hK11_g1)
      refine st_none (w' := W12) (a' := (tll_a375 t a b c n g1 g3 g5 r7 sn9 g4q8 g4q9 g6q11 r11)) (by kernel_rfl) (Eq.trans (b := (do Instr.storeAt 32 (.pointer (some ⟨g1, 0, none⟩)) (.agg (tll_c8 t a b c r11)); pure Next.skip : Sem Next).run Try.prog W11) (by kernel_rfl) (st_unit hr)) (by kernel_rfl) ?_
      refine wpList_nil ?_
      refine wp_seq ?_
      refine wp_region_list ?_
      refine se (a' := (tll_a377 t a b c n g1 g3 g5 r7 sn9 g4q8 g4q9 g6q11 r11)) (.agg (tll_c8 t a b c r11)) (evA hW 5 0 Try.underlying32) ?_
      obtain ⟨W13, hr, hW, hF⟩ := hW.storeN (P := Try.prog) (o := 0) (cs' := (tll_c8 t a b c r11)) (L' := [(g6q11, 25, #[.int .i64 ((arithF 5 (getR t.R b 0) (getR t.R c 0)).1), .int .i64 0, .int .i64 0]), (g4q9, 25, #[.int .i64 (getR t.R b 0), .int .i64 (getR t.R b 1), .int .i64 (getR t.R b 2)]), (g4q8, 25, #[.int .i64 (getR t.R a 0), .int .i64 (getR t.R a 1), .int .i64 (getR t.R a 2)]), (g5, 32, (tll_c8 t a b c r11)), (g3, 45, #[.int .i64 5, .int .i64 a, .int .i64 b, .int .i64 c, .int .i64 n]), (g1, 32, (tll_c8 t a b c r11))]) 3 rfl (tll_c8 t a b c r11) (by (try subst e7); (try subst e11); kernel_rfl) (Nat.le_of_ble_eq_true rfl) (by kernel_rfl) rfl 32 (by kernel_rfl)
      have hK7 := hK7.store hF (.inl hK7_g5)
      have hK11 := hK11.store hF (.inl hK11_g5)
      refine st_none (w' := W13) (a' := (tll_a377 t a b c n g1 g3 g5 r7 sn9 g4q8 g4q9 g6q11 r11)) (by kernel_rfl) (Eq.trans (b := (do Instr.storeAt 32 (.pointer (some ⟨g5, 0, none⟩)) (.agg (tll_c8 t a b c r11)); pure Next.skip : Sem Next).run Try.prog W12) (by kernel_rfl) (st_unit hr)) (by kernel_rfl) ?_
      refine sk (a' := (tll_a379 t a b c n g1 g3 g5 r7 sn9 g4q8 g4q9 g6q11 r11)) (.bool true) ?_
      refine wpList_nil ?_
      refine wp_ret ?_
      (try simp only [Exit.then, Exit.inBlock])
      change bodyPost Try.prog Try.f21 _ .ret _ _
      refine bodyPost_ret (results_ct rfl _ _ g5 32 _ (0, 0) _ (by kernel_rfl) (hW.blk 3 _ _ _ rfl).1 Try.underlying32 rfl (by kernel_rfl)) rfl ?_
      have hloc : localT t 5 a b c n = ({ t with R := setR t.R a (arithF 5 (getR t.R b 0) (getR t.R c 0)).1 0 0 }, true) := (by kernel_rfl)
      subst e11
      rw [hloc]
      exact ⟨As11, cs11, Ab11, cb11, An11, cn11, rfl, ⟨Kd.R_lower (hK11.R hO11.s) hK11_le, Kd.R_lower (hK11.R hO11.b) hK11_le, Kd.R_lower (hK11.R hO11.n) hK11_le⟩, hW.below⟩
    · skip
      refine wp_region_list ?_
      refine sk (a' := (tll_a381 t a b c n g1 g3 g5 r7 sn9 g4q8 g4q9)) (.bool false) ?_
      refine sk (a' := (tll_a385 t a b c n g1 g3 g5 r7 sn9 g4q8 g4q9)) (.bool false) ?_
      refine wpList_nil ?_
      refine wp_cond (t := false) (by kernel_rfl) ?_
      refine wp_seq ?_
      refine wp_region_list ?_
      refine sk (a' := (tll_a386 t a b c n g1 g3 g5 r7 sn9 g4q8 g4q9)) (.bool false) ?_
      refine sk (a' := (tll_a387 t a b c n g1 g3 g5 r7 sn9 g4q8 g4q9)) (.bool false) ?_
      refine wpList_nil ?_
      refine wp_cond (t := false) (by kernel_rfl) ?_
      refine wp_seq ?_
      refine wp_region_list ?_
      refine sk (a' := (tll_a388 t a b c n g1 g3 g5 r7 sn9 g4q8 g4q9)) (.bool false) ?_
      refine sk (a' := (tll_a389 t a b c n g1 g3 g5 r7 sn9 g4q8 g4q9)) (.bool false) ?_
      refine wpList_nil ?_
      refine wp_cond (t := false) (by kernel_rfl) ?_
      refine wp_seq ?_
      refine wp_region_list ?_
      refine sk (a' := (tll_a390 t a b c n g1 g3 g5 r7 sn9 g4q8 g4q9)) (.bool false) ?_
      refine sk (a' := (tll_a391 t a b c n g1 g3 g5 r7 sn9 g4q8 g4q9)) (.bool false) ?_
      refine wpList_nil ?_
      refine wp_cond (t := false) (by kernel_rfl) ?_
      refine wp_seq ?_
      refine wp_region_list ?_
      refine sk (a' := (tll_a392 t a b c n g1 g3 g5 r7 sn9 g4q8 g4q9)) (.bool false) ?_
      refine sk (a' := (tll_a393 t a b c n g1 g3 g5 r7 sn9 g4q8 g4q9)) (.bool false) ?_
      refine wpList_nil ?_
      refine wp_cond (t := false) (by kernel_rfl) ?_
      refine wp_seq ?_
      refine wp_region_list ?_
      refine sk (a' := (tll_a394 t a b c n g1 g3 g5 r7 sn9 g4q8 g4q9)) (.bool false) ?_
      refine sk (a' := (tll_a395 t a b c n g1 g3 g5 r7 sn9 g4q8 g4q9)) (.bool false) ?_
      refine wpList_nil ?_
      refine wp_cond (t := false) (by kernel_rfl) ?_
      refine wp_seq ?_
      have hW := hW.drew
      have hK7 := hK7.below (below_drew (Below.refl _ _))
      refine wp_mid (M := fun a' W' => ∃ g6q11 : Nat, a' = (tll_a420 t a b c n g1 g3 g5 r7 sn9 g4q8 g4q9 g6q11) ∧ Ws w W' [(g6q11, 25, #[.int .i64 ((arithF 6 (getR t.R b 0) (getR t.R c 0)).1), .int .i64 0, .int .i64 0]), (g4q9, 25, #[.int .i64 (getR t.R b 0), .int .i64 (getR t.R b 1), .int .i64 (getR t.R b 2)]), (g4q8, 25, #[.int .i64 (getR t.R a 0), .int .i64 (getR t.R a 1), .int .i64 (getR t.R a 2)]), (g5, 32, tll_c1), (g3, 45, #[.int .i64 6, .int .i64 a, .int .i64 b, .int .i64 c, .int .i64 n]), (g1, 32, (tll_c2 t r7))] ∧ KeepUp W6.heap.size W7 W' ∧ W7.heap.size ≤ g6q11) ?_ ?_
      · skip
        refine wp_region_held_drew (S := fun W => Ws w W [(g4q9, 25, #[.int .i64 (getR t.R b 0), .int .i64 (getR t.R b 1), .int .i64 (getR t.R b 2)]), (g4q8, 25, #[.int .i64 (getR t.R a 0), .int .i64 (getR t.R a 1), .int .i64 (getR t.R a 2)]), (g5, 32, tll_c1), (g3, 45, #[.int .i64 6, .int .i64 a, .int .i64 b, .int .i64 c, .int .i64 n]), (g1, 32, (tll_c2 t r7))]) (by kernel_rfl) hW (fun _ => ?_)
        refine dk (a' := (tll_a396 t a b c n g1 g3 g5 r7 sn9 g4q8 g4q9)) 0 (.pointer (some ⟨g3, 0, none⟩)) hW ?_
        refine de (a' := (tll_a398 t a b c n g1 g3 g5 r7 sn9 g4q8 g4q9)) 1 (.int .i64 6) rfl (fun W hH => (ev1 hH 3 0 Try.underlying3)) hW ?_
        refine de (a' := (tll_a400 t a b c n g1 g3 g5 r7 sn9 g4q8 g4q9)) 2 (.agg #[.int .i64 (getR t.R b 0), .int .i64 (getR t.R b 1), .int .i64 (getR t.R b 2)]) rfl (fun W hH => (evA hH 0 0 Try.underlying25)) hW ?_
        refine de (a' := (tll_a402 t a b c n g1 g3 g5 r7 sn9 g4q8 g4q9)) 3 (.agg (tll_c2 t r7)) rfl (fun W hH => (evA hH 4 0 Try.underlying32)) hW ?_
        refine dk (a' := (tll_a404 t a b c n g1 g3 g5 r7 sn9 g4q8 g4q9)) 4 (.pointer (some ⟨g3, 3, none⟩)) hW ?_
        refine de (a' := (tll_a406 t a b c n g1 g3 g5 r7 sn9 g4q8 g4q9)) 5 (.int .i64 c) rfl (fun W hH => (ev1 hH 3 3 Try.underlying3)) hW ?_
        refine wpAnyH_all (rs := [6, 11]) (by kernel_rfl) (by simp) ?_
        refine all_cons ?_ ?_
        · skip
          refine op_call rfl (th_Get (⟨t.pc, t.fu, t.st, t.R, t.kd, t.mi, t.mn, r7.s, r7.b, r7.n, t.old⟩ : Th) c Wm4.drew) (by kernel_rfl) (by kernel_rfl) ?_
          rintro _ W6q6 ⟨rfl, hB⟩
          have hW := hW.step hB
          have hK7 := hK7.below hB
          refine ⟨_, (tll_a408 t a b c n g1 g3 g5 r7 sn9 g4q8 g4q9), rfl, by (try subst e7); kernel_rfl, ?_⟩
          refine ⟨hW, ?_⟩
          refine wpAnyH_all (rs := [7, 11]) (by kernel_rfl) (by simp) ?_
          refine all_cons ?_ ?_
          · skip
            refine op_call rfl (arith_is 6 (getR t.R b 0) (getR t.R b 1) (getR t.R b 2) (getR t.R c 0) (getR t.R c 1) (getR t.R c 2) (by omega) true rfl W6q6) (by kernel_rfl) (by kernel_rfl) ?_
            rintro _ W6q7 ⟨rfl, hB⟩
            have hW := hW.step hB
            have hK7 := hK7.below hB
            refine ⟨_, (tll_a410 t a b c n g1 g3 g5 r7 sn9 g4q8 g4q9), rfl, by (try subst e7); kernel_rfl, ?_⟩
            refine ⟨hW, ?_⟩
            refine dk (a' := (tll_a412 t a b c n g1 g3 g5 r7 sn9 g4q8 g4q9)) 8 (.tuple #[.agg #[.int .i64 ((arithF 6 (getR t.R b 0) (getR t.R c 0)).1), .int .i64 0, .int .i64 0], .bool true]) hW ?_
            refine de (a' := (tll_a414 t a b c n g1 g3 g5 r7 sn9 g4q8 g4q9)) 9 (.agg #[.int .i64 ((arithF 6 (getR t.R b 0) (getR t.R c 0)).1), .int .i64 0, .int .i64 0]) rfl (fun W hH => by kernel_rfl) hW ?_
            refine de (a' := (tll_a416 t a b c n g1 g3 g5 r7 sn9 g4q8 g4q9)) 10 (.bool true) rfl (fun W hH => by kernel_rfl) hW ?_
            refine wpAnyH_all (rs := [11]) (by kernel_rfl) (by simp) ?_
            refine all_cons ?_ all_nil
            obtain ⟨g6q11, W6q11, hr, hW, hbb, hge⟩ := hW.mk1 (P := Try.prog) (s := Instr.alloc 25 true (.tuple #[])) #[.int .i64 0, .int .i64 0, .int .i64 0] 25 (by kernel_rfl)
            have hK7_g6q11 := Nat.le_trans hK7.size hge
            have hK7 := hK7.below hbb
            refine op_val (w' := W6q11) (a' := (tll_a418 t a b c n g1 g3 g5 r7 sn9 g4q8 g4q9 g6q11)) (.pointer (some ⟨g6q11, 0, none⟩)) rfl (by kernel_rfl) (Eq.trans (b := (do pure (Next.value (← Instr.alloc 25 true (.tuple #[]))) : Sem Next).run Try.prog W6q7) (by kernel_rfl) (st_val hr)) (by kernel_rfl) ?_
            refine ⟨hW.tail, ?_⟩
            refine wpAnyH_all (rs := [12]) (by kernel_rfl) (by simp) ?_
            refine all_cons ?_ all_nil
            obtain ⟨W6q12, hr, hW, hF⟩ := hW.storeN (P := Try.prog) (o := 0) (cs' := #[.int .i64 ((arithF 6 (getR t.R b 0) (getR t.R c 0)).1), .int .i64 0, .int .i64 0]) (L' := [(g6q11, 25, #[.int .i64 ((arithF 6 (getR t.R b 0) (getR t.R c 0)).1), .int .i64 0, .int .i64 0]), (g4q9, 25, #[.int .i64 (getR t.R b 0), .int .i64 (getR t.R b 1), .int .i64 (getR t.R b 2)]), (g4q8, 25, #[.int .i64 (getR t.R a 0), .int .i64 (getR t.R a 1), .int .i64 (getR t.R a 2)]), (g5, 32, tll_c1), (g3, 45, #[.int .i64 6, .int .i64 a, .int .i64 b, .int .i64 c, .int .i64 n]), (g1, 32, (tll_c2 t r7))]) 0 rfl #[.int .i64 ((arithF 6 (getR t.R b 0) (getR t.R c 0)).1), .int .i64 0, .int .i64 0] (by (try subst e7); kernel_rfl) (Nat.le_of_ble_eq_true rfl) (by kernel_rfl) rfl 25 (by kernel_rfl)
            have hK7 := hK7.store hF (.inr hK7_g6q11)
            refine op_none (w' := W6q12) (a' := (tll_a418 t a b c n g1 g3 g5 r7 sn9 g4q8 g4q9 g6q11)) rfl (by kernel_rfl) (Eq.trans (b := (do Instr.storeAt 25 (.pointer (some ⟨g6q11, 0, none⟩)) (.agg #[.int .i64 ((arithF 6 (getR t.R b 0) (getR t.R c 0)).1), .int .i64 0, .int .i64 0]); pure Next.skip : Sem Next).run Try.prog W6q11) (by kernel_rfl) (st_unit hr)) (by kernel_rfl) ?_
            refine ⟨hW.tail, ?_⟩
            refine dk (a' := (tll_a420 t a b c n g1 g3 g5 r7 sn9 g4q8 g4q9 g6q11)) 13 (.bool true) hW.tail ?_
            refine wpAnyH_done (by kernel_rfl) ?_ _
            simp only [Exit.then]
            exact ⟨g6q11, rfl, hW, hK7, hK7_g6q11⟩
          refine all_cons ?_ all_nil
          obtain ⟨g6q11, W6q11, hr, hW, hbb, hge⟩ := hW.mk1 (P := Try.prog) (s := Instr.alloc 25 true (.tuple #[])) #[.int .i64 0, .int .i64 0, .int .i64 0] 25 (by kernel_rfl)
          have hK7_g6q11 := Nat.le_trans hK7.size hge
          have hK7 := hK7.below hbb
          refine op_val (w' := W6q11) (a' := (tll_a422 t a b c n g1 g3 g5 r7 sn9 g4q8 g4q9 g6q11)) (.pointer (some ⟨g6q11, 0, none⟩)) rfl (by kernel_rfl) (Eq.trans (b := (do pure (Next.value (← Instr.alloc 25 true (.tuple #[]))) : Sem Next).run Try.prog W6q6) (by kernel_rfl) (st_val hr)) (by kernel_rfl) ?_
          refine ⟨hW.tail, ?_⟩
          refine wpAnyH_all (rs := [7]) (by kernel_rfl) (by simp) ?_
          refine all_cons ?_ all_nil
          refine op_call rfl (arith_is 6 (getR t.R b 0) (getR t.R b 1) (getR t.R b 2) (getR t.R c 0) (getR t.R c 1) (getR t.R c 2) (by omega) true rfl W6q11) (by kernel_rfl) (by kernel_rfl) ?_
          rintro _ W6q7 ⟨rfl, hB⟩
          have hW := hW.step hB
          have hK7 := hK7.below hB
          refine ⟨_, (tll_a423 t a b c n g1 g3 g5 r7 sn9 g4q8 g4q9 g6q11), rfl, by (try subst e7); kernel_rfl, ?_⟩
          refine ⟨hW.tail, ?_⟩
          refine dk (a' := (tll_a424 t a b c n g1 g3 g5 r7 sn9 g4q8 g4q9 g6q11)) 8 (.tuple #[.agg #[.int .i64 ((arithF 6 (getR t.R b 0) (getR t.R c 0)).1), .int .i64 0, .int .i64 0], .bool true]) hW.tail ?_
          refine de (a' := (tll_a425 t a b c n g1 g3 g5 r7 sn9 g4q8 g4q9 g6q11)) 9 (.agg #[.int .i64 ((arithF 6 (getR t.R b 0) (getR t.R c 0)).1), .int .i64 0, .int .i64 0]) rfl (fun W hH => by kernel_rfl) hW.tail ?_
          refine de (a' := (tll_a418 t a b c n g1 g3 g5 r7 sn9 g4q8 g4q9 g6q11)) 10 (.bool true) rfl (fun W hH => by kernel_rfl) hW.tail ?_
          refine wpAnyH_all (rs := [12]) (by kernel_rfl) (by simp) ?_
          refine all_cons ?_ all_nil
          obtain ⟨W6q12, hr, hW, hF⟩ := hW.storeN (P := Try.prog) (o := 0) (cs' := #[.int .i64 ((arithF 6 (getR t.R b 0) (getR t.R c 0)).1), .int .i64 0, .int .i64 0]) (L' := [(g6q11, 25, #[.int .i64 ((arithF 6 (getR t.R b 0) (getR t.R c 0)).1), .int .i64 0, .int .i64 0]), (g4q9, 25, #[.int .i64 (getR t.R b 0), .int .i64 (getR t.R b 1), .int .i64 (getR t.R b 2)]), (g4q8, 25, #[.int .i64 (getR t.R a 0), .int .i64 (getR t.R a 1), .int .i64 (getR t.R a 2)]), (g5, 32, tll_c1), (g3, 45, #[.int .i64 6, .int .i64 a, .int .i64 b, .int .i64 c, .int .i64 n]), (g1, 32, (tll_c2 t r7))]) 0 rfl #[.int .i64 ((arithF 6 (getR t.R b 0) (getR t.R c 0)).1), .int .i64 0, .int .i64 0] (by (try subst e7); kernel_rfl) (Nat.le_of_ble_eq_true rfl) (by kernel_rfl) rfl 25 (by kernel_rfl)
          have hK7 := hK7.store hF (.inr hK7_g6q11)
          refine op_none (w' := W6q12) (a' := (tll_a418 t a b c n g1 g3 g5 r7 sn9 g4q8 g4q9 g6q11)) rfl (by kernel_rfl) (Eq.trans (b := (do Instr.storeAt 25 (.pointer (some ⟨g6q11, 0, none⟩)) (.agg #[.int .i64 ((arithF 6 (getR t.R b 0) (getR t.R c 0)).1), .int .i64 0, .int .i64 0]); pure Next.skip : Sem Next).run Try.prog W6q7) (by kernel_rfl) (st_unit hr)) (by kernel_rfl) ?_
          refine ⟨hW.tail, ?_⟩
          refine dk (a' := (tll_a420 t a b c n g1 g3 g5 r7 sn9 g4q8 g4q9 g6q11)) 13 (.bool true) hW.tail ?_
          refine wpAnyH_done (by kernel_rfl) ?_ _
          simp only [Exit.then]
          exact ⟨g6q11, rfl, hW, hK7, hK7_g6q11⟩
        refine all_cons ?_ all_nil
        obtain ⟨g6q11, W6q11, hr, hW, hbb, hge⟩ := hW.mk1 (P := Try.prog) (s := Instr.alloc 25 true (.tuple #[])) #[.int .i64 0, .int .i64 0, .int .i64 0] 25 (by kernel_rfl)
        have hK7_g6q11 := Nat.le_trans hK7.size hge
        have hK7 := hK7.below hbb
        refine op_val (w' := W6q11) (a' := (tll_a426 t a b c n g1 g3 g5 r7 sn9 g4q8 g4q9 g6q11)) (.pointer (some ⟨g6q11, 0, none⟩)) rfl (by kernel_rfl) (Eq.trans (b := (do pure (Next.value (← Instr.alloc 25 true (.tuple #[]))) : Sem Next).run Try.prog Wm4.drew) (by kernel_rfl) (st_val hr)) (by kernel_rfl) ?_
        refine ⟨hW.tail, ?_⟩
        refine wpAnyH_all (rs := [6]) (by kernel_rfl) (by simp) ?_
        refine all_cons ?_ all_nil
        refine op_call rfl (th_Get (⟨t.pc, t.fu, t.st, t.R, t.kd, t.mi, t.mn, r7.s, r7.b, r7.n, t.old⟩ : Th) c W6q11) (by kernel_rfl) (by kernel_rfl) ?_
        rintro _ W6q6 ⟨rfl, hB⟩
        have hW := hW.step hB
        have hK7 := hK7.below hB
        refine ⟨_, (tll_a422 t a b c n g1 g3 g5 r7 sn9 g4q8 g4q9 g6q11), rfl, by (try subst e7); kernel_rfl, ?_⟩
        refine ⟨hW.tail, ?_⟩
        refine wpAnyH_all (rs := [7]) (by kernel_rfl) (by simp) ?_
        refine all_cons ?_ all_nil
        refine op_call rfl (arith_is 6 (getR t.R b 0) (getR t.R b 1) (getR t.R b 2) (getR t.R c 0) (getR t.R c 1) (getR t.R c 2) (by omega) true rfl W6q6) (by kernel_rfl) (by kernel_rfl) ?_
        rintro _ W6q7 ⟨rfl, hB⟩
        have hW := hW.step hB
        have hK7 := hK7.below hB
        refine ⟨_, (tll_a423 t a b c n g1 g3 g5 r7 sn9 g4q8 g4q9 g6q11), rfl, by (try subst e7); kernel_rfl, ?_⟩
        refine ⟨hW.tail, ?_⟩
        refine dk (a' := (tll_a424 t a b c n g1 g3 g5 r7 sn9 g4q8 g4q9 g6q11)) 8 (.tuple #[.agg #[.int .i64 ((arithF 6 (getR t.R b 0) (getR t.R c 0)).1), .int .i64 0, .int .i64 0], .bool true]) hW.tail ?_
        refine de (a' := (tll_a425 t a b c n g1 g3 g5 r7 sn9 g4q8 g4q9 g6q11)) 9 (.agg #[.int .i64 ((arithF 6 (getR t.R b 0) (getR t.R c 0)).1), .int .i64 0, .int .i64 0]) rfl (fun W hH => by kernel_rfl) hW.tail ?_
        refine de (a' := (tll_a418 t a b c n g1 g3 g5 r7 sn9 g4q8 g4q9 g6q11)) 10 (.bool true) rfl (fun W hH => by kernel_rfl) hW.tail ?_
        refine wpAnyH_all (rs := [12]) (by kernel_rfl) (by simp) ?_
        refine all_cons ?_ all_nil
        obtain ⟨W6q12, hr, hW, hF⟩ := hW.storeN (P := Try.prog) (o := 0) (cs' := #[.int .i64 ((arithF 6 (getR t.R b 0) (getR t.R c 0)).1), .int .i64 0, .int .i64 0]) (L' := [(g6q11, 25, #[.int .i64 ((arithF 6 (getR t.R b 0) (getR t.R c 0)).1), .int .i64 0, .int .i64 0]), (g4q9, 25, #[.int .i64 (getR t.R b 0), .int .i64 (getR t.R b 1), .int .i64 (getR t.R b 2)]), (g4q8, 25, #[.int .i64 (getR t.R a 0), .int .i64 (getR t.R a 1), .int .i64 (getR t.R a 2)]), (g5, 32, tll_c1), (g3, 45, #[.int .i64 6, .int .i64 a, .int .i64 b, .int .i64 c, .int .i64 n]), (g1, 32, (tll_c2 t r7))]) 0 rfl #[.int .i64 ((arithF 6 (getR t.R b 0) (getR t.R c 0)).1), .int .i64 0, .int .i64 0] (by (try subst e7); kernel_rfl) (Nat.le_of_ble_eq_true rfl) (by kernel_rfl) rfl 25 (by kernel_rfl)
        have hK7 := hK7.store hF (.inr hK7_g6q11)
        refine op_none (w' := W6q12) (a' := (tll_a418 t a b c n g1 g3 g5 r7 sn9 g4q8 g4q9 g6q11)) rfl (by kernel_rfl) (Eq.trans (b := (do Instr.storeAt 25 (.pointer (some ⟨g6q11, 0, none⟩)) (.agg #[.int .i64 ((arithF 6 (getR t.R b 0) (getR t.R c 0)).1), .int .i64 0, .int .i64 0]); pure Next.skip : Sem Next).run Try.prog W6q7) (by kernel_rfl) (st_unit hr)) (by kernel_rfl) ?_
        refine ⟨hW.tail, ?_⟩
        refine dk (a' := (tll_a420 t a b c n g1 g3 g5 r7 sn9 g4q8 g4q9 g6q11)) 13 (.bool true) hW.tail ?_
        refine wpAnyH_done (by kernel_rfl) ?_ _
        simp only [Exit.then]
        exact ⟨g6q11, rfl, hW, hK7, hK7_g6q11⟩
      rintro _ Wm6 ⟨g6q11, rfl, hW, hK7, hK7_g6q11⟩
      refine wp_seq ?_
      refine wp_seq ?_
      refine wp_region_list ?_
      refine sk (a' := (tll_a427 t a b c n g1 g3 g5 r7 sn9 g4q8 g4q9 g6q11)) (.bool true) ?_
      refine sk (a' := (tll_a428 t a b c n g1 g3 g5 r7 sn9 g4q8 g4q9 g6q11)) (.bool false) ?_
      refine wpList_nil ?_
      refine wp_cond (t := false) (by kernel_rfl) ?_
      refine wp_skip ?_
      refine wp_region_list ?_
      refine se (a' := (tll_a429 t a b c n g1 g3 g5 r7 sn9 g4q8 g4q9 g6q11)) (.agg (tll_c2 t r7)) (evA hW 5 0 Try.underlying32) ?_
      refine sk (a' := (tll_a430 t a b c n g1 g3 g5 r7 sn9 g4q8 g4q9 g6q11)) (.pointer (some ⟨g3, 1, none⟩)) ?_
      refine se (a' := (tll_a431 t a b c n g1 g3 g5 r7 sn9 g4q8 g4q9 g6q11)) (.int .i64 a) (ev1 hW 4 1 Try.underlying3) ?_
      refine se (a' := (tll_a432 t a b c n g1 g3 g5 r7 sn9 g4q8 g4q9 g6q11)) (.agg #[.int .i64 ((arithF 6 (getR t.R b 0) (getR t.R c 0)).1), .int .i64 0, .int .i64 0]) (evA hW 0 0 Try.underlying25) ?_
      have hK11_g6q11 : g6q11 < Wm6.heap.size := blk_lt (hW.blk 0 _ _ _ rfl).1
      have hK11_g4q9 : g4q9 < Wm6.heap.size := blk_lt (hW.blk 1 _ _ _ rfl).1
      have hK11_g4q8 : g4q8 < Wm6.heap.size := blk_lt (hW.blk 2 _ _ _ rfl).1
      have hK11_g5 : g5 < Wm6.heap.size := blk_lt (hW.blk 3 _ _ _ rfl).1
      have hK11_g3 : g3 < Wm6.heap.size := blk_lt (hW.blk 4 _ _ _ rfl).1
      have hK11_g1 : g1 < Wm6.heap.size := blk_lt (hW.blk 5 _ _ _ rfl).1
      have hK11_le : w.heap.size ≤ Wm6.heap.size := hW.below.size
      refine st_call (th_Set (t := (⟨t.pc, t.fu, t.st, t.R, t.kd, t.mi, t.mn, r7.s, r7.b, r7.n, t.old⟩ : Th)) (xs := xs) (bs := bs) (ns := ns) (by subst e7; exact ⟨(hO7.keep hK7).reads.s, (hO7.keep hK7).reads.b, (hO7.keep hK7).reads.n⟩) hl a ((arithF 6 (getR t.R b 0) (getR t.R c 0)).1) 0 0) (by kernel_rfl) (by kernel_rfl) ?_
      rintro _ W11 ⟨As11, cs11, Ab11, cb11, An11, cn11, rfl, hO11, hB⟩
      have hW := hW.step hB
      have hK7 := hK7.below hB
      have hK11 := KeepUp.refl Wm6.heap.size W11
      obtain ⟨r11, e11⟩ : ∃ r : Rw, r = ⟨.slice As11 xs.length cs11, .slice Ab11 bs.length cb11, .slice An11 ns.length cn11⟩ := ⟨_, rfl⟩
      refine ⟨_, (tll_a435 t a b c n g1 g3 g5 r7 sn9 g4q8 g4q9 g6q11 r11), rfl, by (try subst e7); (try subst e11); kernel_rfl, ?_⟩
      obtain ⟨W12, hr, hW, hF⟩ := hW.storeN (P := Try.prog) (o := 0) (cs' := (tll_c9 t a b c r11)) (L' := [(g6q11, 25, #[.int .i64 ((arithF 6 (getR t.R b 0) (getR t.R c 0)).1), .int .i64 0, .int .i64 0]), (g4q9, 25, #[.int .i64 (getR t.R b 0), .int .i64 (getR t.R b 1), .int .i64 (getR t.R b 2)]), (g4q8, 25, #[.int .i64 (getR t.R a 0), .int .i64 (getR t.R a 1), .int .i64 (getR t.R a 2)]), (g5, 32, tll_c1), (g3, 45, #[.int .i64 6, .int .i64 a, .int .i64 b, .int .i64 c, .int .i64 n]), (g1, 32, (tll_c9 t a b c r11))]) 5 rfl (tll_c9 t a b c r11) (by (try subst e7); (try subst e11); kernel_rfl) (Nat.le_of_ble_eq_true rfl) (by kernel_rfl) rfl 32 (by kernel_rfl)
      have hK7 := hK7.store hF (.inl hK7_g1)
      have hK11 := hK11.store hF (.inl hK11_g1)
      refine st_none (w' := W12) (a' := (tll_a435 t a b c n g1 g3 g5 r7 sn9 g4q8 g4q9 g6q11 r11)) (by kernel_rfl) (Eq.trans (b := (do Instr.storeAt 32 (.pointer (some ⟨g1, 0, none⟩)) (.agg (tll_c9 t a b c r11)); pure Next.skip : Sem Next).run Try.prog W11) (by kernel_rfl) (st_unit hr)) (by kernel_rfl) ?_
      refine wpList_nil ?_
      refine wp_seq ?_
      refine wp_region_list ?_
      refine se (a' := (tll_a437 t a b c n g1 g3 g5 r7 sn9 g4q8 g4q9 g6q11 r11)) (.agg (tll_c9 t a b c r11)) (evA hW 5 0 Try.underlying32) ?_
      obtain ⟨W13, hr, hW, hF⟩ := hW.storeN (P := Try.prog) (o := 0) (cs' := (tll_c9 t a b c r11)) (L' := [(g6q11, 25, #[.int .i64 ((arithF 6 (getR t.R b 0) (getR t.R c 0)).1), .int .i64 0, .int .i64 0]), (g4q9, 25, #[.int .i64 (getR t.R b 0), .int .i64 (getR t.R b 1), .int .i64 (getR t.R b 2)]), (g4q8, 25, #[.int .i64 (getR t.R a 0), .int .i64 (getR t.R a 1), .int .i64 (getR t.R a 2)]), (g5, 32, (tll_c9 t a b c r11)), (g3, 45, #[.int .i64 6, .int .i64 a, .int .i64 b, .int .i64 c, .int .i64 n]), (g1, 32, (tll_c9 t a b c r11))]) 3 rfl (tll_c9 t a b c r11) (by (try subst e7); (try subst e11); kernel_rfl) (Nat.le_of_ble_eq_true rfl) (by kernel_rfl) rfl 32 (by kernel_rfl)
      have hK7 := hK7.store hF (.inl hK7_g5)
      have hK11 := hK11.store hF (.inl hK11_g5)
      refine st_none (w' := W13) (a' := (tll_a437 t a b c n g1 g3 g5 r7 sn9 g4q8 g4q9 g6q11 r11)) (by kernel_rfl) (Eq.trans (b := (do Instr.storeAt 32 (.pointer (some ⟨g5, 0, none⟩)) (.agg (tll_c9 t a b c r11)); pure Next.skip : Sem Next).run Try.prog W12) (by kernel_rfl) (st_unit hr)) (by kernel_rfl) ?_
      refine sk (a' := (tll_a439 t a b c n g1 g3 g5 r7 sn9 g4q8 g4q9 g6q11 r11)) (.bool true) ?_
      refine wpList_nil ?_
      refine wp_ret ?_
      (try simp only [Exit.then, Exit.inBlock])
      change bodyPost Try.prog Try.f21 _ .ret _ _
      refine bodyPost_ret (results_ct rfl _ _ g5 32 _ (0, 0) _ (by kernel_rfl) (hW.blk 3 _ _ _ rfl).1 Try.underlying32 rfl (by kernel_rfl)) rfl ?_
      have hloc : localT t 6 a b c n = ({ t with R := setR t.R a (arithF 6 (getR t.R b 0) (getR t.R c 0)).1 0 0 }, true) := (by kernel_rfl)
      subst e11
      rw [hloc]
      exact ⟨As11, cs11, Ab11, cb11, An11, cn11, rfl, ⟨Kd.R_lower (hK11.R hO11.s) hK11_le, Kd.R_lower (hK11.R hO11.b) hK11_le, Kd.R_lower (hK11.R hO11.n) hK11_le⟩, hW.below⟩
    · skip
      refine wp_region_list ?_
      refine sk (a' := (tll_a441 t a b c n g1 g3 g5 r7 sn9 g4q8 g4q9)) (.bool false) ?_
      refine sk (a' := (tll_a445 t a b c n g1 g3 g5 r7 sn9 g4q8 g4q9)) (.bool false) ?_
      refine wpList_nil ?_
      refine wp_cond (t := false) (by kernel_rfl) ?_
      refine wp_seq ?_
      refine wp_region_list ?_
      refine sk (a' := (tll_a446 t a b c n g1 g3 g5 r7 sn9 g4q8 g4q9)) (.bool false) ?_
      refine sk (a' := (tll_a447 t a b c n g1 g3 g5 r7 sn9 g4q8 g4q9)) (.bool false) ?_
      refine wpList_nil ?_
      refine wp_cond (t := false) (by kernel_rfl) ?_
      refine wp_seq ?_
      refine wp_region_list ?_
      refine sk (a' := (tll_a448 t a b c n g1 g3 g5 r7 sn9 g4q8 g4q9)) (.bool false) ?_
      refine sk (a' := (tll_a449 t a b c n g1 g3 g5 r7 sn9 g4q8 g4q9)) (.bool false) ?_
      refine wpList_nil ?_
      refine wp_cond (t := false) (by kernel_rfl) ?_
      refine wp_seq ?_
      refine wp_region_list ?_
      refine sk (a' := (tll_a450 t a b c n g1 g3 g5 r7 sn9 g4q8 g4q9)) (.bool false) ?_
      refine sk (a' := (tll_a451 t a b c n g1 g3 g5 r7 sn9 g4q8 g4q9)) (.bool false) ?_
      refine wpList_nil ?_
      refine wp_cond (t := false) (by kernel_rfl) ?_
      refine wp_seq ?_
      refine wp_region_list ?_
      refine sk (a' := (tll_a452 t a b c n g1 g3 g5 r7 sn9 g4q8 g4q9)) (.bool false) ?_
      refine sk (a' := (tll_a453 t a b c n g1 g3 g5 r7 sn9 g4q8 g4q9)) (.bool false) ?_
      refine wpList_nil ?_
      refine wp_cond (t := false) (by kernel_rfl) ?_
      refine wp_seq ?_
      refine wp_region_list ?_
      refine sk (a' := (tll_a454 t a b c n g1 g3 g5 r7 sn9 g4q8 g4q9)) (.bool false) ?_
      refine sk (a' := (tll_a455 t a b c n g1 g3 g5 r7 sn9 g4q8 g4q9)) (.bool false) ?_
      refine wpList_nil ?_
      refine wp_cond (t := false) (by kernel_rfl) ?_
      refine wp_seq ?_
      have hW := hW.drew
      have hK7 := hK7.below (below_drew (Below.refl _ _))
      refine wp_mid (M := fun a' W' => ∃ g6q11 : Nat, a' = (tll_a480 t a b c n g1 g3 g5 r7 sn9 g4q8 g4q9 g6q11) ∧ Ws w W' [(g6q11, 25, #[.int .i64 ((arithF 7 (getR t.R b 0) (getR t.R c 0)).1), .int .i64 0, .int .i64 0]), (g4q9, 25, #[.int .i64 (getR t.R b 0), .int .i64 (getR t.R b 1), .int .i64 (getR t.R b 2)]), (g4q8, 25, #[.int .i64 (getR t.R a 0), .int .i64 (getR t.R a 1), .int .i64 (getR t.R a 2)]), (g5, 32, tll_c1), (g3, 45, #[.int .i64 7, .int .i64 a, .int .i64 b, .int .i64 c, .int .i64 n]), (g1, 32, (tll_c2 t r7))] ∧ KeepUp W6.heap.size W7 W' ∧ W7.heap.size ≤ g6q11) ?_ ?_
      · skip
        refine wp_region_held_drew (S := fun W => Ws w W [(g4q9, 25, #[.int .i64 (getR t.R b 0), .int .i64 (getR t.R b 1), .int .i64 (getR t.R b 2)]), (g4q8, 25, #[.int .i64 (getR t.R a 0), .int .i64 (getR t.R a 1), .int .i64 (getR t.R a 2)]), (g5, 32, tll_c1), (g3, 45, #[.int .i64 7, .int .i64 a, .int .i64 b, .int .i64 c, .int .i64 n]), (g1, 32, (tll_c2 t r7))]) (by kernel_rfl) hW (fun _ => ?_)
        refine dk (a' := (tll_a456 t a b c n g1 g3 g5 r7 sn9 g4q8 g4q9)) 0 (.pointer (some ⟨g3, 0, none⟩)) hW ?_
        refine de (a' := (tll_a458 t a b c n g1 g3 g5 r7 sn9 g4q8 g4q9)) 1 (.int .i64 7) rfl (fun W hH => (ev1 hH 3 0 Try.underlying3)) hW ?_
        refine de (a' := (tll_a460 t a b c n g1 g3 g5 r7 sn9 g4q8 g4q9)) 2 (.agg #[.int .i64 (getR t.R b 0), .int .i64 (getR t.R b 1), .int .i64 (getR t.R b 2)]) rfl (fun W hH => (evA hH 0 0 Try.underlying25)) hW ?_
        refine de (a' := (tll_a462 t a b c n g1 g3 g5 r7 sn9 g4q8 g4q9)) 3 (.agg (tll_c2 t r7)) rfl (fun W hH => (evA hH 4 0 Try.underlying32)) hW ?_
        refine dk (a' := (tll_a464 t a b c n g1 g3 g5 r7 sn9 g4q8 g4q9)) 4 (.pointer (some ⟨g3, 3, none⟩)) hW ?_
        refine de (a' := (tll_a466 t a b c n g1 g3 g5 r7 sn9 g4q8 g4q9)) 5 (.int .i64 c) rfl (fun W hH => (ev1 hH 3 3 Try.underlying3)) hW ?_
        refine wpAnyH_all (rs := [6, 11]) (by kernel_rfl) (by simp) ?_
        refine all_cons ?_ ?_
        · skip
          refine op_call rfl (th_Get (⟨t.pc, t.fu, t.st, t.R, t.kd, t.mi, t.mn, r7.s, r7.b, r7.n, t.old⟩ : Th) c Wm4.drew) (by kernel_rfl) (by kernel_rfl) ?_
          rintro _ W6q6 ⟨rfl, hB⟩
          have hW := hW.step hB
          have hK7 := hK7.below hB
          refine ⟨_, (tll_a468 t a b c n g1 g3 g5 r7 sn9 g4q8 g4q9), rfl, by (try subst e7); kernel_rfl, ?_⟩
          refine ⟨hW, ?_⟩
          refine wpAnyH_all (rs := [7, 11]) (by kernel_rfl) (by simp) ?_
          refine all_cons ?_ ?_
          · skip
            refine op_call rfl (arith_is 7 (getR t.R b 0) (getR t.R b 1) (getR t.R b 2) (getR t.R c 0) (getR t.R c 1) (getR t.R c 2) (by omega) true hz W6q6) (by kernel_rfl) (by kernel_rfl) ?_
            rintro _ W6q7 ⟨rfl, hB⟩
            have hW := hW.step hB
            have hK7 := hK7.below hB
            refine ⟨_, (tll_a470 t a b c n g1 g3 g5 r7 sn9 g4q8 g4q9), rfl, by (try subst e7); kernel_rfl, ?_⟩
            refine ⟨hW, ?_⟩
            refine dk (a' := (tll_a472 t a b c n g1 g3 g5 r7 sn9 g4q8 g4q9)) 8 (.tuple #[.agg #[.int .i64 ((arithF 7 (getR t.R b 0) (getR t.R c 0)).1), .int .i64 0, .int .i64 0], .bool true]) hW ?_
            refine de (a' := (tll_a474 t a b c n g1 g3 g5 r7 sn9 g4q8 g4q9)) 9 (.agg #[.int .i64 ((arithF 7 (getR t.R b 0) (getR t.R c 0)).1), .int .i64 0, .int .i64 0]) rfl (fun W hH => by kernel_rfl) hW ?_
            refine de (a' := (tll_a476 t a b c n g1 g3 g5 r7 sn9 g4q8 g4q9)) 10 (.bool true) rfl (fun W hH => by kernel_rfl) hW ?_
            refine wpAnyH_all (rs := [11]) (by kernel_rfl) (by simp) ?_
            refine all_cons ?_ all_nil
            obtain ⟨g6q11, W6q11, hr, hW, hbb, hge⟩ := hW.mk1 (P := Try.prog) (s := Instr.alloc 25 true (.tuple #[])) #[.int .i64 0, .int .i64 0, .int .i64 0] 25 (by kernel_rfl)
            have hK7_g6q11 := Nat.le_trans hK7.size hge
            have hK7 := hK7.below hbb
            refine op_val (w' := W6q11) (a' := (tll_a478 t a b c n g1 g3 g5 r7 sn9 g4q8 g4q9 g6q11)) (.pointer (some ⟨g6q11, 0, none⟩)) rfl (by kernel_rfl) (Eq.trans (b := (do pure (Next.value (← Instr.alloc 25 true (.tuple #[]))) : Sem Next).run Try.prog W6q7) (by kernel_rfl) (st_val hr)) (by kernel_rfl) ?_
            refine ⟨hW.tail, ?_⟩
            refine wpAnyH_all (rs := [12]) (by kernel_rfl) (by simp) ?_
            refine all_cons ?_ all_nil
            obtain ⟨W6q12, hr, hW, hF⟩ := hW.storeN (P := Try.prog) (o := 0) (cs' := #[.int .i64 ((arithF 7 (getR t.R b 0) (getR t.R c 0)).1), .int .i64 0, .int .i64 0]) (L' := [(g6q11, 25, #[.int .i64 ((arithF 7 (getR t.R b 0) (getR t.R c 0)).1), .int .i64 0, .int .i64 0]), (g4q9, 25, #[.int .i64 (getR t.R b 0), .int .i64 (getR t.R b 1), .int .i64 (getR t.R b 2)]), (g4q8, 25, #[.int .i64 (getR t.R a 0), .int .i64 (getR t.R a 1), .int .i64 (getR t.R a 2)]), (g5, 32, tll_c1), (g3, 45, #[.int .i64 7, .int .i64 a, .int .i64 b, .int .i64 c, .int .i64 n]), (g1, 32, (tll_c2 t r7))]) 0 rfl #[.int .i64 ((arithF 7 (getR t.R b 0) (getR t.R c 0)).1), .int .i64 0, .int .i64 0] (by (try subst e7); kernel_rfl) (Nat.le_of_ble_eq_true rfl) (by kernel_rfl) rfl 25 (by kernel_rfl)
            have hK7 := hK7.store hF (.inr hK7_g6q11)
            refine op_none (w' := W6q12) (a' := (tll_a478 t a b c n g1 g3 g5 r7 sn9 g4q8 g4q9 g6q11)) rfl (by kernel_rfl) (Eq.trans (b := (do Instr.storeAt 25 (.pointer (some ⟨g6q11, 0, none⟩)) (.agg #[.int .i64 ((arithF 7 (getR t.R b 0) (getR t.R c 0)).1), .int .i64 0, .int .i64 0]); pure Next.skip : Sem Next).run Try.prog W6q11) (by kernel_rfl) (st_unit hr)) (by kernel_rfl) ?_
            refine ⟨hW.tail, ?_⟩
            refine dk (a' := (tll_a480 t a b c n g1 g3 g5 r7 sn9 g4q8 g4q9 g6q11)) 13 (.bool true) hW.tail ?_
            refine wpAnyH_done (by kernel_rfl) ?_ _
            simp only [Exit.then]
            exact ⟨g6q11, rfl, hW, hK7, hK7_g6q11⟩
          refine all_cons ?_ all_nil
          obtain ⟨g6q11, W6q11, hr, hW, hbb, hge⟩ := hW.mk1 (P := Try.prog) (s := Instr.alloc 25 true (.tuple #[])) #[.int .i64 0, .int .i64 0, .int .i64 0] 25 (by kernel_rfl)
          have hK7_g6q11 := Nat.le_trans hK7.size hge
          have hK7 := hK7.below hbb
          refine op_val (w' := W6q11) (a' := (tll_a482 t a b c n g1 g3 g5 r7 sn9 g4q8 g4q9 g6q11)) (.pointer (some ⟨g6q11, 0, none⟩)) rfl (by kernel_rfl) (Eq.trans (b := (do pure (Next.value (← Instr.alloc 25 true (.tuple #[]))) : Sem Next).run Try.prog W6q6) (by kernel_rfl) (st_val hr)) (by kernel_rfl) ?_
          refine ⟨hW.tail, ?_⟩
          refine wpAnyH_all (rs := [7]) (by kernel_rfl) (by simp) ?_
          refine all_cons ?_ all_nil
          refine op_call rfl (arith_is 7 (getR t.R b 0) (getR t.R b 1) (getR t.R b 2) (getR t.R c 0) (getR t.R c 1) (getR t.R c 2) (by omega) true hz W6q11) (by kernel_rfl) (by kernel_rfl) ?_
          rintro _ W6q7 ⟨rfl, hB⟩
          have hW := hW.step hB
          have hK7 := hK7.below hB
          refine ⟨_, (tll_a483 t a b c n g1 g3 g5 r7 sn9 g4q8 g4q9 g6q11), rfl, by (try subst e7); kernel_rfl, ?_⟩
          refine ⟨hW.tail, ?_⟩
          refine dk (a' := (tll_a484 t a b c n g1 g3 g5 r7 sn9 g4q8 g4q9 g6q11)) 8 (.tuple #[.agg #[.int .i64 ((arithF 7 (getR t.R b 0) (getR t.R c 0)).1), .int .i64 0, .int .i64 0], .bool true]) hW.tail ?_
          refine de (a' := (tll_a485 t a b c n g1 g3 g5 r7 sn9 g4q8 g4q9 g6q11)) 9 (.agg #[.int .i64 ((arithF 7 (getR t.R b 0) (getR t.R c 0)).1), .int .i64 0, .int .i64 0]) rfl (fun W hH => by kernel_rfl) hW.tail ?_
          refine de (a' := (tll_a478 t a b c n g1 g3 g5 r7 sn9 g4q8 g4q9 g6q11)) 10 (.bool true) rfl (fun W hH => by kernel_rfl) hW.tail ?_
          refine wpAnyH_all (rs := [12]) (by kernel_rfl) (by simp) ?_
          refine all_cons ?_ all_nil
          obtain ⟨W6q12, hr, hW, hF⟩ := hW.storeN (P := Try.prog) (o := 0) (cs' := #[.int .i64 ((arithF 7 (getR t.R b 0) (getR t.R c 0)).1), .int .i64 0, .int .i64 0]) (L' := [(g6q11, 25, #[.int .i64 ((arithF 7 (getR t.R b 0) (getR t.R c 0)).1), .int .i64 0, .int .i64 0]), (g4q9, 25, #[.int .i64 (getR t.R b 0), .int .i64 (getR t.R b 1), .int .i64 (getR t.R b 2)]), (g4q8, 25, #[.int .i64 (getR t.R a 0), .int .i64 (getR t.R a 1), .int .i64 (getR t.R a 2)]), (g5, 32, tll_c1), (g3, 45, #[.int .i64 7, .int .i64 a, .int .i64 b, .int .i64 c, .int .i64 n]), (g1, 32, (tll_c2 t r7))]) 0 rfl #[.int .i64 ((arithF 7 (getR t.R b 0) (getR t.R c 0)).1), .int .i64 0, .int .i64 0] (by (try subst e7); kernel_rfl) (Nat.le_of_ble_eq_true rfl) (by kernel_rfl) rfl 25 (by kernel_rfl)
          have hK7 := hK7.store hF (.inr hK7_g6q11)
          refine op_none (w' := W6q12) (a' := (tll_a478 t a b c n g1 g3 g5 r7 sn9 g4q8 g4q9 g6q11)) rfl (by kernel_rfl) (Eq.trans (b := (do Instr.storeAt 25 (.pointer (some ⟨g6q11, 0, none⟩)) (.agg #[.int .i64 ((arithF 7 (getR t.R b 0) (getR t.R c 0)).1), .int .i64 0, .int .i64 0]); pure Next.skip : Sem Next).run Try.prog W6q7) (by kernel_rfl) (st_unit hr)) (by kernel_rfl) ?_
          refine ⟨hW.tail, ?_⟩
          refine dk (a' := (tll_a480 t a b c n g1 g3 g5 r7 sn9 g4q8 g4q9 g6q11)) 13 (.bool true) hW.tail ?_
          refine wpAnyH_done (by kernel_rfl) ?_ _
          simp only [Exit.then]
          exact ⟨g6q11, rfl, hW, hK7, hK7_g6q11⟩
        refine all_cons ?_ all_nil
        obtain ⟨g6q11, W6q11, hr, hW, hbb, hge⟩ := hW.mk1 (P := Try.prog) (s := Instr.alloc 25 true (.tuple #[])) #[.int .i64 0, .int .i64 0, .int .i64 0] 25 (by kernel_rfl)
        have hK7_g6q11 := Nat.le_trans hK7.size hge
        have hK7 := hK7.below hbb
        refine op_val (w' := W6q11) (a' := (tll_a486 t a b c n g1 g3 g5 r7 sn9 g4q8 g4q9 g6q11)) (.pointer (some ⟨g6q11, 0, none⟩)) rfl (by kernel_rfl) (Eq.trans (b := (do pure (Next.value (← Instr.alloc 25 true (.tuple #[]))) : Sem Next).run Try.prog Wm4.drew) (by kernel_rfl) (st_val hr)) (by kernel_rfl) ?_
        refine ⟨hW.tail, ?_⟩
        refine wpAnyH_all (rs := [6]) (by kernel_rfl) (by simp) ?_
        refine all_cons ?_ all_nil
        refine op_call rfl (th_Get (⟨t.pc, t.fu, t.st, t.R, t.kd, t.mi, t.mn, r7.s, r7.b, r7.n, t.old⟩ : Th) c W6q11) (by kernel_rfl) (by kernel_rfl) ?_
        rintro _ W6q6 ⟨rfl, hB⟩
        have hW := hW.step hB
        have hK7 := hK7.below hB
        refine ⟨_, (tll_a482 t a b c n g1 g3 g5 r7 sn9 g4q8 g4q9 g6q11), rfl, by (try subst e7); kernel_rfl, ?_⟩
        refine ⟨hW.tail, ?_⟩
        refine wpAnyH_all (rs := [7]) (by kernel_rfl) (by simp) ?_
        refine all_cons ?_ all_nil
        refine op_call rfl (arith_is 7 (getR t.R b 0) (getR t.R b 1) (getR t.R b 2) (getR t.R c 0) (getR t.R c 1) (getR t.R c 2) (by omega) true hz W6q6) (by kernel_rfl) (by kernel_rfl) ?_
        rintro _ W6q7 ⟨rfl, hB⟩
        have hW := hW.step hB
        have hK7 := hK7.below hB
        refine ⟨_, (tll_a483 t a b c n g1 g3 g5 r7 sn9 g4q8 g4q9 g6q11), rfl, by (try subst e7); kernel_rfl, ?_⟩
        refine ⟨hW.tail, ?_⟩
        refine dk (a' := (tll_a484 t a b c n g1 g3 g5 r7 sn9 g4q8 g4q9 g6q11)) 8 (.tuple #[.agg #[.int .i64 ((arithF 7 (getR t.R b 0) (getR t.R c 0)).1), .int .i64 0, .int .i64 0], .bool true]) hW.tail ?_
        refine de (a' := (tll_a485 t a b c n g1 g3 g5 r7 sn9 g4q8 g4q9 g6q11)) 9 (.agg #[.int .i64 ((arithF 7 (getR t.R b 0) (getR t.R c 0)).1), .int .i64 0, .int .i64 0]) rfl (fun W hH => by kernel_rfl) hW.tail ?_
        refine de (a' := (tll_a478 t a b c n g1 g3 g5 r7 sn9 g4q8 g4q9 g6q11)) 10 (.bool true) rfl (fun W hH => by kernel_rfl) hW.tail ?_
        refine wpAnyH_all (rs := [12]) (by kernel_rfl) (by simp) ?_
        refine all_cons ?_ all_nil
        obtain ⟨W6q12, hr, hW, hF⟩ := hW.storeN (P := Try.prog) (o := 0) (cs' := #[.int .i64 ((arithF 7 (getR t.R b 0) (getR t.R c 0)).1), .int .i64 0, .int .i64 0]) (L' := [(g6q11, 25, #[.int .i64 ((arithF 7 (getR t.R b 0) (getR t.R c 0)).1), .int .i64 0, .int .i64 0]), (g4q9, 25, #[.int .i64 (getR t.R b 0), .int .i64 (getR t.R b 1), .int .i64 (getR t.R b 2)]), (g4q8, 25, #[.int .i64 (getR t.R a 0), .int .i64 (getR t.R a 1), .int .i64 (getR t.R a 2)]), (g5, 32, tll_c1), (g3, 45, #[.int .i64 7, .int .i64 a, .int .i64 b, .int .i64 c, .int .i64 n]), (g1, 32, (tll_c2 t r7))]) 0 rfl #[.int .i64 ((arithF 7 (getR t.R b 0) (getR t.R c 0)).1), .int .i64 0, .int .i64 0] (by (try subst e7); kernel_rfl) (Nat.le_of_ble_eq_true rfl) (by kernel_rfl) rfl 25 (by kernel_rfl)
        have hK7 := hK7.store hF (.inr hK7_g6q11)
        refine op_none (w' := W6q12) (a' := (tll_a478 t a b c n g1 g3 g5 r7 sn9 g4q8 g4q9 g6q11)) rfl (by kernel_rfl) (Eq.trans (b := (do Instr.storeAt 25 (.pointer (some ⟨g6q11, 0, none⟩)) (.agg #[.int .i64 ((arithF 7 (getR t.R b 0) (getR t.R c 0)).1), .int .i64 0, .int .i64 0]); pure Next.skip : Sem Next).run Try.prog W6q7) (by kernel_rfl) (st_unit hr)) (by kernel_rfl) ?_
        refine ⟨hW.tail, ?_⟩
        refine dk (a' := (tll_a480 t a b c n g1 g3 g5 r7 sn9 g4q8 g4q9 g6q11)) 13 (.bool true) hW.tail ?_
        refine wpAnyH_done (by kernel_rfl) ?_ _
        simp only [Exit.then]
        exact ⟨g6q11, rfl, hW, hK7, hK7_g6q11⟩
      rintro _ Wm6 ⟨g6q11, rfl, hW, hK7, hK7_g6q11⟩
      refine wp_seq ?_
      refine wp_seq ?_
      refine wp_region_list ?_
      refine sk (a' := (tll_a487 t a b c n g1 g3 g5 r7 sn9 g4q8 g4q9 g6q11)) (.bool true) ?_
      refine sk (a' := (tll_a488 t a b c n g1 g3 g5 r7 sn9 g4q8 g4q9 g6q11)) (.bool false) ?_
      refine wpList_nil ?_
      refine wp_cond (t := false) (by kernel_rfl) ?_
      refine wp_skip ?_
      refine wp_region_list ?_
      refine se (a' := (tll_a489 t a b c n g1 g3 g5 r7 sn9 g4q8 g4q9 g6q11)) (.agg (tll_c2 t r7)) (evA hW 5 0 Try.underlying32) ?_
      refine sk (a' := (tll_a490 t a b c n g1 g3 g5 r7 sn9 g4q8 g4q9 g6q11)) (.pointer (some ⟨g3, 1, none⟩)) ?_
      refine se (a' := (tll_a491 t a b c n g1 g3 g5 r7 sn9 g4q8 g4q9 g6q11)) (.int .i64 a) (ev1 hW 4 1 Try.underlying3) ?_
      refine se (a' := (tll_a492 t a b c n g1 g3 g5 r7 sn9 g4q8 g4q9 g6q11)) (.agg #[.int .i64 ((arithF 7 (getR t.R b 0) (getR t.R c 0)).1), .int .i64 0, .int .i64 0]) (evA hW 0 0 Try.underlying25) ?_
      have hK11_g6q11 : g6q11 < Wm6.heap.size := blk_lt (hW.blk 0 _ _ _ rfl).1
      have hK11_g4q9 : g4q9 < Wm6.heap.size := blk_lt (hW.blk 1 _ _ _ rfl).1
      have hK11_g4q8 : g4q8 < Wm6.heap.size := blk_lt (hW.blk 2 _ _ _ rfl).1
      have hK11_g5 : g5 < Wm6.heap.size := blk_lt (hW.blk 3 _ _ _ rfl).1
      have hK11_g3 : g3 < Wm6.heap.size := blk_lt (hW.blk 4 _ _ _ rfl).1
      have hK11_g1 : g1 < Wm6.heap.size := blk_lt (hW.blk 5 _ _ _ rfl).1
      have hK11_le : w.heap.size ≤ Wm6.heap.size := hW.below.size
      refine st_call (th_Set (t := (⟨t.pc, t.fu, t.st, t.R, t.kd, t.mi, t.mn, r7.s, r7.b, r7.n, t.old⟩ : Th)) (xs := xs) (bs := bs) (ns := ns) (by subst e7; exact ⟨(hO7.keep hK7).reads.s, (hO7.keep hK7).reads.b, (hO7.keep hK7).reads.n⟩) hl a ((arithF 7 (getR t.R b 0) (getR t.R c 0)).1) 0 0) (by kernel_rfl) (by kernel_rfl) ?_
      rintro _ W11 ⟨As11, cs11, Ab11, cb11, An11, cn11, rfl, hO11, hB⟩
      have hW := hW.step hB
      have hK7 := hK7.below hB
      have hK11 := KeepUp.refl Wm6.heap.size W11
      obtain ⟨r11, e11⟩ : ∃ r : Rw, r = ⟨.slice As11 xs.length cs11, .slice Ab11 bs.length cb11, .slice An11 ns.length cn11⟩ := ⟨_, rfl⟩
      refine ⟨_, (tll_a495 t a b c n g1 g3 g5 r7 sn9 g4q8 g4q9 g6q11 r11), rfl, by (try subst e7); (try subst e11); kernel_rfl, ?_⟩
      obtain ⟨W12, hr, hW, hF⟩ := hW.storeN (P := Try.prog) (o := 0) (cs' := (tll_c10 t a b c r11)) (L' := [(g6q11, 25, #[.int .i64 ((arithF 7 (getR t.R b 0) (getR t.R c 0)).1), .int .i64 0, .int .i64 0]), (g4q9, 25, #[.int .i64 (getR t.R b 0), .int .i64 (getR t.R b 1), .int .i64 (getR t.R b 2)]), (g4q8, 25, #[.int .i64 (getR t.R a 0), .int .i64 (getR t.R a 1), .int .i64 (getR t.R a 2)]), (g5, 32, tll_c1), (g3, 45, #[.int .i64 7, .int .i64 a, .int .i64 b, .int .i64 c, .int .i64 n]), (g1, 32, (tll_c10 t a b c r11))]) 5 rfl (tll_c10 t a b c r11) (by (try subst e7); (try subst e11); kernel_rfl) (Nat.le_of_ble_eq_true rfl) (by kernel_rfl) rfl 32 (by kernel_rfl)
      have hK7 := hK7.store hF (.inl hK7_g1)
      have hK11 := hK11.store hF (.inl hK11_g1)
      refine st_none (w' := W12) (a' := (tll_a495 t a b c n g1 g3 g5 r7 sn9 g4q8 g4q9 g6q11 r11)) (by kernel_rfl) (Eq.trans (b := (do Instr.storeAt 32 (.pointer (some ⟨g1, 0, none⟩)) (.agg (tll_c10 t a b c r11)); pure Next.skip : Sem Next).run Try.prog W11) (by kernel_rfl) (st_unit hr)) (by kernel_rfl) ?_
      refine wpList_nil ?_
      refine wp_seq ?_
      refine wp_region_list ?_
      refine se (a' := (tll_a497 t a b c n g1 g3 g5 r7 sn9 g4q8 g4q9 g6q11 r11)) (.agg (tll_c10 t a b c r11)) (evA hW 5 0 Try.underlying32) ?_
      obtain ⟨W13, hr, hW, hF⟩ := hW.storeN (P := Try.prog) (o := 0) (cs' := (tll_c10 t a b c r11)) (L' := [(g6q11, 25, #[.int .i64 ((arithF 7 (getR t.R b 0) (getR t.R c 0)).1), .int .i64 0, .int .i64 0]), (g4q9, 25, #[.int .i64 (getR t.R b 0), .int .i64 (getR t.R b 1), .int .i64 (getR t.R b 2)]), (g4q8, 25, #[.int .i64 (getR t.R a 0), .int .i64 (getR t.R a 1), .int .i64 (getR t.R a 2)]), (g5, 32, (tll_c10 t a b c r11)), (g3, 45, #[.int .i64 7, .int .i64 a, .int .i64 b, .int .i64 c, .int .i64 n]), (g1, 32, (tll_c10 t a b c r11))]) 3 rfl (tll_c10 t a b c r11) (by (try subst e7); (try subst e11); kernel_rfl) (Nat.le_of_ble_eq_true rfl) (by kernel_rfl) rfl 32 (by kernel_rfl)
      have hK7 := hK7.store hF (.inl hK7_g5)
      have hK11 := hK11.store hF (.inl hK11_g5)
      refine st_none (w' := W13) (a' := (tll_a497 t a b c n g1 g3 g5 r7 sn9 g4q8 g4q9 g6q11 r11)) (by kernel_rfl) (Eq.trans (b := (do Instr.storeAt 32 (.pointer (some ⟨g5, 0, none⟩)) (.agg (tll_c10 t a b c r11)); pure Next.skip : Sem Next).run Try.prog W12) (by kernel_rfl) (st_unit hr)) (by kernel_rfl) ?_
      refine sk (a' := (tll_a499 t a b c n g1 g3 g5 r7 sn9 g4q8 g4q9 g6q11 r11)) (.bool true) ?_
      refine wpList_nil ?_
      refine wp_ret ?_
      (try simp only [Exit.then, Exit.inBlock])
      change bodyPost Try.prog Try.f21 _ .ret _ _
      refine bodyPost_ret (results_ct rfl _ _ g5 32 _ (0, 0) _ (by kernel_rfl) (hW.blk 3 _ _ _ rfl).1 Try.underlying32 rfl (by kernel_rfl)) rfl ?_
      have hloc : localT t 7 a b c n = ({ t with R := setR t.R a (arithF 7 (getR t.R b 0) (getR t.R c 0)).1 0 0 }, true) := (Eq.trans (b := ((if (arithF 7 (getR t.R b 0) (getR t.R c 0)).2 = true then { t with R := setR t.R a (arithF 7 (getR t.R b 0) (getR t.R c 0)).1 0 0 } else { t with st := 1 } : Th), true)) (by kernel_rfl) (by rw [if_pos hz]))
      subst e11
      rw [hloc]
      exact ⟨As11, cs11, Ab11, cb11, An11, cn11, rfl, ⟨Kd.R_lower (hK11.R hO11.s) hK11_le, Kd.R_lower (hK11.R hO11.b) hK11_le, Kd.R_lower (hK11.R hO11.n) hK11_le⟩, hW.below⟩
    · skip
      refine wp_region_list ?_
      refine sk (a' := (tll_a441 t a b c n g1 g3 g5 r7 sn9 g4q8 g4q9)) (.bool false) ?_
      refine sk (a' := (tll_a445 t a b c n g1 g3 g5 r7 sn9 g4q8 g4q9)) (.bool false) ?_
      refine wpList_nil ?_
      refine wp_cond (t := false) (by kernel_rfl) ?_
      refine wp_seq ?_
      refine wp_region_list ?_
      refine sk (a' := (tll_a446 t a b c n g1 g3 g5 r7 sn9 g4q8 g4q9)) (.bool false) ?_
      refine sk (a' := (tll_a447 t a b c n g1 g3 g5 r7 sn9 g4q8 g4q9)) (.bool false) ?_
      refine wpList_nil ?_
      refine wp_cond (t := false) (by kernel_rfl) ?_
      refine wp_seq ?_
      refine wp_region_list ?_
      refine sk (a' := (tll_a448 t a b c n g1 g3 g5 r7 sn9 g4q8 g4q9)) (.bool false) ?_
      refine sk (a' := (tll_a449 t a b c n g1 g3 g5 r7 sn9 g4q8 g4q9)) (.bool false) ?_
      refine wpList_nil ?_
      refine wp_cond (t := false) (by kernel_rfl) ?_
      refine wp_seq ?_
      refine wp_region_list ?_
      refine sk (a' := (tll_a450 t a b c n g1 g3 g5 r7 sn9 g4q8 g4q9)) (.bool false) ?_
      refine sk (a' := (tll_a451 t a b c n g1 g3 g5 r7 sn9 g4q8 g4q9)) (.bool false) ?_
      refine wpList_nil ?_
      refine wp_cond (t := false) (by kernel_rfl) ?_
      refine wp_seq ?_
      refine wp_region_list ?_
      refine sk (a' := (tll_a452 t a b c n g1 g3 g5 r7 sn9 g4q8 g4q9)) (.bool false) ?_
      refine sk (a' := (tll_a453 t a b c n g1 g3 g5 r7 sn9 g4q8 g4q9)) (.bool false) ?_
      refine wpList_nil ?_
      refine wp_cond (t := false) (by kernel_rfl) ?_
      refine wp_seq ?_
      refine wp_region_list ?_
      refine sk (a' := (tll_a454 t a b c n g1 g3 g5 r7 sn9 g4q8 g4q9)) (.bool false) ?_
      refine sk (a' := (tll_a455 t a b c n g1 g3 g5 r7 sn9 g4q8 g4q9)) (.bool false) ?_
      refine wpList_nil ?_
      refine wp_cond (t := false) (by kernel_rfl) ?_
      refine wp_seq ?_
      have hW := hW.drew
      have hK7 := hK7.below (below_drew (Below.refl _ _))
      refine wp_mid (M := fun a' W' => ∃ g6q11 : Nat, a' = (tll_a510 t a b c n g1 g3 g5 r7 sn9 g4q8 g4q9 g6q11) ∧ Ws w W' [(g6q11, 25, #[.int .i64 ((arithF 7 (getR t.R b 0) (getR t.R c 0)).1), .int .i64 0, .int .i64 0]), (g4q9, 25, #[.int .i64 (getR t.R b 0), .int .i64 (getR t.R b 1), .int .i64 (getR t.R b 2)]), (g4q8, 25, #[.int .i64 (getR t.R a 0), .int .i64 (getR t.R a 1), .int .i64 (getR t.R a 2)]), (g5, 32, tll_c1), (g3, 45, #[.int .i64 7, .int .i64 a, .int .i64 b, .int .i64 c, .int .i64 n]), (g1, 32, (tll_c2 t r7))] ∧ KeepUp W6.heap.size W7 W' ∧ W7.heap.size ≤ g6q11) ?_ ?_
      · skip
        refine wp_region_held_drew (S := fun W => Ws w W [(g4q9, 25, #[.int .i64 (getR t.R b 0), .int .i64 (getR t.R b 1), .int .i64 (getR t.R b 2)]), (g4q8, 25, #[.int .i64 (getR t.R a 0), .int .i64 (getR t.R a 1), .int .i64 (getR t.R a 2)]), (g5, 32, tll_c1), (g3, 45, #[.int .i64 7, .int .i64 a, .int .i64 b, .int .i64 c, .int .i64 n]), (g1, 32, (tll_c2 t r7))]) (by kernel_rfl) hW (fun _ => ?_)
        refine dk (a' := (tll_a456 t a b c n g1 g3 g5 r7 sn9 g4q8 g4q9)) 0 (.pointer (some ⟨g3, 0, none⟩)) hW ?_
        refine de (a' := (tll_a458 t a b c n g1 g3 g5 r7 sn9 g4q8 g4q9)) 1 (.int .i64 7) rfl (fun W hH => (ev1 hH 3 0 Try.underlying3)) hW ?_
        refine de (a' := (tll_a460 t a b c n g1 g3 g5 r7 sn9 g4q8 g4q9)) 2 (.agg #[.int .i64 (getR t.R b 0), .int .i64 (getR t.R b 1), .int .i64 (getR t.R b 2)]) rfl (fun W hH => (evA hH 0 0 Try.underlying25)) hW ?_
        refine de (a' := (tll_a462 t a b c n g1 g3 g5 r7 sn9 g4q8 g4q9)) 3 (.agg (tll_c2 t r7)) rfl (fun W hH => (evA hH 4 0 Try.underlying32)) hW ?_
        refine dk (a' := (tll_a464 t a b c n g1 g3 g5 r7 sn9 g4q8 g4q9)) 4 (.pointer (some ⟨g3, 3, none⟩)) hW ?_
        refine de (a' := (tll_a466 t a b c n g1 g3 g5 r7 sn9 g4q8 g4q9)) 5 (.int .i64 c) rfl (fun W hH => (ev1 hH 3 3 Try.underlying3)) hW ?_
        refine wpAnyH_all (rs := [6, 11]) (by kernel_rfl) (by simp) ?_
        refine all_cons ?_ ?_
        · skip
          refine op_call rfl (th_Get (⟨t.pc, t.fu, t.st, t.R, t.kd, t.mi, t.mn, r7.s, r7.b, r7.n, t.old⟩ : Th) c Wm4.drew) (by kernel_rfl) (by kernel_rfl) ?_
          rintro _ W6q6 ⟨rfl, hB⟩
          have hW := hW.step hB
          have hK7 := hK7.below hB
          refine ⟨_, (tll_a468 t a b c n g1 g3 g5 r7 sn9 g4q8 g4q9), rfl, by (try subst e7); kernel_rfl, ?_⟩
          refine ⟨hW, ?_⟩
          refine wpAnyH_all (rs := [7, 11]) (by kernel_rfl) (by simp) ?_
          refine all_cons ?_ ?_
          · skip
            refine op_call rfl (arith_is 7 (getR t.R b 0) (getR t.R b 1) (getR t.R b 2) (getR t.R c 0) (getR t.R c 1) (getR t.R c 2) (by omega) false hz W6q6) (by kernel_rfl) (by kernel_rfl) ?_
            rintro _ W6q7 ⟨rfl, hB⟩
            have hW := hW.step hB
            have hK7 := hK7.below hB
            refine ⟨_, (tll_a501 t a b c n g1 g3 g5 r7 sn9 g4q8 g4q9), rfl, by (try subst e7); kernel_rfl, ?_⟩
            refine ⟨hW, ?_⟩
            refine dk (a' := (tll_a503 t a b c n g1 g3 g5 r7 sn9 g4q8 g4q9)) 8 (.tuple #[.agg #[.int .i64 ((arithF 7 (getR t.R b 0) (getR t.R c 0)).1), .int .i64 0, .int .i64 0], .bool false]) hW ?_
            refine de (a' := (tll_a505 t a b c n g1 g3 g5 r7 sn9 g4q8 g4q9)) 9 (.agg #[.int .i64 ((arithF 7 (getR t.R b 0) (getR t.R c 0)).1), .int .i64 0, .int .i64 0]) rfl (fun W hH => by kernel_rfl) hW ?_
            refine de (a' := (tll_a507 t a b c n g1 g3 g5 r7 sn9 g4q8 g4q9)) 10 (.bool false) rfl (fun W hH => by kernel_rfl) hW ?_
            refine wpAnyH_all (rs := [11]) (by kernel_rfl) (by simp) ?_
            refine all_cons ?_ all_nil
            obtain ⟨g6q11, W6q11, hr, hW, hbb, hge⟩ := hW.mk1 (P := Try.prog) (s := Instr.alloc 25 true (.tuple #[])) #[.int .i64 0, .int .i64 0, .int .i64 0] 25 (by kernel_rfl)
            have hK7_g6q11 := Nat.le_trans hK7.size hge
            have hK7 := hK7.below hbb
            refine op_val (w' := W6q11) (a' := (tll_a509 t a b c n g1 g3 g5 r7 sn9 g4q8 g4q9 g6q11)) (.pointer (some ⟨g6q11, 0, none⟩)) rfl (by kernel_rfl) (Eq.trans (b := (do pure (Next.value (← Instr.alloc 25 true (.tuple #[]))) : Sem Next).run Try.prog W6q7) (by kernel_rfl) (st_val hr)) (by kernel_rfl) ?_
            refine ⟨hW.tail, ?_⟩
            refine wpAnyH_all (rs := [12]) (by kernel_rfl) (by simp) ?_
            refine all_cons ?_ all_nil
            obtain ⟨W6q12, hr, hW, hF⟩ := hW.storeN (P := Try.prog) (o := 0) (cs' := #[.int .i64 ((arithF 7 (getR t.R b 0) (getR t.R c 0)).1), .int .i64 0, .int .i64 0]) (L' := [(g6q11, 25, #[.int .i64 ((arithF 7 (getR t.R b 0) (getR t.R c 0)).1), .int .i64 0, .int .i64 0]), (g4q9, 25, #[.int .i64 (getR t.R b 0), .int .i64 (getR t.R b 1), .int .i64 (getR t.R b 2)]), (g4q8, 25, #[.int .i64 (getR t.R a 0), .int .i64 (getR t.R a 1), .int .i64 (getR t.R a 2)]), (g5, 32, tll_c1), (g3, 45, #[.int .i64 7, .int .i64 a, .int .i64 b, .int .i64 c, .int .i64 n]), (g1, 32, (tll_c2 t r7))]) 0 rfl #[.int .i64 ((arithF 7 (getR t.R b 0) (getR t.R c 0)).1), .int .i64 0, .int .i64 0] (by (try subst e7); kernel_rfl) (Nat.le_of_ble_eq_true rfl) (by kernel_rfl) rfl 25 (by kernel_rfl)
            have hK7 := hK7.store hF (.inr hK7_g6q11)
            refine op_none (w' := W6q12) (a' := (tll_a509 t a b c n g1 g3 g5 r7 sn9 g4q8 g4q9 g6q11)) rfl (by kernel_rfl) (Eq.trans (b := (do Instr.storeAt 25 (.pointer (some ⟨g6q11, 0, none⟩)) (.agg #[.int .i64 ((arithF 7 (getR t.R b 0) (getR t.R c 0)).1), .int .i64 0, .int .i64 0]); pure Next.skip : Sem Next).run Try.prog W6q11) (by kernel_rfl) (st_unit hr)) (by kernel_rfl) ?_
            refine ⟨hW.tail, ?_⟩
            refine dk (a' := (tll_a510 t a b c n g1 g3 g5 r7 sn9 g4q8 g4q9 g6q11)) 13 (.bool false) hW.tail ?_
            refine wpAnyH_done (by kernel_rfl) ?_ _
            simp only [Exit.then]
            exact ⟨g6q11, rfl, hW, hK7, hK7_g6q11⟩
          refine all_cons ?_ all_nil
          obtain ⟨g6q11, W6q11, hr, hW, hbb, hge⟩ := hW.mk1 (P := Try.prog) (s := Instr.alloc 25 true (.tuple #[])) #[.int .i64 0, .int .i64 0, .int .i64 0] 25 (by kernel_rfl)
          have hK7_g6q11 := Nat.le_trans hK7.size hge
          have hK7 := hK7.below hbb
          refine op_val (w' := W6q11) (a' := (tll_a482 t a b c n g1 g3 g5 r7 sn9 g4q8 g4q9 g6q11)) (.pointer (some ⟨g6q11, 0, none⟩)) rfl (by kernel_rfl) (Eq.trans (b := (do pure (Next.value (← Instr.alloc 25 true (.tuple #[]))) : Sem Next).run Try.prog W6q6) (by kernel_rfl) (st_val hr)) (by kernel_rfl) ?_
          refine ⟨hW.tail, ?_⟩
          refine wpAnyH_all (rs := [7]) (by kernel_rfl) (by simp) ?_
          refine all_cons ?_ all_nil
          refine op_call rfl (arith_is 7 (getR t.R b 0) (getR t.R b 1) (getR t.R b 2) (getR t.R c 0) (getR t.R c 1) (getR t.R c 2) (by omega) false hz W6q11) (by kernel_rfl) (by kernel_rfl) ?_
          rintro _ W6q7 ⟨rfl, hB⟩
          have hW := hW.step hB
          have hK7 := hK7.below hB
          refine ⟨_, (tll_a512 t a b c n g1 g3 g5 r7 sn9 g4q8 g4q9 g6q11), rfl, by (try subst e7); kernel_rfl, ?_⟩
          refine ⟨hW.tail, ?_⟩
          refine dk (a' := (tll_a513 t a b c n g1 g3 g5 r7 sn9 g4q8 g4q9 g6q11)) 8 (.tuple #[.agg #[.int .i64 ((arithF 7 (getR t.R b 0) (getR t.R c 0)).1), .int .i64 0, .int .i64 0], .bool false]) hW.tail ?_
          refine de (a' := (tll_a514 t a b c n g1 g3 g5 r7 sn9 g4q8 g4q9 g6q11)) 9 (.agg #[.int .i64 ((arithF 7 (getR t.R b 0) (getR t.R c 0)).1), .int .i64 0, .int .i64 0]) rfl (fun W hH => by kernel_rfl) hW.tail ?_
          refine de (a' := (tll_a509 t a b c n g1 g3 g5 r7 sn9 g4q8 g4q9 g6q11)) 10 (.bool false) rfl (fun W hH => by kernel_rfl) hW.tail ?_
          refine wpAnyH_all (rs := [12]) (by kernel_rfl) (by simp) ?_
          refine all_cons ?_ all_nil
          obtain ⟨W6q12, hr, hW, hF⟩ := hW.storeN (P := Try.prog) (o := 0) (cs' := #[.int .i64 ((arithF 7 (getR t.R b 0) (getR t.R c 0)).1), .int .i64 0, .int .i64 0]) (L' := [(g6q11, 25, #[.int .i64 ((arithF 7 (getR t.R b 0) (getR t.R c 0)).1), .int .i64 0, .int .i64 0]), (g4q9, 25, #[.int .i64 (getR t.R b 0), .int .i64 (getR t.R b 1), .int .i64 (getR t.R b 2)]), (g4q8, 25, #[.int .i64 (getR t.R a 0), .int .i64 (getR t.R a 1), .int .i64 (getR t.R a 2)]), (g5, 32, tll_c1), (g3, 45, #[.int .i64 7, .int .i64 a, .int .i64 b, .int .i64 c, .int .i64 n]), (g1, 32, (tll_c2 t r7))]) 0 rfl #[.int .i64 ((arithF 7 (getR t.R b 0) (getR t.R c 0)).1), .int .i64 0, .int .i64 0] (by (try subst e7); kernel_rfl) (Nat.le_of_ble_eq_true rfl) (by kernel_rfl) rfl 25 (by kernel_rfl)
          have hK7 := hK7.store hF (.inr hK7_g6q11)
          refine op_none (w' := W6q12) (a' := (tll_a509 t a b c n g1 g3 g5 r7 sn9 g4q8 g4q9 g6q11)) rfl (by kernel_rfl) (Eq.trans (b := (do Instr.storeAt 25 (.pointer (some ⟨g6q11, 0, none⟩)) (.agg #[.int .i64 ((arithF 7 (getR t.R b 0) (getR t.R c 0)).1), .int .i64 0, .int .i64 0]); pure Next.skip : Sem Next).run Try.prog W6q7) (by kernel_rfl) (st_unit hr)) (by kernel_rfl) ?_
          refine ⟨hW.tail, ?_⟩
          refine dk (a' := (tll_a510 t a b c n g1 g3 g5 r7 sn9 g4q8 g4q9 g6q11)) 13 (.bool false) hW.tail ?_
          refine wpAnyH_done (by kernel_rfl) ?_ _
          simp only [Exit.then]
          exact ⟨g6q11, rfl, hW, hK7, hK7_g6q11⟩
        refine all_cons ?_ all_nil
        obtain ⟨g6q11, W6q11, hr, hW, hbb, hge⟩ := hW.mk1 (P := Try.prog) (s := Instr.alloc 25 true (.tuple #[])) #[.int .i64 0, .int .i64 0, .int .i64 0] 25 (by kernel_rfl)
        have hK7_g6q11 := Nat.le_trans hK7.size hge
        have hK7 := hK7.below hbb
        refine op_val (w' := W6q11) (a' := (tll_a486 t a b c n g1 g3 g5 r7 sn9 g4q8 g4q9 g6q11)) (.pointer (some ⟨g6q11, 0, none⟩)) rfl (by kernel_rfl) (Eq.trans (b := (do pure (Next.value (← Instr.alloc 25 true (.tuple #[]))) : Sem Next).run Try.prog Wm4.drew) (by kernel_rfl) (st_val hr)) (by kernel_rfl) ?_
        refine ⟨hW.tail, ?_⟩
        refine wpAnyH_all (rs := [6]) (by kernel_rfl) (by simp) ?_
        refine all_cons ?_ all_nil
        refine op_call rfl (th_Get (⟨t.pc, t.fu, t.st, t.R, t.kd, t.mi, t.mn, r7.s, r7.b, r7.n, t.old⟩ : Th) c W6q11) (by kernel_rfl) (by kernel_rfl) ?_
        rintro _ W6q6 ⟨rfl, hB⟩
        have hW := hW.step hB
        have hK7 := hK7.below hB
        refine ⟨_, (tll_a482 t a b c n g1 g3 g5 r7 sn9 g4q8 g4q9 g6q11), rfl, by (try subst e7); kernel_rfl, ?_⟩
        refine ⟨hW.tail, ?_⟩
        refine wpAnyH_all (rs := [7]) (by kernel_rfl) (by simp) ?_
        refine all_cons ?_ all_nil
        refine op_call rfl (arith_is 7 (getR t.R b 0) (getR t.R b 1) (getR t.R b 2) (getR t.R c 0) (getR t.R c 1) (getR t.R c 2) (by omega) false hz W6q6) (by kernel_rfl) (by kernel_rfl) ?_
        rintro _ W6q7 ⟨rfl, hB⟩
        have hW := hW.step hB
        have hK7 := hK7.below hB
        refine ⟨_, (tll_a512 t a b c n g1 g3 g5 r7 sn9 g4q8 g4q9 g6q11), rfl, by (try subst e7); kernel_rfl, ?_⟩
        refine ⟨hW.tail, ?_⟩
        refine dk (a' := (tll_a513 t a b c n g1 g3 g5 r7 sn9 g4q8 g4q9 g6q11)) 8 (.tuple #[.agg #[.int .i64 ((arithF 7 (getR t.R b 0) (getR t.R c 0)).1), .int .i64 0, .int .i64 0], .bool false]) hW.tail ?_
        refine de (a' := (tll_a514 t a b c n g1 g3 g5 r7 sn9 g4q8 g4q9 g6q11)) 9 (.agg #[.int .i64 ((arithF 7 (getR t.R b 0) (getR t.R c 0)).1), .int .i64 0, .int .i64 0]) rfl (fun W hH => by kernel_rfl) hW.tail ?_
        refine de (a' := (tll_a509 t a b c n g1 g3 g5 r7 sn9 g4q8 g4q9 g6q11)) 10 (.bool false) rfl (fun W hH => by kernel_rfl) hW.tail ?_
        refine wpAnyH_all (rs := [12]) (by kernel_rfl) (by simp) ?_
        refine all_cons ?_ all_nil
        obtain ⟨W6q12, hr, hW, hF⟩ := hW.storeN (P := Try.prog) (o := 0) (cs' := #[.int .i64 ((arithF 7 (getR t.R b 0) (getR t.R c 0)).1), .int .i64 0, .int .i64 0]) (L' := [(g6q11, 25, #[.int .i64 ((arithF 7 (getR t.R b 0) (getR t.R c 0)).1), .int .i64 0, .int .i64 0]), (g4q9, 25, #[.int .i64 (getR t.R b 0), .int .i64 (getR t.R b 1), .int .i64 (getR t.R b 2)]), (g4q8, 25, #[.int .i64 (getR t.R a 0), .int .i64 (getR t.R a 1), .int .i64 (getR t.R a 2)]), (g5, 32, tll_c1), (g3, 45, #[.int .i64 7, .int .i64 a, .int .i64 b, .int .i64 c, .int .i64 n]), (g1, 32, (tll_c2 t r7))]) 0 rfl #[.int .i64 ((arithF 7 (getR t.R b 0) (getR t.R c 0)).1), .int .i64 0, .int .i64 0] (by (try subst e7); kernel_rfl) (Nat.le_of_ble_eq_true rfl) (by kernel_rfl) rfl 25 (by kernel_rfl)
        have hK7 := hK7.store hF (.inr hK7_g6q11)
        refine op_none (w' := W6q12) (a' := (tll_a509 t a b c n g1 g3 g5 r7 sn9 g4q8 g4q9 g6q11)) rfl (by kernel_rfl) (Eq.trans (b := (do Instr.storeAt 25 (.pointer (some ⟨g6q11, 0, none⟩)) (.agg #[.int .i64 ((arithF 7 (getR t.R b 0) (getR t.R c 0)).1), .int .i64 0, .int .i64 0]); pure Next.skip : Sem Next).run Try.prog W6q7) (by kernel_rfl) (st_unit hr)) (by kernel_rfl) ?_
        refine ⟨hW.tail, ?_⟩
        refine dk (a' := (tll_a510 t a b c n g1 g3 g5 r7 sn9 g4q8 g4q9 g6q11)) 13 (.bool false) hW.tail ?_
        refine wpAnyH_done (by kernel_rfl) ?_ _
        simp only [Exit.then]
        exact ⟨g6q11, rfl, hW, hK7, hK7_g6q11⟩
      rintro _ Wm6 ⟨g6q11, rfl, hW, hK7, hK7_g6q11⟩
      refine wp_seq ?_
      refine wp_seq ?_
      refine wp_region_list ?_
      refine sk (a' := (tll_a515 t a b c n g1 g3 g5 r7 sn9 g4q8 g4q9 g6q11)) (.bool false) ?_
      refine sk (a' := (tll_a517 t a b c n g1 g3 g5 r7 sn9 g4q8 g4q9 g6q11)) (.bool true) ?_
      refine wpList_nil ?_
      refine wp_cond (t := true) (by kernel_rfl) ?_
      refine wp_seq ?_
      refine wp_region_list ?_
      refine sk (a' := (tll_a519 t a b c n g1 g3 g5 r7 sn9 g4q8 g4q9 g6q11)) (.pointer (some ⟨g1, 2, none⟩)) ?_
      obtain ⟨W11, hr, hW, hF⟩ := hW.store1 (P := Try.prog) (o := 2) (cs' := (tll_c3 t r7)) (L' := [(g6q11, 25, #[.int .i64 ((arithF 7 (getR t.R b 0) (getR t.R c 0)).1), .int .i64 0, .int .i64 0]), (g4q9, 25, #[.int .i64 (getR t.R b 0), .int .i64 (getR t.R b 1), .int .i64 (getR t.R b 2)]), (g4q8, 25, #[.int .i64 (getR t.R a 0), .int .i64 (getR t.R a 1), .int .i64 (getR t.R a 2)]), (g5, 32, tll_c1), (g3, 45, #[.int .i64 7, .int .i64 a, .int .i64 b, .int .i64 c, .int .i64 n]), (g1, 32, (tll_c3 t r7))]) 5 rfl (.int .i64 1) rfl (Nat.le_of_ble_eq_true rfl) (by rfl) rfl 3 (by kernel_rfl)
      have hK7 := hK7.store hF (.inl hK7_g1)
      refine st_none (w' := W11) (a' := (tll_a519 t a b c n g1 g3 g5 r7 sn9 g4q8 g4q9 g6q11)) (by kernel_rfl) (Eq.trans (b := (do Instr.storeAt 3 (.pointer (some ⟨g1, 2, none⟩)) (.int .i64 1); pure Next.skip : Sem Next).run Try.prog Wm6) (by kernel_rfl) (st_unit hr)) (by kernel_rfl) ?_
      refine wpList_nil ?_
      refine wp_exit ?_
      refine wp_seq ?_
      refine wp_region_list ?_
      refine se (a' := (tll_a521 t a b c n g1 g3 g5 r7 sn9 g4q8 g4q9 g6q11)) (.agg (tll_c3 t r7)) (evA hW 5 0 Try.underlying32) ?_
      obtain ⟨W12, hr, hW, hF⟩ := hW.storeN (P := Try.prog) (o := 0) (cs' := (tll_c3 t r7)) (L' := [(g6q11, 25, #[.int .i64 ((arithF 7 (getR t.R b 0) (getR t.R c 0)).1), .int .i64 0, .int .i64 0]), (g4q9, 25, #[.int .i64 (getR t.R b 0), .int .i64 (getR t.R b 1), .int .i64 (getR t.R b 2)]), (g4q8, 25, #[.int .i64 (getR t.R a 0), .int .i64 (getR t.R a 1), .int .i64 (getR t.R a 2)]), (g5, 32, (tll_c3 t r7)), (g3, 45, #[.int .i64 7, .int .i64 a, .int .i64 b, .int .i64 c, .int .i64 n]), (g1, 32, (tll_c3 t r7))]) 3 rfl (tll_c3 t r7) (by (try subst e7); kernel_rfl) (Nat.le_of_ble_eq_true rfl) (by kernel_rfl) rfl 32 (by kernel_rfl)
      have hK7 := hK7.store hF (.inl hK7_g5)
      refine st_none (w' := W12) (a' := (tll_a521 t a b c n g1 g3 g5 r7 sn9 g4q8 g4q9 g6q11)) (by kernel_rfl) (Eq.trans (b := (do Instr.storeAt 32 (.pointer (some ⟨g5, 0, none⟩)) (.agg (tll_c3 t r7)); pure Next.skip : Sem Next).run Try.prog W11) (by kernel_rfl) (st_unit hr)) (by kernel_rfl) ?_
      refine sk (a' := (tll_a522 t a b c n g1 g3 g5 r7 sn9 g4q8 g4q9 g6q11)) (.bool true) ?_
      refine wpList_nil ?_
      refine wp_ret ?_
      (try simp only [Exit.then, Exit.inBlock])
      change bodyPost Try.prog Try.f21 _ .ret _ _
      refine bodyPost_ret (results_ct rfl _ _ g5 32 _ (0, 0) _ (by kernel_rfl) (hW.blk 3 _ _ _ rfl).1 Try.underlying32 rfl (by kernel_rfl)) rfl ?_
      have hloc : localT t 7 a b c n = ({ t with st := 1 }, true) := (Eq.trans (b := ((if (arithF 7 (getR t.R b 0) (getR t.R c 0)).2 = true then { t with R := setR t.R a (arithF 7 (getR t.R b 0) (getR t.R c 0)).1 0 0 } else { t with st := 1 } : Th), true)) (by kernel_rfl) (by rw [if_neg (by rw [hz]; exact Bool.false_ne_true)]))
      subst e7
      rw [hloc]
      exact ⟨As7, cs7, Ab7, cb7, An7, cn7, rfl, ⟨Kd.R_lower (hK7.R hO7.s) hK7_le, Kd.R_lower (hK7.R hO7.b) hK7_le, Kd.R_lower (hK7.R hO7.n) hK7_le⟩, hW.below⟩
end Go.Proofs.Ythcmcekjgecnhaa.Th
