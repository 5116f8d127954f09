/- What thread.Local answers. No condition beside those that each theorem names. -/
import Derived.Test.YthcmcekjgecnhaaTlF
namespace Go.Proofs.Ythcmcekjgecnhaa.Th
open Go.RowKit Go.Proofs.YthcmcekjgecnhaaW.PrintWords Go.Proofs.YthcmcekjgecnhaaW.PrintLast
open Go.Proofs.YthcmcekjgecnhaaW.HWords Go.Proofs.Ythcmcekjgecnhaa.QThreadLocals
set_option linter.unusedVariables false
set_option linter.unusedSimpArgs false
set_option maxHeartbeats 8000000 in
set_option maxRecDepth 100000 in
theorem th_Local {w : World} {t : Th} {xs : List Int} {bs : List S42} {ns : List Int} (h : t.reads w xs bs ns) (hl : xs.length ≤ 1000 ∧ bs.length ≤ 1000 ∧ ns.length ≤ 1000) (op a b c n : Int) : Calls Try.prog 21 #[.agg t.cells, .agg #[.int .i64 op, .int .i64 a, .int .i64 b, .int .i64 c, .int .i64 n]] w fun e w' => ∃ As cs Ab cb An cn, e = .returned (.tuple #[.agg ((localT t op a b c n).1.rows (.slice As xs.length cs) (.slice Ab bs.length cb) (.slice An ns.length cn)).cells, .bool (localT t op a b c n).2]) ∧ ((localT t op a b c n).1.rows (.slice As xs.length cs) (.slice Ab bs.length cb) (.slice An ns.length cn)).owns w' w.heap.size xs bs ns ∧ Below w.heap.size w w' := by
  have hc : (op < 1 ∨ 25 < op) ∨ (11 ≤ op ∧ op ≤ 25 ∧ op ≠ 17) ∨ op = 17 ∨ (1 ≤ op ∧ op ≤ 10) := by omega
  have hq : 1 ≤ op ∧ op ≤ 10 → op = 1 ∨ op = 2 ∨ op = 3 ∨ op = 8 ∨ (op = 9 ∧ getR t.R a 0 = 0) ∨ (op = 9 ∧ getR t.R a 0 ≠ 0) ∨ (op = 10 ∧ (getR t.R a 0 == getR t.R b 0) = true) ∨ (op = 10 ∧ (getR t.R a 0 == getR t.R b 0) = false) ∨ (op = 7 ∧ (arithF 7 (getR t.R b 0) (getR t.R c 0)).2 = false) ∨ ((4 ≤ op ∧ op ≤ 7) ∧ (arithF op (getR t.R b 0) (getR t.R c 0)).2 = true) := by
    intro h
    have h1 : (getR t.R a 0 == getR t.R b 0) = true ∨ (getR t.R a 0 == getR t.R b 0) = false := by cases (getR t.R a 0 == getR t.R b 0) <;> simp
    have h2 : (arithF 7 (getR t.R b 0) (getR t.R c 0)).2 = true ∨ (arithF 7 (getR t.R b 0) (getR t.R c 0)).2 = false := by cases (arithF 7 (getR t.R b 0) (getR t.R c 0)).2 <;> simp
    have h3 : op = 1 ∨ op = 2 ∨ op = 3 ∨ op = 4 ∨ op = 5 ∨ op = 6 ∨ op = 7 ∨ op = 8 ∨ op = 9 ∨ op = 10 := by omega
    rcases h3 with rfl | rfl | rfl | rfl | rfl | rfl | rfl | rfl | rfl | rfl
    · exact .inl rfl
    · exact .inr (.inl rfl)
    · exact .inr (.inr (.inl rfl))
    · exact .inr (.inr (.inr (.inr (.inr (.inr (.inr (.inr (.inr (⟨by omega, rfl⟩)))))))))
    · exact .inr (.inr (.inr (.inr (.inr (.inr (.inr (.inr (.inr (⟨by omega, rfl⟩)))))))))
    · exact .inr (.inr (.inr (.inr (.inr (.inr (.inr (.inr (.inr (⟨by omega, rfl⟩)))))))))
    · rcases h2 with h2 | h2
      · exact .inr (.inr (.inr (.inr (.inr (.inr (.inr (.inr (.inr (⟨by omega, h2⟩)))))))))
      · exact .inr (.inr (.inr (.inr (.inr (.inr (.inr (.inr (.inl ⟨rfl, h2⟩))))))))
    · exact .inr (.inr (.inr (.inl rfl)))
    · by_cases h4 : getR t.R a 0 = 0
      · exact .inr (.inr (.inr (.inr (.inl ⟨rfl, h4⟩))))
      · exact .inr (.inr (.inr (.inr (.inr (.inl ⟨rfl, h4⟩)))))
    · rcases h1 with h1 | h1
      · exact .inr (.inr (.inr (.inr (.inr (.inr (.inl ⟨rfl, h1⟩))))))
      · exact .inr (.inr (.inr (.inr (.inr (.inr (.inr (.inl ⟨rfl, h1⟩)))))))
  rcases hc with hop | hop | rfl | hop
  · skip
    refine calls_of_wp Try.func21 rfl ?_
    have hW := Ws.nil w
    refine wp_seq ?_
    refine wp_region_list ?_
    obtain ⟨g1, W2, hr, hW, hbb, hge⟩ := hW.mk1 (P := Try.prog) (s := Instr.box 32 (.agg (tlz_c0 t))) (tlz_c0 t) 32 (by kernel_rfl)
    refine se (a' := (up (tlz_b4 t op a b c n g1) [])) (.pointer (some ⟨g1, 0, none⟩)) (Eq.trans (b := (do pure (Next.value (← Instr.box 32 (.agg (tlz_c0 t)))) : Sem Next).run Try.prog w) (by kernel_rfl) (st_val hr)) ?_
    obtain ⟨g3, W4, hr, hW, hbb, hge⟩ := hW.mk1 (P := Try.prog) (s := Instr.box 45 (.agg #[.int .i64 op, .int .i64 a, .int .i64 b, .int .i64 c, .int .i64 n])) #[.int .i64 op, .int .i64 a, .int .i64 b, .int .i64 c, .int .i64 n] 45 (by kernel_rfl)
    refine se (a' := (up (tlz_b4 t op a b c n g1) [(3, .pointer (some ⟨g3, 0, none⟩))])) (.pointer (some ⟨g3, 0, none⟩)) (Eq.trans (b := (do pure (Next.value (← Instr.box 45 (.agg #[.int .i64 op, .int .i64 a, .int .i64 b, .int .i64 c, .int .i64 n]))) : Sem Next).run Try.prog W2) (by kernel_rfl) (st_val hr)) ?_
    obtain ⟨g5, W6, hr, hW, hbb, hge⟩ := hW.mk1 (P := Try.prog) (s := Instr.alloc 32 true (.tuple #[])) tlz_c1 32 (by kernel_rfl)
    refine se (a' := (up (tlz_b4 t op a b c n g1) [(3, .pointer (some ⟨g3, 0, none⟩)), (4, .pointer (some ⟨g5, 0, none⟩))])) (.pointer (some ⟨g5, 0, none⟩)) (Eq.trans (b := (do pure (Next.value (← Instr.alloc 32 true (.tuple #[]))) : Sem Next).run Try.prog W4) (by kernel_rfl) (st_val hr)) ?_
    refine sk (a' := (up (tlz_b4 t op a b c n g1) [(3, .pointer (some ⟨g3, 0, none⟩)), (4, .pointer (some ⟨g5, 0, none⟩)), (5, .bool false)])) (.bool false) ?_
    refine wpList_nil ?_
    refine wp_seq ?_
    refine wp_region_list ?_
    refine se (a' := (up (tlz_b4 t op a b c n g1) [(3, .pointer (some ⟨g3, 0, none⟩)), (4, .pointer (some ⟨g5, 0, none⟩)), (5, .bool false), (10, .agg (tlz_c0 t))])) (.agg (tlz_c0 t)) (evA hW 2 0 Try.underlying32) ?_
    have hK7_g5 : g5 < W6.heap.size := blk_lt (hW.blk 0 _ _ _ rfl).1
    have hK7_g3 : g3 < W6.heap.size := blk_lt (hW.blk 1 _ _ _ rfl).1
    have hK7_g1 : g1 < W6.heap.size := blk_lt (hW.blk 2 _ _ _ rfl).1
    have hK7_le : w.heap.size ≤ W6.heap.size := hW.below.size
    refine st_call (th_Clone (t := (⟨t.pc, t.fu, t.st, t.R, t.kd, t.mi, t.mn, t.sv, t.bv, t.nv, t.old⟩ : Th)) (xs := xs) (bs := bs) (ns := ns) ⟨h.s.below hW.below, h.b.below hW.below, h.n.below hW.below⟩ hl) (by kernel_rfl) (by kernel_rfl) ?_
    rintro _ W7 ⟨As7, cs7, Ab7, cb7, An7, cn7, rfl, hO7, hB⟩
    have hW := hW.step hB
    have hK7 := KeepUp.refl W6.heap.size W7
    obtain ⟨r7, e7⟩ : ∃ r : Rw, r = ⟨.slice As7 xs.length cs7, .slice Ab7 bs.length cb7, .slice An7 ns.length cn7⟩ := ⟨_, rfl⟩
    refine ⟨_, (up (tlz_b4 t op a b c n g1) [(3, .pointer (some ⟨g3, 0, none⟩)), (4, .pointer (some ⟨g5, 0, none⟩)), (5, .bool false), (10, .agg (tlz_c0 t)), (11, .agg (tlz_c2 t r7))]), rfl, by (try subst e7); kernel_rfl, ?_⟩
    obtain ⟨W8, hr, hW, hF⟩ := hW.storeN (P := Try.prog) (o := 0) (cs' := (tlz_c2 t r7)) (L' := [(g5, 32, tlz_c1), (g3, 45, #[.int .i64 op, .int .i64 a, .int .i64 b, .int .i64 c, .int .i64 n]), (g1, 32, (tlz_c2 t r7))]) 2 rfl (tlz_c2 t r7) (by (try subst e7); kernel_rfl) (Nat.le_of_ble_eq_true rfl) (by kernel_rfl) rfl 32 (by kernel_rfl)
    have hK7 := hK7.store hF (.inl hK7_g1)
    refine st_none (w' := W8) (a' := (up (tlz_b4 t op a b c n g1) [(3, .pointer (some ⟨g3, 0, none⟩)), (4, .pointer (some ⟨g5, 0, none⟩)), (5, .bool false), (10, .agg (tlz_c0 t)), (11, .agg (tlz_c2 t r7))])) (by kernel_rfl) (Eq.trans (b := (do Instr.storeAt 32 (.pointer (some ⟨g1, 0, none⟩)) (.agg (tlz_c2 t r7)); pure Next.skip : Sem Next).run Try.prog W7) (by kernel_rfl) (st_unit hr)) (by kernel_rfl) ?_
    refine wpList_nil ?_
    refine wp_seq ?_
    refine wp_seq ?_
    refine wp_region_list ?_
    refine skp (.pointer (some ⟨g3, 0, none⟩)) ?_
    refine se (a' := (up (tlz_b8 t op a b c n g1 g3 g5 r7) [(13, .int .i64 op)])) (.int .i64 op) (ev1 hW 1 0 Try.underlying3) ?_
    refine st_call (name_no op (by omega) W8) (by kernel_rfl) (by kernel_rfl) ?_
    rintro _ W9 ⟨rfl, hB⟩
    have hW := hW.step hB
    have hK7 := hK7.below hB
    refine ⟨_, (up (tlz_b8 t op a b c n g1 g3 g5 r7) [(13, .int .i64 op), (14, .string ⟨#[]⟩)]), rfl, by (try subst e7); kernel_rfl, ?_⟩
    refine skp (.bool true) ?_
    refine st_ones (w' := W9) (a' := (up (tlz_b8 t op a b c n g1 g3 g5 r7) [(13, .int .i64 op), (14, .string ⟨#[]⟩), (15, .bool true), (16, .bool true)])) (a2 := (up (tlz_b8 t op a b c n g1 g3 g5 r7) [(13, .int .i64 op), (14, .string ⟨#[]⟩), (15, .bool true), (16, .bool true)])) 3 (.bool true) (by kernel_rfl) (by kernel_rfl) (by kernel_rfl) (by kernel_rfl) (by kernel_rfl) ?_
    refine skp (.bool true) ?_
    refine st_ones (w' := W9) (a' := (up (tlz_b11 t op a b c n g1 g3 g5 r7) [])) (a2 := (up (tlz_b11 t op a b c n g1 g3 g5 r7) [])) 3 (.bool true) (by kernel_rfl) (by kernel_rfl) (by kernel_rfl) (by kernel_rfl) (by kernel_rfl) ?_
    refine sk (a' := (up (tlz_b11 t op a b c n g1 g3 g5 r7) [(25, .bool true)])) (.bool true) ?_
    refine wpList_nil ?_
    refine wp_cond (t := true) (by kernel_rfl) ?_
    refine wp_seq ?_
    refine wp_region_list ?_
    refine se (a' := (up (tlz_b11 t op a b c n g1 g3 g5 r7) [(25, .bool true), (26, .agg (tlz_c2 t r7))])) (.agg (tlz_c2 t r7)) (evA hW 2 0 Try.underlying32) ?_
    obtain ⟨W10, hr, hW, hF⟩ := hW.storeN (P := Try.prog) (o := 0) (cs' := (tlz_c2 t r7)) (L' := [(g5, 32, (tlz_c2 t r7)), (g3, 45, #[.int .i64 op, .int .i64 a, .int .i64 b, .int .i64 c, .int .i64 n]), (g1, 32, (tlz_c2 t r7))]) 0 rfl (tlz_c2 t r7) (by (try subst e7); kernel_rfl) (Nat.le_of_ble_eq_true rfl) (by kernel_rfl) rfl 32 (by kernel_rfl)
    have hK7 := hK7.store hF (.inl hK7_g5)
    refine st_none (w' := W10) (a' := (up (tlz_b11 t op a b c n g1 g3 g5 r7) [(25, .bool true), (26, .agg (tlz_c2 t r7))])) (by kernel_rfl) (Eq.trans (b := (do Instr.storeAt 32 (.pointer (some ⟨g5, 0, none⟩)) (.agg (tlz_c2 t r7)); pure Next.skip : Sem Next).run Try.prog W9) (by kernel_rfl) (st_unit hr)) (by kernel_rfl) ?_
    refine sk (a' := (up (tlz_b11 t op a b c n g1 g3 g5 r7) [(25, .bool true), (26, .agg (tlz_c2 t r7))])) (.bool false) ?_
    refine wpList_nil ?_
    refine wp_ret ?_
    (try simp only [Exit.then, Exit.inBlock])
    change bodyPost Try.prog Try.f21 _ .ret _ _
    refine bodyPost_ret (results_ct rfl _ _ g5 32 _ (0, 0) _ (by kernel_rfl) (hW.blk 0 _ _ _ rfl).1 Try.underlying32 rfl (by kernel_rfl)) rfl ?_
    have hloc : localT t op a b c n = (t, false) := (by unfold localT; rw [if_neg (by omega), if_neg (by omega), if_neg (by omega), if_neg (by omega), if_neg (by omega), if_neg (by omega), if_neg (by omega)])
    subst e7
    rw [hloc]
    exact ⟨As7, cs7, Ab7, cb7, An7, cn7, rfl, ⟨Kd.R_lower (hK7.R hO7.s) hK7_le, Kd.R_lower (hK7.R hO7.b) hK7_le, Kd.R_lower (hK7.R hO7.n) hK7_le⟩, hW.below⟩
  · skip
    refine calls_of_wp Try.func21 rfl ?_
    have hW := Ws.nil w
    refine wp_seq ?_
    refine wp_region_list ?_
    obtain ⟨g1, W2, hr, hW, hbb, hge⟩ := hW.mk1 (P := Try.prog) (s := Instr.box 32 (.agg (tls_c0 t))) (tls_c0 t) 32 (by kernel_rfl)
    refine se (a' := (up (tls_b4 t op a b c n g1) [])) (.pointer (some ⟨g1, 0, none⟩)) (Eq.trans (b := (do pure (Next.value (← Instr.box 32 (.agg (tls_c0 t)))) : Sem Next).run Try.prog w) (by kernel_rfl) (st_val hr)) ?_
    obtain ⟨g3, W4, hr, hW, hbb, hge⟩ := hW.mk1 (P := Try.prog) (s := Instr.box 45 (.agg #[.int .i64 op, .int .i64 a, .int .i64 b, .int .i64 c, .int .i64 n])) #[.int .i64 op, .int .i64 a, .int .i64 b, .int .i64 c, .int .i64 n] 45 (by kernel_rfl)
    refine se (a' := (up (tls_b4 t op a b c n g1) [(3, .pointer (some ⟨g3, 0, none⟩))])) (.pointer (some ⟨g3, 0, none⟩)) (Eq.trans (b := (do pure (Next.value (← Instr.box 45 (.agg #[.int .i64 op, .int .i64 a, .int .i64 b, .int .i64 c, .int .i64 n]))) : Sem Next).run Try.prog W2) (by kernel_rfl) (st_val hr)) ?_
    obtain ⟨g5, W6, hr, hW, hbb, hge⟩ := hW.mk1 (P := Try.prog) (s := Instr.alloc 32 true (.tuple #[])) tls_c1 32 (by kernel_rfl)
    refine se (a' := (up (tls_b4 t op a b c n g1) [(3, .pointer (some ⟨g3, 0, none⟩)), (4, .pointer (some ⟨g5, 0, none⟩))])) (.pointer (some ⟨g5, 0, none⟩)) (Eq.trans (b := (do pure (Next.value (← Instr.alloc 32 true (.tuple #[]))) : Sem Next).run Try.prog W4) (by kernel_rfl) (st_val hr)) ?_
    refine sk (a' := (up (tls_b4 t op a b c n g1) [(3, .pointer (some ⟨g3, 0, none⟩)), (4, .pointer (some ⟨g5, 0, none⟩)), (5, .bool false)])) (.bool false) ?_
    refine wpList_nil ?_
    refine wp_seq ?_
    refine wp_region_list ?_
    refine se (a' := (up (tls_b4 t op a b c n g1) [(3, .pointer (some ⟨g3, 0, none⟩)), (4, .pointer (some ⟨g5, 0, none⟩)), (5, .bool false), (10, .agg (tls_c0 t))])) (.agg (tls_c0 t)) (evA hW 2 0 Try.underlying32) ?_
    have hK7_g5 : g5 < W6.heap.size := blk_lt (hW.blk 0 _ _ _ rfl).1
    have hK7_g3 : g3 < W6.heap.size := blk_lt (hW.blk 1 _ _ _ rfl).1
    have hK7_g1 : g1 < W6.heap.size := blk_lt (hW.blk 2 _ _ _ rfl).1
    have hK7_le : w.heap.size ≤ W6.heap.size := hW.below.size
    refine st_call (th_Clone (t := (⟨t.pc, t.fu, t.st, t.R, t.kd, t.mi, t.mn, t.sv, t.bv, t.nv, t.old⟩ : Th)) (xs := xs) (bs := bs) (ns := ns) ⟨h.s.below hW.below, h.b.below hW.below, h.n.below hW.below⟩ hl) (by kernel_rfl) (by kernel_rfl) ?_
    rintro _ W7 ⟨As7, cs7, Ab7, cb7, An7, cn7, rfl, hO7, hB⟩
    have hW := hW.step hB
    have hK7 := KeepUp.refl W6.heap.size W7
    obtain ⟨r7, e7⟩ : ∃ r : Rw, r = ⟨.slice As7 xs.length cs7, .slice Ab7 bs.length cb7, .slice An7 ns.length cn7⟩ := ⟨_, rfl⟩
    refine ⟨_, (up (tls_b4 t op a b c n g1) [(3, .pointer (some ⟨g3, 0, none⟩)), (4, .pointer (some ⟨g5, 0, none⟩)), (5, .bool false), (10, .agg (tls_c0 t)), (11, .agg (tls_c2 t r7))]), rfl, by (try subst e7); kernel_rfl, ?_⟩
    obtain ⟨W8, hr, hW, hF⟩ := hW.storeN (P := Try.prog) (o := 0) (cs' := (tls_c2 t r7)) (L' := [(g5, 32, tls_c1), (g3, 45, #[.int .i64 op, .int .i64 a, .int .i64 b, .int .i64 c, .int .i64 n]), (g1, 32, (tls_c2 t r7))]) 2 rfl (tls_c2 t r7) (by (try subst e7); kernel_rfl) (Nat.le_of_ble_eq_true rfl) (by kernel_rfl) rfl 32 (by kernel_rfl)
    have hK7 := hK7.store hF (.inl hK7_g1)
    refine st_none (w' := W8) (a' := (up (tls_b4 t op a b c n g1) [(3, .pointer (some ⟨g3, 0, none⟩)), (4, .pointer (some ⟨g5, 0, none⟩)), (5, .bool false), (10, .agg (tls_c0 t)), (11, .agg (tls_c2 t r7))])) (by kernel_rfl) (Eq.trans (b := (do Instr.storeAt 32 (.pointer (some ⟨g1, 0, none⟩)) (.agg (tls_c2 t r7)); pure Next.skip : Sem Next).run Try.prog W7) (by kernel_rfl) (st_unit hr)) (by kernel_rfl) ?_
    refine wpList_nil ?_
    refine wp_seq ?_
    refine wp_seq ?_
    refine wp_region_list ?_
    refine skp (.pointer (some ⟨g3, 0, none⟩)) ?_
    refine se (a' := (up (tls_b8 t op a b c n g1 g3 g5 r7) [(13, .int .i64 op)])) (.int .i64 op) (ev1 hW 1 0 Try.underlying3) ?_
    refine st_call (name_yes op (by omega) W8) (by kernel_rfl) (by kernel_rfl) ?_
    rintro _ W9 ⟨sn9, rfl, hs9, hB⟩
    have hW := hW.step hB
    have hK7 := hK7.below hB
    refine ⟨_, (up (tls_b8 t op a b c n g1 g3 g5 r7) [(13, .int .i64 op), (14, .string sn9)]), rfl, by (try subst e7); kernel_rfl, ?_⟩
    refine sep (.bool false) (Eq.trans (b := .ok (.value (.bool (sn9.toList == (⟨#[]⟩ : ByteArray).toList))) W9) (by kernel_rfl) (st_ok hs9)) ?_
    refine sk (a' := (up (tls_b8 t op a b c n g1 g3 g5 r7) [(13, .int .i64 op), (14, .string sn9), (15, .bool false), (16, .bool false)])) (.bool false) ?_
    refine sk (a' := (up (tls_b8 t op a b c n g1 g3 g5 r7) [(13, .int .i64 op), (14, .string sn9), (15, .bool false), (16, .bool false), (17, .pointer (some ⟨g3, 0, none⟩))])) (.pointer (some ⟨g3, 0, none⟩)) ?_
    refine se (a' := (up (tls_b11 t op a b c n g1 g3 g5 r7 sn9) [])) (.int .i64 op) (ev1 hW 1 0 Try.underlying3) ?_
    refine st_call (shares_is op true (by rw [if_pos (by omega)]) W9) (by kernel_rfl) (by kernel_rfl) ?_
    rintro _ W10 ⟨rfl, hB⟩
    have hW := hW.step hB
    have hK7 := hK7.below hB
    refine ⟨_, (up (tls_b11 t op a b c n g1 g3 g5 r7 sn9) [(19, .bool true)]), rfl, by (try subst e7); kernel_rfl, ?_⟩
    refine skp (.bool true) ?_
    refine st_ones (w' := W10) (a' := (up (tls_b11 t op a b c n g1 g3 g5 r7 sn9) [(19, .bool true), (20, .bool true), (21, .bool true)])) (a2 := (up (tls_b11 t op a b c n g1 g3 g5 r7 sn9) [(19, .bool true), (20, .bool true), (21, .bool true)])) 3 (.bool true) (by kernel_rfl) (by kernel_rfl) (by kernel_rfl) (by kernel_rfl) (by kernel_rfl) ?_
    refine sk (a' := (up (tls_b11 t op a b c n g1 g3 g5 r7 sn9) [(19, .bool true), (20, .bool true), (21, .bool true), (25, .bool true)])) (.bool true) ?_
    refine wpList_nil ?_
    refine wp_cond (t := true) (by kernel_rfl) ?_
    refine wp_seq ?_
    refine wp_region_list ?_
    refine se (a' := (up (tls_b11 t op a b c n g1 g3 g5 r7 sn9) [(19, .bool true), (20, .bool true), (21, .bool true), (25, .bool true), (26, .agg (tls_c2 t r7))])) (.agg (tls_c2 t r7)) (evA hW 2 0 Try.underlying32) ?_
    obtain ⟨W11, hr, hW, hF⟩ := hW.storeN (P := Try.prog) (o := 0) (cs' := (tls_c2 t r7)) (L' := [(g5, 32, (tls_c2 t r7)), (g3, 45, #[.int .i64 op, .int .i64 a, .int .i64 b, .int .i64 c, .int .i64 n]), (g1, 32, (tls_c2 t r7))]) 0 rfl (tls_c2 t r7) (by (try subst e7); kernel_rfl) (Nat.le_of_ble_eq_true rfl) (by kernel_rfl) rfl 32 (by kernel_rfl)
    have hK7 := hK7.store hF (.inl hK7_g5)
    refine st_none (w' := W11) (a' := (up (tls_b11 t op a b c n g1 g3 g5 r7 sn9) [(19, .bool true), (20, .bool true), (21, .bool true), (25, .bool true), (26, .agg (tls_c2 t r7))])) (by kernel_rfl) (Eq.trans (b := (do Instr.storeAt 32 (.pointer (some ⟨g5, 0, none⟩)) (.agg (tls_c2 t r7)); pure Next.skip : Sem Next).run Try.prog W10) (by kernel_rfl) (st_unit hr)) (by kernel_rfl) ?_
    refine sk (a' := (up (tls_b11 t op a b c n g1 g3 g5 r7 sn9) [(19, .bool true), (20, .bool true), (21, .bool true), (25, .bool true), (26, .agg (tls_c2 t r7))])) (.bool false) ?_
    refine wpList_nil ?_
    refine wp_ret ?_
    (try simp only [Exit.then, Exit.inBlock])
    change bodyPost Try.prog Try.f21 _ .ret _ _
    refine bodyPost_ret (results_ct rfl _ _ g5 32 _ (0, 0) _ (by kernel_rfl) (hW.blk 0 _ _ _ rfl).1 Try.underlying32 rfl (by kernel_rfl)) rfl ?_
    have hloc : localT t op a b c n = (t, false) := (by unfold localT; rw [if_neg (by omega), if_neg (by omega), if_neg (by omega), if_neg (by omega), if_neg (by omega), if_neg (by omega), if_neg (by omega)])
    subst e7
    rw [hloc]
    exact ⟨As7, cs7, Ab7, cb7, An7, cn7, rfl, ⟨Kd.R_lower (hK7.R hO7.s) hK7_le, Kd.R_lower (hK7.R hO7.b) hK7_le, Kd.R_lower (hK7.R hO7.n) hK7_le⟩, hW.below⟩
  · skip
    refine calls_of_wp Try.func21 rfl ?_
    have hW := Ws.nil w
    refine wp_seq ?_
    refine wp_region_list ?_
    obtain ⟨g1, W2, hr, hW, hbb, hge⟩ := hW.mk1 (P := Try.prog) (s := Instr.box 32 (.agg (tlf_c0 t))) (tlf_c0 t) 32 (by kernel_rfl)
    refine se (a' := (up (tlf_b4 t a b c n g1) [])) (.pointer (some ⟨g1, 0, none⟩)) (Eq.trans (b := (do pure (Next.value (← Instr.box 32 (.agg (tlf_c0 t)))) : Sem Next).run Try.prog w) (by kernel_rfl) (st_val hr)) ?_
    obtain ⟨g3, W4, hr, hW, hbb, hge⟩ := hW.mk1 (P := Try.prog) (s := Instr.box 45 (.agg #[.int .i64 17, .int .i64 a, .int .i64 b, .int .i64 c, .int .i64 n])) #[.int .i64 17, .int .i64 a, .int .i64 b, .int .i64 c, .int .i64 n] 45 (by kernel_rfl)
    refine se (a' := (up (tlf_b4 t a b c n g1) [(3, .pointer (some ⟨g3, 0, none⟩))])) (.pointer (some ⟨g3, 0, none⟩)) (Eq.trans (b := (do pure (Next.value (← Instr.box 45 (.agg #[.int .i64 17, .int .i64 a, .int .i64 b, .int .i64 c, .int .i64 n]))) : Sem Next).run Try.prog W2) (by kernel_rfl) (st_val hr)) ?_
    obtain ⟨g5, W6, hr, hW, hbb, hge⟩ := hW.mk1 (P := Try.prog) (s := Instr.alloc 32 true (.tuple #[])) tlf_c1 32 (by kernel_rfl)
    refine se (a' := (up (tlf_b4 t a b c n g1) [(3, .pointer (some ⟨g3, 0, none⟩)), (4, .pointer (some ⟨g5, 0, none⟩))])) (.pointer (some ⟨g5, 0, none⟩)) (Eq.trans (b := (do pure (Next.value (← Instr.alloc 32 true (.tuple #[]))) : Sem Next).run Try.prog W4) (by kernel_rfl) (st_val hr)) ?_
    refine sk (a' := (up (tlf_b4 t a b c n g1) [(3, .pointer (some ⟨g3, 0, none⟩)), (4, .pointer (some ⟨g5, 0, none⟩)), (5, .bool false)])) (.bool false) ?_
    refine wpList_nil ?_
    refine wp_seq ?_
    refine wp_region_list ?_
    refine se (a' := (up (tlf_b4 t a b c n g1) [(3, .pointer (some ⟨g3, 0, none⟩)), (4, .pointer (some ⟨g5, 0, none⟩)), (5, .bool false), (10, .agg (tlf_c0 t))])) (.agg (tlf_c0 t)) (evA hW 2 0 Try.underlying32) ?_
    have hK7_g5 : g5 < W6.heap.size := blk_lt (hW.blk 0 _ _ _ rfl).1
    have hK7_g3 : g3 < W6.heap.size := blk_lt (hW.blk 1 _ _ _ rfl).1
    have hK7_g1 : g1 < W6.heap.size := blk_lt (hW.blk 2 _ _ _ rfl).1
    have hK7_le : w.heap.size ≤ W6.heap.size := hW.below.size
    refine st_call (th_Clone (t := (⟨t.pc, t.fu, t.st, t.R, t.kd, t.mi, t.mn, t.sv, t.bv, t.nv, t.old⟩ : Th)) (xs := xs) (bs := bs) (ns := ns) ⟨h.s.below hW.below, h.b.below hW.below, h.n.below hW.below⟩ hl) (by kernel_rfl) (by kernel_rfl) ?_
    rintro _ W7 ⟨As7, cs7, Ab7, cb7, An7, cn7, rfl, hO7, hB⟩
    have hW := hW.step hB
    have hK7 := KeepUp.refl W6.heap.size W7
    obtain ⟨r7, e7⟩ : ∃ r : Rw, r = ⟨.slice As7 xs.length cs7, .slice Ab7 bs.length cb7, .slice An7 ns.length cn7⟩ := ⟨_, rfl⟩
    refine ⟨_, (up (tlf_b4 t a b c n g1) [(3, .pointer (some ⟨g3, 0, none⟩)), (4, .pointer (some ⟨g5, 0, none⟩)), (5, .bool false), (10, .agg (tlf_c0 t)), (11, .agg (tlf_c2 t r7))]), rfl, by (try subst e7); kernel_rfl, ?_⟩
    obtain ⟨W8, hr, hW, hF⟩ := hW.storeN (P := Try.prog) (o := 0) (cs' := (tlf_c2 t r7)) (L' := [(g5, 32, tlf_c1), (g3, 45, #[.int .i64 17, .int .i64 a, .int .i64 b, .int .i64 c, .int .i64 n]), (g1, 32, (tlf_c2 t r7))]) 2 rfl (tlf_c2 t r7) (by (try subst e7); kernel_rfl) (Nat.le_of_ble_eq_true rfl) (by kernel_rfl) rfl 32 (by kernel_rfl)
    have hK7 := hK7.store hF (.inl hK7_g1)
    refine st_none (w' := W8) (a' := (up (tlf_b4 t a b c n g1) [(3, .pointer (some ⟨g3, 0, none⟩)), (4, .pointer (some ⟨g5, 0, none⟩)), (5, .bool false), (10, .agg (tlf_c0 t)), (11, .agg (tlf_c2 t r7))])) (by kernel_rfl) (Eq.trans (b := (do Instr.storeAt 32 (.pointer (some ⟨g1, 0, none⟩)) (.agg (tlf_c2 t r7)); pure Next.skip : Sem Next).run Try.prog W7) (by kernel_rfl) (st_unit hr)) (by kernel_rfl) ?_
    refine wpList_nil ?_
    refine wp_seq ?_
    refine wp_seq ?_
    refine wp_region_list ?_
    refine skp (.pointer (some ⟨g3, 0, none⟩)) ?_
    refine se (a' := (up (tlf_b8 t a b c n g1 g3 g5 r7) [(13, .int .i64 17)])) (.int .i64 17) (ev1 hW 1 0 Try.underlying3) ?_
    refine st_call (name_yes 17 (by omega) W8) (by kernel_rfl) (by kernel_rfl) ?_
    rintro _ W9 ⟨sn9, rfl, hs9, hB⟩
    have hW := hW.step hB
    have hK7 := hK7.below hB
    refine ⟨_, (up (tlf_b8 t a b c n g1 g3 g5 r7) [(13, .int .i64 17), (14, .string sn9)]), rfl, by (try subst e7); kernel_rfl, ?_⟩
    refine sep (.bool false) (Eq.trans (b := .ok (.value (.bool (sn9.toList == (⟨#[]⟩ : ByteArray).toList))) W9) (by kernel_rfl) (st_ok hs9)) ?_
    refine sk (a' := (up (tlf_b8 t a b c n g1 g3 g5 r7) [(13, .int .i64 17), (14, .string sn9), (15, .bool false), (16, .bool false)])) (.bool false) ?_
    refine sk (a' := (up (tlf_b8 t a b c n g1 g3 g5 r7) [(13, .int .i64 17), (14, .string sn9), (15, .bool false), (16, .bool false), (17, .pointer (some ⟨g3, 0, none⟩))])) (.pointer (some ⟨g3, 0, none⟩)) ?_
    refine se (a' := (up (tlf_b11 t a b c n g1 g3 g5 r7 sn9) [])) (.int .i64 17) (ev1 hW 1 0 Try.underlying3) ?_
    refine st_call (shares_is 17 false (by rw [if_neg (by omega)]) W9) (by kernel_rfl) (by kernel_rfl) ?_
    rintro _ W10 ⟨rfl, hB⟩
    have hW := hW.step hB
    have hK7 := hK7.below hB
    refine ⟨_, (up (tlf_b11 t a b c n g1 g3 g5 r7 sn9) [(19, .bool false)]), rfl, by (try subst e7); kernel_rfl, ?_⟩
    refine skp (.bool false) ?_
    refine sk (a' := (up (tlf_b11 t a b c n g1 g3 g5 r7 sn9) [(19, .bool false), (20, .bool false), (21, .bool false)])) (.bool false) ?_
    refine sk (a' := (up (tlf_b11 t a b c n g1 g3 g5 r7 sn9) [(19, .bool false), (20, .bool false), (21, .bool false), (22, .pointer (some ⟨g3, 0, none⟩))])) (.pointer (some ⟨g3, 0, none⟩)) ?_
    refine se (a' := (up (tlf_b11 t a b c n g1 g3 g5 r7 sn9) [(19, .bool false), (20, .bool false), (21, .bool false), (22, .pointer (some ⟨g3, 0, none⟩)), (23, .int .i64 17)])) (.int .i64 17) (ev1 hW 1 0 Try.underlying3) ?_
    refine skp (.bool true) ?_
    refine sk (a' := (up (tlf_b13 t a b c n g1 g3 g5 r7 sn9) [(25, .bool true)])) (.bool true) ?_
    refine wpList_nil ?_
    refine wp_cond (t := true) (by kernel_rfl) ?_
    refine wp_seq ?_
    refine wp_region_list ?_
    refine se (a' := (up (tlf_b13 t a b c n g1 g3 g5 r7 sn9) [(25, .bool true), (26, .agg (tlf_c2 t r7))])) (.agg (tlf_c2 t r7)) (evA hW 2 0 Try.underlying32) ?_
    obtain ⟨W11, hr, hW, hF⟩ := hW.storeN (P := Try.prog) (o := 0) (cs' := (tlf_c2 t r7)) (L' := [(g5, 32, (tlf_c2 t r7)), (g3, 45, #[.int .i64 17, .int .i64 a, .int .i64 b, .int .i64 c, .int .i64 n]), (g1, 32, (tlf_c2 t r7))]) 0 rfl (tlf_c2 t r7) (by (try subst e7); kernel_rfl) (Nat.le_of_ble_eq_true rfl) (by kernel_rfl) rfl 32 (by kernel_rfl)
    have hK7 := hK7.store hF (.inl hK7_g5)
    refine st_none (w' := W11) (a' := (up (tlf_b13 t a b c n g1 g3 g5 r7 sn9) [(25, .bool true), (26, .agg (tlf_c2 t r7))])) (by kernel_rfl) (Eq.trans (b := (do Instr.storeAt 32 (.pointer (some ⟨g5, 0, none⟩)) (.agg (tlf_c2 t r7)); pure Next.skip : Sem Next).run Try.prog W10) (by kernel_rfl) (st_unit hr)) (by kernel_rfl) ?_
    refine sk (a' := (up (tlf_b13 t a b c n g1 g3 g5 r7 sn9) [(25, .bool true), (26, .agg (tlf_c2 t r7))])) (.bool false) ?_
    refine wpList_nil ?_
    refine wp_ret ?_
    (try simp only [Exit.then, Exit.inBlock])
    change bodyPost Try.prog Try.f21 _ .ret _ _
    refine bodyPost_ret (results_ct rfl _ _ g5 32 _ (0, 0) _ (by kernel_rfl) (hW.blk 0 _ _ _ rfl).1 Try.underlying32 rfl (by kernel_rfl)) rfl ?_
    have hloc : localT t 17 a b c n = (t, false) := (by kernel_rfl)
    subst e7
    rw [hloc]
    exact ⟨As7, cs7, Ab7, cb7, An7, cn7, rfl, ⟨Kd.R_lower (hK7.R hO7.s) hK7_le, Kd.R_lower (hK7.R hO7.b) hK7_le, Kd.R_lower (hK7.R hO7.n) hK7_le⟩, hW.below⟩
  · skip
    refine calls_of_wp Try.func21 rfl ?_
    have hW := Ws.nil w
    refine wp_seq ?_
    refine wp_region_list ?_
    obtain ⟨g1, W2, hr, hW, hbb, hge⟩ := hW.mk1 (P := Try.prog) (s := Instr.box 32 (.agg (tll_c0 t))) (tll_c0 t) 32 (by kernel_rfl)
    refine se (a' := (up (tll_b4 t op a b c n g1) [])) (.pointer (some ⟨g1, 0, none⟩)) (Eq.trans (b := (do pure (Next.value (← Instr.box 32 (.agg (tll_c0 t)))) : Sem Next).run Try.prog w) (by kernel_rfl) (st_val hr)) ?_
    obtain ⟨g3, W4, hr, hW, hbb, hge⟩ := hW.mk1 (P := Try.prog) (s := Instr.box 45 (.agg #[.int .i64 op, .int .i64 a, .int .i64 b, .int .i64 c, .int .i64 n])) #[.int .i64 op, .int .i64 a, .int .i64 b, .int .i64 c, .int .i64 n] 45 (by kernel_rfl)
    refine se (a' := (up (tll_b4 t op a b c n g1) [(3, .pointer (some ⟨g3, 0, none⟩))])) (.pointer (some ⟨g3, 0, none⟩)) (Eq.trans (b := (do pure (Next.value (← Instr.box 45 (.agg #[.int .i64 op, .int .i64 a, .int .i64 b, .int .i64 c, .int .i64 n]))) : Sem Next).run Try.prog W2) (by kernel_rfl) (st_val hr)) ?_
    obtain ⟨g5, W6, hr, hW, hbb, hge⟩ := hW.mk1 (P := Try.prog) (s := Instr.alloc 32 true (.tuple #[])) tll_c1 32 (by kernel_rfl)
    refine se (a' := (up (tll_b4 t op a b c n g1) [(3, .pointer (some ⟨g3, 0, none⟩)), (4, .pointer (some ⟨g5, 0, none⟩))])) (.pointer (some ⟨g5, 0, none⟩)) (Eq.trans (b := (do pure (Next.value (← Instr.alloc 32 true (.tuple #[]))) : Sem Next).run Try.prog W4) (by kernel_rfl) (st_val hr)) ?_
    refine sk (a' := (up (tll_b4 t op a b c n g1) [(3, .pointer (some ⟨g3, 0, none⟩)), (4, .pointer (some ⟨g5, 0, none⟩)), (5, .bool false)])) (.bool false) ?_
    refine wpList_nil ?_
    refine wp_seq ?_
    refine wp_region_list ?_
    refine se (a' := (up (tll_b4 t op a b c n g1) [(3, .pointer (some ⟨g3, 0, none⟩)), (4, .pointer (some ⟨g5, 0, none⟩)), (5, .bool false), (10, .agg (tll_c0 t))])) (.agg (tll_c0 t)) (evA hW 2 0 Try.underlying32) ?_
    have hK7_g5 : g5 < W6.heap.size := blk_lt (hW.blk 0 _ _ _ rfl).1
    have hK7_g3 : g3 < W6.heap.size := blk_lt (hW.blk 1 _ _ _ rfl).1
    have hK7_g1 : g1 < W6.heap.size := blk_lt (hW.blk 2 _ _ _ rfl).1
    have hK7_le : w.heap.size ≤ W6.heap.size := hW.below.size
    refine st_call (th_Clone (t := (⟨t.pc, t.fu, t.st, t.R, t.kd, t.mi, t.mn, t.sv, t.bv, t.nv, t.old⟩ : Th)) (xs := xs) (bs := bs) (ns := ns) ⟨h.s.below hW.below, h.b.below hW.below, h.n.below hW.below⟩ hl) (by kernel_rfl) (by kernel_rfl) ?_
    rintro _ W7 ⟨As7, cs7, Ab7, cb7, An7, cn7, rfl, hO7, hB⟩
    have hW := hW.step hB
    have hK7 := KeepUp.refl W6.heap.size W7
    obtain ⟨r7, e7⟩ : ∃ r : Rw, r = ⟨.slice As7 xs.length cs7, .slice Ab7 bs.length cb7, .slice An7 ns.length cn7⟩ := ⟨_, rfl⟩
    refine ⟨_, (up (tll_b4 t op a b c n g1) [(3, .pointer (some ⟨g3, 0, none⟩)), (4, .pointer (some ⟨g5, 0, none⟩)), (5, .bool false), (10, .agg (tll_c0 t)), (11, .agg (tll_c2 t r7))]), rfl, by (try subst e7); kernel_rfl, ?_⟩
    obtain ⟨W8, hr, hW, hF⟩ := hW.storeN (P := Try.prog) (o := 0) (cs' := (tll_c2 t r7)) (L' := [(g5, 32, tll_c1), (g3, 45, #[.int .i64 op, .int .i64 a, .int .i64 b, .int .i64 c, .int .i64 n]), (g1, 32, (tll_c2 t r7))]) 2 rfl (tll_c2 t r7) (by (try subst e7); kernel_rfl) (Nat.le_of_ble_eq_true rfl) (by kernel_rfl) rfl 32 (by kernel_rfl)
    have hK7 := hK7.store hF (.inl hK7_g1)
    refine st_none (w' := W8) (a' := (up (tll_b4 t op a b c n g1) [(3, .pointer (some ⟨g3, 0, none⟩)), (4, .pointer (some ⟨g5, 0, none⟩)), (5, .bool false), (10, .agg (tll_c0 t)), (11, .agg (tll_c2 t r7))])) (by kernel_rfl) (Eq.trans (b := (do Instr.storeAt 32 (.pointer (some ⟨g1, 0, none⟩)) (.agg (tll_c2 t r7)); pure Next.skip : Sem Next).run Try.prog W7) (by kernel_rfl) (st_unit hr)) (by kernel_rfl) ?_
    refine wpList_nil ?_
    refine wp_seq ?_
    refine wp_seq ?_
    refine wp_region_list ?_
    refine skp (.pointer (some ⟨g3, 0, none⟩)) ?_
    refine se (a' := (up (tll_b8 t op a b c n g1 g3 g5 r7) [(13, .int .i64 op)])) (.int .i64 op) (ev1 hW 1 0 Try.underlying3) ?_
    refine st_call (name_yes op (by omega) W8) (by kernel_rfl) (by kernel_rfl) ?_
    rintro _ W9 ⟨sn9, rfl, hs9, hB⟩
    have hW := hW.step hB
    have hK7 := hK7.below hB
    refine ⟨_, (up (tll_b8 t op a b c n g1 g3 g5 r7) [(13, .int .i64 op), (14, .string sn9)]), rfl, by (try subst e7); kernel_rfl, ?_⟩
    refine sep (.bool false) (Eq.trans (b := .ok (.value (.bool (sn9.toList == (⟨#[]⟩ : ByteArray).toList))) W9) (by kernel_rfl) (st_ok hs9)) ?_
    refine sk (a' := (up (tll_b8 t op a b c n g1 g3 g5 r7) [(13, .int .i64 op), (14, .string sn9), (15, .bool false), (16, .bool false)])) (.bool false) ?_
    refine sk (a' := (up (tll_b8 t op a b c n g1 g3 g5 r7) [(13, .int .i64 op), (14, .string sn9), (15, .bool false), (16, .bool false), (17, .pointer (some ⟨g3, 0, none⟩))])) (.pointer (some ⟨g3, 0, none⟩)) ?_
    refine se (a' := (up (tll_b11 t op a b c n g1 g3 g5 r7 sn9) [])) (.int .i64 op) (ev1 hW 1 0 Try.underlying3) ?_
    refine st_call (shares_is op false (by rw [if_neg (by omega)]) W9) (by kernel_rfl) (by kernel_rfl) ?_
    rintro _ W10 ⟨rfl, hB⟩
    have hW := hW.step hB
    have hK7 := hK7.below hB
    refine ⟨_, (up (tll_b11 t op a b c n g1 g3 g5 r7 sn9) [(19, .bool false)]), rfl, by (try subst e7); kernel_rfl, ?_⟩
    refine skp (.bool false) ?_
    refine sk (a' := (up (tll_b11 t op a b c n g1 g3 g5 r7 sn9) [(19, .bool false), (20, .bool false), (21, .bool false)])) (.bool false) ?_
    refine sk (a' := (up (tll_b11 t op a b c n g1 g3 g5 r7 sn9) [(19, .bool false), (20, .bool false), (21, .bool false), (22, .pointer (some ⟨g3, 0, none⟩))])) (.pointer (some ⟨g3, 0, none⟩)) ?_
    refine se (a' := (up (tll_b11 t op a b c n g1 g3 g5 r7 sn9) [(19, .bool false), (20, .bool false), (21, .bool false), (22, .pointer (some ⟨g3, 0, none⟩)), (23, .int .i64 op)])) (.int .i64 op) (ev1 hW 1 0 Try.underlying3) ?_
    refine sep (.bool false) (Eq.trans (b := .ok (.value (.bool ((op : Int) == 17))) W10) (by kernel_rfl) (st_ok (beq_eq_false_iff_ne.2 (by omega)))) ?_
    refine sk (a' := (up (tll_b13 t op a b c n g1 g3 g5 r7 sn9) [(25, .bool false)])) (.bool false) ?_
    refine wpList_nil ?_
    refine wp_cond (t := false) (by kernel_rfl) ?_
    refine wp_skip ?_
    refine wp_seq ?_
    have hW := hW.drew
    have hK7 := hK7.below (below_drew (Below.refl _ _))
    refine wp_mid (M := fun a' W' => ∃ g4q8 : Nat, ∃ g4q9 : Nat, a' = (up (tll_b16 t op a b c n g1 g3 g5 r7 sn9) [(6, .pointer (some ⟨g4q8, 0, none⟩)), (7, .pointer (some ⟨g4q9, 0, none⟩)), (30, .agg #[.int .i64 (getR t.R a 0), .int .i64 (getR t.R a 1), .int .i64 (getR t.R a 2)]), (33, .int .i64 b), (34, .agg #[.int .i64 (getR t.R b 0), .int .i64 (getR t.R b 1), .int .i64 (getR t.R b 2)])]) ∧ Ws w W' [(g4q9, 25, #[.int .i64 (getR t.R b 0), .int .i64 (getR t.R b 1), .int .i64 (getR t.R b 2)]), (g4q8, 25, #[.int .i64 (getR t.R a 0), .int .i64 (getR t.R a 1), .int .i64 (getR t.R a 2)]), (g5, 32, tll_c1), (g3, 45, #[.int .i64 op, .int .i64 a, .int .i64 b, .int .i64 c, .int .i64 n]), (g1, 32, (tll_c2 t r7))] ∧ KeepUp W6.heap.size W7 W' ∧ W7.heap.size ≤ g4q8 ∧ W7.heap.size ≤ g4q9) ?_ ?_
    · skip
      refine wp_region_held_drew (S := fun W => Ws w W [(g5, 32, tll_c1), (g3, 45, #[.int .i64 op, .int .i64 a, .int .i64 b, .int .i64 c, .int .i64 n]), (g1, 32, (tll_c2 t r7))]) (by kernel_rfl) hW (fun _ => ?_)
      refine de (a' := (up (tll_b13 t op a b c n g1 g3 g5 r7 sn9) [(25, .bool false), (27, .agg (tll_c2 t r7))])) 0 (.agg (tll_c2 t r7)) rfl (fun W hH => (evA hH 2 0 Try.underlying32)) hW ?_
      refine dk (a' := (up (tll_b13 t op a b c n g1 g3 g5 r7 sn9) [(25, .bool false), (27, .agg (tll_c2 t r7)), (28, .pointer (some ⟨g3, 1, none⟩))])) 1 (.pointer (some ⟨g3, 1, none⟩)) hW ?_
      refine de (a' := (up (tll_b13 t op a b c n g1 g3 g5 r7 sn9) [(25, .bool false), (27, .agg (tll_c2 t r7)), (28, .pointer (some ⟨g3, 1, none⟩)), (29, .int .i64 a)])) 2 (.int .i64 a) rfl (fun W hH => (ev1 hH 1 1 Try.underlying3)) hW ?_
      refine de (a' := (up (tll_b13 t op a b c n g1 g3 g5 r7 sn9) [(25, .bool false), (27, .agg (tll_c2 t r7)), (28, .pointer (some ⟨g3, 1, none⟩)), (29, .int .i64 a), (31, .agg (tll_c2 t r7))])) 4 (.agg (tll_c2 t r7)) rfl (fun W hH => (evA hH 2 0 Try.underlying32)) hW ?_
      refine dk (a' := (up (tll_b16 t op a b c n g1 g3 g5 r7 sn9) [])) 5 (.pointer (some ⟨g3, 2, none⟩)) hW ?_
      refine de (a' := (up (tll_b16 t op a b c n g1 g3 g5 r7 sn9) [(33, .int .i64 b)])) 6 (.int .i64 b) rfl (fun W hH => (ev1 hH 1 2 Try.underlying3)) hW ?_
      refine wpAnyH_all (rs := [3, 8, 9]) (by kernel_rfl) (by simp) ?_
      refine all_cons ?_ ?_
      · skip
        refine op_call rfl (th_Get (⟨t.pc, t.fu, t.st, t.R, t.kd, t.mi, t.mn, r7.s, r7.b, r7.n, t.old⟩ : Th) a W10.drew) (by kernel_rfl) (by kernel_rfl) ?_
        rintro _ W4q3 ⟨rfl, hB⟩
        have hW := hW.step hB
        have hK7 := hK7.below hB
        refine ⟨_, (up (tll_b16 t op a b c n g1 g3 g5 r7 sn9) [(30, .agg #[.int .i64 (getR t.R a 0), .int .i64 (getR t.R a 1), .int .i64 (getR t.R a 2)]), (33, .int .i64 b)]), rfl, by (try subst e7); kernel_rfl, ?_⟩
        refine ⟨hW, ?_⟩
        refine wpAnyH_all (rs := [7, 8, 9]) (by kernel_rfl) (by simp) ?_
        refine all_cons ?_ ?_
        · skip
          refine op_call rfl (th_Get (⟨t.pc, t.fu, t.st, t.R, t.kd, t.mi, t.mn, r7.s, r7.b, r7.n, t.old⟩ : Th) b W4q3) (by kernel_rfl) (by kernel_rfl) ?_
          rintro _ W4q7 ⟨rfl, hB⟩
          have hW := hW.step hB
          have hK7 := hK7.below hB
          refine ⟨_, (up (tll_b16 t op a b c n g1 g3 g5 r7 sn9) [(30, .agg #[.int .i64 (getR t.R a 0), .int .i64 (getR t.R a 1), .int .i64 (getR t.R a 2)]), (33, .int .i64 b), (34, .agg #[.int .i64 (getR t.R b 0), .int .i64 (getR t.R b 1), .int .i64 (getR t.R b 2)])]), rfl, by (try subst e7); kernel_rfl, ?_⟩
          refine ⟨hW, ?_⟩
          refine wpAnyH_all (rs := [8, 9]) (by kernel_rfl) (by simp) ?_
          refine all_cons ?_ ?_
          · skip
            obtain ⟨g4q8, W4q8, hr, hW, hbb, hge⟩ := hW.mk1 (P := Try.prog) (s := Instr.alloc 25 true (.tuple #[])) #[.int .i64 0, .int .i64 0, .int .i64 0] 25 (by kernel_rfl)
            have hK7_g4q8 := Nat.le_trans hK7.size hge
            have hK7 := hK7.below hbb
            refine op_val (w' := W4q8) (a' := (up (tll_b16 t op a b c n g1 g3 g5 r7 sn9) [(6, .pointer (some ⟨g4q8, 0, none⟩)), (30, .agg #[.int .i64 (getR t.R a 0), .int .i64 (getR t.R a 1), .int .i64 (getR t.R a 2)]), (33, .int .i64 b), (34, .agg #[.int .i64 (getR t.R b 0), .int .i64 (getR t.R b 1), .int .i64 (getR t.R b 2)])])) (.pointer (some ⟨g4q8, 0, none⟩)) rfl (by kernel_rfl) (Eq.trans (b := (do pure (Next.value (← Instr.alloc 25 true (.tuple #[]))) : Sem Next).run Try.prog W4q7) (by kernel_rfl) (st_val hr)) (by kernel_rfl) ?_
            refine ⟨hW.tail, ?_⟩
            refine wpAnyH_all (rs := [9]) (by kernel_rfl) (by simp) ?_
            refine all_cons ?_ all_nil
            obtain ⟨g4q9, W4q9, hr, hW, hbb, hge⟩ := hW.mk1 (P := Try.prog) (s := Instr.alloc 25 true (.tuple #[])) #[.int .i64 0, .int .i64 0, .int .i64 0] 25 (by kernel_rfl)
            have hK7_g4q9 := Nat.le_trans hK7.size hge
            have hK7 := hK7.below hbb
            refine op_val (w' := W4q9) (a' := (up (tll_b16 t op a b c n g1 g3 g5 r7 sn9) [(6, .pointer (some ⟨g4q8, 0, none⟩)), (7, .pointer (some ⟨g4q9, 0, none⟩)), (30, .agg #[.int .i64 (getR t.R a 0), .int .i64 (getR t.R a 1), .int .i64 (getR t.R a 2)]), (33, .int .i64 b), (34, .agg #[.int .i64 (getR t.R b 0), .int .i64 (getR t.R b 1), .int .i64 (getR t.R b 2)])])) (.pointer (some ⟨g4q9, 0, none⟩)) rfl (by kernel_rfl) (Eq.trans (b := (do pure (Next.value (← Instr.alloc 25 true (.tuple #[]))) : Sem Next).run Try.prog W4q8) (by kernel_rfl) (st_val hr)) (by kernel_rfl) ?_
            refine ⟨hW.tail.tail, ?_⟩
            refine wpAnyH_all (rs := [10]) (by kernel_rfl) (by simp) ?_
            refine all_cons ?_ all_nil
            obtain ⟨W4q10, hr, hW, hF⟩ := hW.storeN (P := Try.prog) (o := 0) (cs' := #[.int .i64 (getR t.R a 0), .int .i64 (getR t.R a 1), .int .i64 (getR t.R a 2)]) (L' := [(g4q9, 25, #[.int .i64 0, .int .i64 0, .int .i64 0]), (g4q8, 25, #[.int .i64 (getR t.R a 0), .int .i64 (getR t.R a 1), .int .i64 (getR t.R a 2)]), (g5, 32, tll_c1), (g3, 45, #[.int .i64 op, .int .i64 a, .int .i64 b, .int .i64 c, .int .i64 n]), (g1, 32, (tll_c2 t r7))]) 1 rfl #[.int .i64 (getR t.R a 0), .int .i64 (getR t.R a 1), .int .i64 (getR t.R a 2)] (by (try subst e7); kernel_rfl) (Nat.le_of_ble_eq_true rfl) (by kernel_rfl) rfl 25 (by kernel_rfl)
            have hK7 := hK7.store hF (.inr hK7_g4q8)
            refine op_none (w' := W4q10) (a' := (up (tll_b16 t op a b c n g1 g3 g5 r7 sn9) [(6, .pointer (some ⟨g4q8, 0, none⟩)), (7, .pointer (some ⟨g4q9, 0, none⟩)), (30, .agg #[.int .i64 (getR t.R a 0), .int .i64 (getR t.R a 1), .int .i64 (getR t.R a 2)]), (33, .int .i64 b), (34, .agg #[.int .i64 (getR t.R b 0), .int .i64 (getR t.R b 1), .int .i64 (getR t.R b 2)])])) rfl (by kernel_rfl) (Eq.trans (b := (do Instr.storeAt 25 (.pointer (some ⟨g4q8, 0, none⟩)) (.agg #[.int .i64 (getR t.R a 0), .int .i64 (getR t.R a 1), .int .i64 (getR t.R a 2)]); pure Next.skip : Sem Next).run Try.prog W4q9) (by kernel_rfl) (st_unit hr)) (by kernel_rfl) ?_
            refine ⟨hW.tail.tail, ?_⟩
            refine wpAnyH_all (rs := [11]) (by kernel_rfl) (by simp) ?_
            refine all_cons ?_ all_nil
            obtain ⟨W4q11, hr, hW, hF⟩ := hW.storeN (P := Try.prog) (o := 0) (cs' := #[.int .i64 (getR t.R b 0), .int .i64 (getR t.R b 1), .int .i64 (getR t.R b 2)]) (L' := [(g4q9, 25, #[.int .i64 (getR t.R b 0), .int .i64 (getR t.R b 1), .int .i64 (getR t.R b 2)]), (g4q8, 25, #[.int .i64 (getR t.R a 0), .int .i64 (getR t.R a 1), .int .i64 (getR t.R a 2)]), (g5, 32, tll_c1), (g3, 45, #[.int .i64 op, .int .i64 a, .int .i64 b, .int .i64 c, .int .i64 n]), (g1, 32, (tll_c2 t r7))]) 0 rfl #[.int .i64 (getR t.R b 0), .int .i64 (getR t.R b 1), .int .i64 (getR t.R b 2)] (by (try subst e7); kernel_rfl) (Nat.le_of_ble_eq_true rfl) (by kernel_rfl) rfl 25 (by kernel_rfl)
            have hK7 := hK7.store hF (.inr hK7_g4q9)
            refine op_none (w' := W4q11) (a' := (up (tll_b16 t op a b c n g1 g3 g5 r7 sn9) [(6, .pointer (some ⟨g4q8, 0, none⟩)), (7, .pointer (some ⟨g4q9, 0, none⟩)), (30, .agg #[.int .i64 (getR t.R a 0), .int .i64 (getR t.R a 1), .int .i64 (getR t.R a 2)]), (33, .int .i64 b), (34, .agg #[.int .i64 (getR t.R b 0), .int .i64 (getR t.R b 1), .int .i64 (getR t.R b 2)])])) rfl (by kernel_rfl) (Eq.trans (b := (do Instr.storeAt 25 (.pointer (some ⟨g4q9, 0, none⟩)) (.agg #[.int .i64 (getR t.R b 0), .int .i64 (getR t.R b 1), .int .i64 (getR t.R b 2)]); pure Next.skip : Sem Next).run Try.prog W4q10) (by kernel_rfl) (st_unit hr)) (by kernel_rfl) ?_
            refine ⟨hW.tail.tail, ?_⟩
            refine wpAnyH_done (by kernel_rfl) ?_ _
            simp only [Exit.then]
            exact ⟨g4q8, g4q9, rfl, hW, hK7, hK7_g4q8, hK7_g4q9⟩
          refine all_cons ?_ all_nil
          obtain ⟨g4q9, W4q9, hr, hW, hbb, hge⟩ := hW.mk1 (P := Try.prog) (s := Instr.alloc 25 true (.tuple #[])) #[.int .i64 0, .int .i64 0, .int .i64 0] 25 (by kernel_rfl)
          have hK7_g4q9 := Nat.le_trans hK7.size hge
          have hK7 := hK7.below hbb
          refine op_val (w' := W4q9) (a' := (up (tll_b16 t op a b c n g1 g3 g5 r7 sn9) [(7, .pointer (some ⟨g4q9, 0, none⟩)), (30, .agg #[.int .i64 (getR t.R a 0), .int .i64 (getR t.R a 1), .int .i64 (getR t.R a 2)]), (33, .int .i64 b), (34, .agg #[.int .i64 (getR t.R b 0), .int .i64 (getR t.R b 1), .int .i64 (getR t.R b 2)])])) (.pointer (some ⟨g4q9, 0, none⟩)) rfl (by kernel_rfl) (Eq.trans (b := (do pure (Next.value (← Instr.alloc 25 true (.tuple #[]))) : Sem Next).run Try.prog W4q7) (by kernel_rfl) (st_val hr)) (by kernel_rfl) ?_
          refine ⟨hW.tail, ?_⟩
          refine wpAnyH_all (rs := [8]) (by kernel_rfl) (by simp) ?_
          refine all_cons ?_ all_nil
          obtain ⟨g4q8, W4q8, hr, hW, hbb, hge⟩ := hW.mk1 (P := Try.prog) (s := Instr.alloc 25 true (.tuple #[])) #[.int .i64 0, .int .i64 0, .int .i64 0] 25 (by kernel_rfl)
          have hK7_g4q8 := Nat.le_trans hK7.size hge
          have hK7 := hK7.below hbb
          refine op_val (w' := W4q8) (a' := (up (tll_b16 t op a b c n g1 g3 g5 r7 sn9) [(6, .pointer (some ⟨g4q8, 0, none⟩)), (7, .pointer (some ⟨g4q9, 0, none⟩)), (30, .agg #[.int .i64 (getR t.R a 0), .int .i64 (getR t.R a 1), .int .i64 (getR t.R a 2)]), (33, .int .i64 b), (34, .agg #[.int .i64 (getR t.R b 0), .int .i64 (getR t.R b 1), .int .i64 (getR t.R b 2)])])) (.pointer (some ⟨g4q8, 0, none⟩)) rfl (by kernel_rfl) (Eq.trans (b := (do pure (Next.value (← Instr.alloc 25 true (.tuple #[]))) : Sem Next).run Try.prog W4q9) (by kernel_rfl) (st_val hr)) (by kernel_rfl) ?_
          refine ⟨hW.tail.tail, ?_⟩
          refine wpAnyH_all (rs := [10]) (by kernel_rfl) (by simp) ?_
          refine all_cons ?_ all_nil
          obtain ⟨W4q10, hr, hW, hF⟩ := hW.storeN (P := Try.prog) (o := 0) (cs' := #[.int .i64 (getR t.R a 0), .int .i64 (getR t.R a 1), .int .i64 (getR t.R a 2)]) (L' := [(g4q8, 25, #[.int .i64 (getR t.R a 0), .int .i64 (getR t.R a 1), .int .i64 (getR t.R a 2)]), (g4q9, 25, #[.int .i64 0, .int .i64 0, .int .i64 0]), (g5, 32, tll_c1), (g3, 45, #[.int .i64 op, .int .i64 a, .int .i64 b, .int .i64 c, .int .i64 n]), (g1, 32, (tll_c2 t r7))]) 0 rfl #[.int .i64 (getR t.R a 0), .int .i64 (getR t.R a 1), .int .i64 (getR t.R a 2)] (by (try subst e7); kernel_rfl) (Nat.le_of_ble_eq_true rfl) (by kernel_rfl) rfl 25 (by kernel_rfl)
          have hK7 := hK7.store hF (.inr hK7_g4q8)
          refine op_none (w' := W4q10) (a' := (up (tll_b16 t op a b c n g1 g3 g5 r7 sn9) [(6, .pointer (some ⟨g4q8, 0, none⟩)), (7, .pointer (some ⟨g4q9, 0, none⟩)), (30, .agg #[.int .i64 (getR t.R a 0), .int .i64 (getR t.R a 1), .int .i64 (getR t.R a 2)]), (33, .int .i64 b), (34, .agg #[.int .i64 (getR t.R b 0), .int .i64 (getR t.R b 1), .int .i64 (getR t.R b 2)])])) rfl (by kernel_rfl) (Eq.trans (b := (do Instr.storeAt 25 (.pointer (some ⟨g4q8, 0, none⟩)) (.agg #[.int .i64 (getR t.R a 0), .int .i64 (getR t.R a 1), .int .i64 (getR t.R a 2)]); pure Next.skip : Sem Next).run Try.prog W4q8) (by kernel_rfl) (st_unit hr)) (by kernel_rfl) ?_
          refine ⟨hW.tail.tail, ?_⟩
          refine wpAnyH_all (rs := [11]) (by kernel_rfl) (by simp) ?_
          refine all_cons ?_ all_nil
          obtain ⟨W4q11, hr, hW, hF⟩ := hW.storeN (P := Try.prog) (o := 0) (cs' := #[.int .i64 (getR t.R b 0), .int .i64 (getR t.R b 1), .int .i64 (getR t.R b 2)]) (L' := [(g4q8, 25, #[.int .i64 (getR t.R a 0), .int .i64 (getR t.R a 1), .int .i64 (getR t.R a 2)]), (g4q9, 25, #[.int .i64 (getR t.R b 0), .int .i64 (getR t.R b 1), .int .i64 (getR t.R b 2)]), (g5, 32, tll_c1), (g3, 45, #[.int .i64 op, .int .i64 a, .int .i64 b, .int .i64 c, .int .i64 n]), (g1, 32, (tll_c2 t r7))]) 1 rfl #[.int .i64 (getR t.R b 0), .int .i64 (getR t.R b 1), .int .i64 (getR t.R b 2)] (by (try subst e7); kernel_rfl) (Nat.le_of_ble_eq_true rfl) (by kernel_rfl) rfl 25 (by kernel_rfl)
          have hK7 := hK7.store hF (.inr hK7_g4q9)
          refine op_none (w' := W4q11) (a' := (up (tll_b16 t op a b c n g1 g3 g5 r7 sn9) [(6, .pointer (some ⟨g4q8, 0, none⟩)), (7, .pointer (some ⟨g4q9, 0, none⟩)), (30, .agg #[.int .i64 (getR t.R a 0), .int .i64 (getR t.R a 1), .int .i64 (getR t.R a 2)]), (33, .int .i64 b), (34, .agg #[.int .i64 (getR t.R b 0), .int .i64 (getR t.R b 1), .int .i64 (getR t.R b 2)])])) rfl (by kernel_rfl) (Eq.trans (b := (do Instr.storeAt 25 (.pointer (some ⟨g4q9, 0, none⟩)) (.agg #[.int .i64 (getR t.R b 0), .int .i64 (getR t.R b 1), .int .i64 (getR t.R b 2)]); pure Next.skip : Sem Next).run Try.prog W4q10) (by kernel_rfl) (st_unit hr)) (by kernel_rfl) ?_
          refine ⟨hW.tail.tail, ?_⟩
          refine wpAnyH_done (by kernel_rfl) ?_ _
          have hW := hW.swap
          simp only [Exit.then]
          exact ⟨g4q8, g4q9, rfl, hW, hK7, hK7_g4q8, hK7_g4q9⟩
        refine all_cons ?_ ?_
        · skip
          obtain ⟨g4q8, W4q8, hr, hW, hbb, hge⟩ := hW.mk1 (P := Try.prog) (s := Instr.alloc 25 true (.tuple #[])) #[.int .i64 0, .int .i64 0, .int .i64 0] 25 (by kernel_rfl)
          have hK7_g4q8 := Nat.le_trans hK7.size hge
          have hK7 := hK7.below hbb
          refine op_val (w' := W4q8) (a' := (up (tll_b16 t op a b c n g1 g3 g5 r7 sn9) [(6, .pointer (some ⟨g4q8, 0, none⟩)), (30, .agg #[.int .i64 (getR t.R a 0), .int .i64 (getR t.R a 1), .int .i64 (getR t.R a 2)]), (33, .int .i64 b)])) (.pointer (some ⟨g4q8, 0, none⟩)) rfl (by kernel_rfl) (Eq.trans (b := (do pure (Next.value (← Instr.alloc 25 true (.tuple #[]))) : Sem Next).run Try.prog W4q3) (by kernel_rfl) (st_val hr)) (by kernel_rfl) ?_
          refine ⟨hW.tail, ?_⟩
          refine wpAnyH_all (rs := [7, 9]) (by kernel_rfl) (by simp) ?_
          refine all_cons ?_ ?_
          · skip
            refine op_call rfl (th_Get (⟨t.pc, t.fu, t.st, t.R, t.kd, t.mi, t.mn, r7.s, r7.b, r7.n, t.old⟩ : Th) b W4q8) (by kernel_rfl) (by kernel_rfl) ?_
            rintro _ W4q7 ⟨rfl, hB⟩
            have hW := hW.step hB
            have hK7 := hK7.below hB
            refine ⟨_, (up (tll_b16 t op a b c n g1 g3 g5 r7 sn9) [(6, .pointer (some ⟨g4q8, 0, none⟩)), (30, .agg #[.int .i64 (getR t.R a 0), .int .i64 (getR t.R a 1), .int .i64 (getR t.R a 2)]), (33, .int .i64 b), (34, .agg #[.int .i64 (getR t.R b 0), .int .i64 (getR t.R b 1), .int .i64 (getR t.R b 2)])]), rfl, by (try subst e7); kernel_rfl, ?_⟩
            refine ⟨hW.tail, ?_⟩
            refine wpAnyH_all (rs := [9]) (by kernel_rfl) (by simp) ?_
            refine all_cons ?_ all_nil
            obtain ⟨g4q9, W4q9, hr, hW, hbb, hge⟩ := hW.mk1 (P := Try.prog) (s := Instr.alloc 25 true (.tuple #[])) #[.int .i64 0, .int .i64 0, .int .i64 0] 25 (by kernel_rfl)
            have hK7_g4q9 := Nat.le_trans hK7.size hge
            have hK7 := hK7.below hbb
            refine op_val (w' := W4q9) (a' := (up (tll_b16 t op a b c n g1 g3 g5 r7 sn9) [(6, .pointer (some ⟨g4q8, 0, none⟩)), (7, .pointer (some ⟨g4q9, 0, none⟩)), (30, .agg #[.int .i64 (getR t.R a 0), .int .i64 (getR t.R a 1), .int .i64 (getR t.R a 2)]), (33, .int .i64 b), (34, .agg #[.int .i64 (getR t.R b 0), .int .i64 (getR t.R b 1), .int .i64 (getR t.R b 2)])])) (.pointer (some ⟨g4q9, 0, none⟩)) rfl (by kernel_rfl) (Eq.trans (b := (do pure (Next.value (← Instr.alloc 25 true (.tuple #[]))) : Sem Next).run Try.prog W4q7) (by kernel_rfl) (st_val hr)) (by kernel_rfl) ?_
            refine ⟨hW.tail.tail, ?_⟩
            refine wpAnyH_all (rs := [10]) (by kernel_rfl) (by simp) ?_
            refine all_cons ?_ all_nil
            obtain ⟨W4q10, hr, hW, hF⟩ := hW.storeN (P := Try.prog) (o := 0) (cs' := #[.int .i64 (getR t.R a 0), .int .i64 (getR t.R a 1), .int .i64 (getR t.R a 2)]) (L' := [(g4q9, 25, #[.int .i64 0, .int .i64 0, .int .i64 0]), (g4q8, 25, #[.int .i64 (getR t.R a 0), .int .i64 (getR t.R a 1), .int .i64 (getR t.R a 2)]), (g5, 32, tll_c1), (g3, 45, #[.int .i64 op, .int .i64 a, .int .i64 b, .int .i64 c, .int .i64 n]), (g1, 32, (tll_c2 t r7))]) 1 rfl #[.int .i64 (getR t.R a 0), .int .i64 (getR t.R a 1), .int .i64 (getR t.R a 2)] (by (try subst e7); kernel_rfl) (Nat.le_of_ble_eq_true rfl) (by kernel_rfl) rfl 25 (by kernel_rfl)
            have hK7 := hK7.store hF (.inr hK7_g4q8)
            refine op_none (w' := W4q10) (a' := (up (tll_b16 t op a b c n g1 g3 g5 r7 sn9) [(6, .pointer (some ⟨g4q8, 0, none⟩)), (7, .pointer (some ⟨g4q9, 0, none⟩)), (30, .agg #[.int .i64 (getR t.R a 0), .int .i64 (getR t.R a 1), .int .i64 (getR t.R a 2)]), (33, .int .i64 b), (34, .agg #[.int .i64 (getR t.R b 0), .int .i64 (getR t.R b 1), .int .i64 (getR t.R b 2)])])) rfl (by kernel_rfl) (Eq.trans (b := (do Instr.storeAt 25 (.pointer (some ⟨g4q8, 0, none⟩)) (.agg #[.int .i64 (getR t.R a 0), .int .i64 (getR t.R a 1), .int .i64 (getR t.R a 2)]); pure Next.skip : Sem Next).run Try.prog W4q9) (by kernel_rfl) (st_unit hr)) (by kernel_rfl) ?_
            refine ⟨hW.tail.tail, ?_⟩
            refine wpAnyH_all (rs := [11]) (by kernel_rfl) (by simp) ?_
            refine all_cons ?_ all_nil
            obtain ⟨W4q11, hr, hW, hF⟩ := hW.storeN (P := Try.prog) (o := 0) (cs' := #[.int .i64 (getR t.R b 0), .int .i64 (getR t.R b 1), .int .i64 (getR t.R b 2)]) (L' := [(g4q9, 25, #[.int .i64 (getR t.R b 0), .int .i64 (getR t.R b 1), .int .i64 (getR t.R b 2)]), (g4q8, 25, #[.int .i64 (getR t.R a 0), .int .i64 (getR t.R a 1), .int .i64 (getR t.R a 2)]), (g5, 32, tll_c1), (g3, 45, #[.int .i64 op, .int .i64 a, .int .i64 b, .int .i64 c, .int .i64 n]), (g1, 32, (tll_c2 t r7))]) 0 rfl #[.int .i64 (getR t.R b 0), .int .i64 (getR t.R b 1), .int .i64 (getR t.R b 2)] (by (try subst e7); kernel_rfl) (Nat.le_of_ble_eq_true rfl) (by kernel_rfl) rfl 25 (by kernel_rfl)
            have hK7 := hK7.store hF (.inr hK7_g4q9)
            refine op_none (w' := W4q11) (a' := (up (tll_b16 t op a b c n g1 g3 g5 r7 sn9) [(6, .pointer (some ⟨g4q8, 0, none⟩)), (7, .pointer (some ⟨g4q9, 0, none⟩)), (30, .agg #[.int .i64 (getR t.R a 0), .int .i64 (getR t.R a 1), .int .i64 (getR t.R a 2)]), (33, .int .i64 b), (34, .agg #[.int .i64 (getR t.R b 0), .int .i64 (getR t.R b 1), .int .i64 (getR t.R b 2)])])) rfl (by kernel_rfl) (Eq.trans (b := (do Instr.storeAt 25 (.pointer (some ⟨g4q9, 0, none⟩)) (.agg #[.int .i64 (getR t.R b 0), .int .i64 (getR t.R b 1), .int .i64 (getR t.R b 2)]); pure Next.skip : Sem Next).run Try.prog W4q10) (by kernel_rfl) (st_unit hr)) (by kernel_rfl) ?_
            refine ⟨hW.tail.tail, ?_⟩
            refine wpAnyH_done (by kernel_rfl) ?_ _
            simp only [Exit.then]
            exact ⟨g4q8, g4q9, rfl, hW, hK7, hK7_g4q8, hK7_g4q9⟩
          refine all_cons ?_ all_nil
          obtain ⟨g4q9, W4q9, hr, hW, hbb, hge⟩ := hW.mk1 (P := Try.prog) (s := Instr.alloc 25 true (.tuple #[])) #[.int .i64 0, .int .i64 0, .int .i64 0] 25 (by kernel_rfl)
          have hK7_g4q9 := Nat.le_trans hK7.size hge
          have hK7 := hK7.below hbb
          refine op_val (w' := W4q9) (a' := (up (tll_b16 t op a b c n g1 g3 g5 r7 sn9) [(6, .pointer (some ⟨g4q8, 0, none⟩)), (7, .pointer (some ⟨g4q9, 0, none⟩)), (30, .agg #[.int .i64 (getR t.R a 0), .int .i64 (getR t.R a 1), .int .i64 (getR t.R a 2)]), (33, .int .i64 b)])) (.pointer (some ⟨g4q9, 0, none⟩)) rfl (by kernel_rfl) (Eq.trans (b := (do pure (Next.value (← Instr.alloc 25 true (.tuple #[]))) : Sem Next).run Try.prog W4q8) (by kernel_rfl) (st_val hr)) (by kernel_rfl) ?_
          refine ⟨hW.tail.tail, ?_⟩
          refine wpAnyH_all (rs := [7]) (by kernel_rfl) (by simp) ?_
          refine all_cons ?_ all_nil
          refine op_call rfl (th_Get (⟨t.pc, t.fu, t.st, t.R, t.kd, t.mi, t.mn, r7.s, r7.b, r7.n, t.old⟩ : Th) b W4q9) (by kernel_rfl) (by kernel_rfl) ?_
          rintro _ W4q7 ⟨rfl, hB⟩
          have hW := hW.step hB
          have hK7 := hK7.below hB
          refine ⟨_, (up (tll_b16 t op a b c n g1 g3 g5 r7 sn9) [(6, .pointer (some ⟨g4q8, 0, none⟩)), (7, .pointer (some ⟨g4q9, 0, none⟩)), (30, .agg #[.int .i64 (getR t.R a 0), .int .i64 (getR t.R a 1), .int .i64 (getR t.R a 2)]), (33, .int .i64 b), (34, .agg #[.int .i64 (getR t.R b 0), .int .i64 (getR t.R b 1), .int .i64 (getR t.R b 2)])]), rfl, by (try subst e7); kernel_rfl, ?_⟩
          refine ⟨hW.tail.tail, ?_⟩
          refine wpAnyH_all (rs := [10]) (by kernel_rfl) (by simp) ?_
          refine all_cons ?_ all_nil
          obtain ⟨W4q10, hr, hW, hF⟩ := hW.storeN (P := Try.prog) (o := 0) (cs' := #[.int .i64 (getR t.R a 0), .int .i64 (getR t.R a 1), .int .i64 (getR t.R a 2)]) (L' := [(g4q9, 25, #[.int .i64 0, .int .i64 0, .int .i64 0]), (g4q8, 25, #[.int .i64 (getR t.R a 0), .int .i64 (getR t.R a 1), .int .i64 (getR t.R a 2)]), (g5, 32, tll_c1), (g3, 45, #[.int .i64 op, .int .i64 a, .int .i64 b, .int .i64 c, .int .i64 n]), (g1, 32, (tll_c2 t r7))]) 1 rfl #[.int .i64 (getR t.R a 0), .int .i64 (getR t.R a 1), .int .i64 (getR t.R a 2)] (by (try subst e7); kernel_rfl) (Nat.le_of_ble_eq_true rfl) (by kernel_rfl) rfl 25 (by kernel_rfl)
          have hK7 := hK7.store hF (.inr hK7_g4q8)
          refine op_none (w' := W4q10) (a' := (up (tll_b16 t op a b c n g1 g3 g5 r7 sn9) [(6, .pointer (some ⟨g4q8, 0, none⟩)), (7, .pointer (some ⟨g4q9, 0, none⟩)), (30, .agg #[.int .i64 (getR t.R a 0), .int .i64 (getR t.R a 1), .int .i64 (getR t.R a 2)]), (33, .int .i64 b), (34, .agg #[.int .i64 (getR t.R b 0), .int .i64 (getR t.R b 1), .int .i64 (getR t.R b 2)])])) rfl (by kernel_rfl) (Eq.trans (b := (do Instr.storeAt 25 (.pointer (some ⟨g4q8, 0, none⟩)) (.agg #[.int .i64 (getR t.R a 0), .int .i64 (getR t.R a 1), .int .i64 (getR t.R a 2)]); pure Next.skip : Sem Next).run Try.prog W4q7) (by kernel_rfl) (st_unit hr)) (by kernel_rfl) ?_
          refine ⟨hW.tail.tail, ?_⟩
          refine wpAnyH_all (rs := [11]) (by kernel_rfl) (by simp) ?_
          refine all_cons ?_ all_nil
          obtain ⟨W4q11, hr, hW, hF⟩ := hW.storeN (P := Try.prog) (o := 0) (cs' := #[.int .i64 (getR t.R b 0), .int .i64 (getR t.R b 1), .int .i64 (getR t.R b 2)]) (L' := [(g4q9, 25, #[.int .i64 (getR t.R b 0), .int .i64 (getR t.R b 1), .int .i64 (getR t.R b 2)]), (g4q8, 25, #[.int .i64 (getR t.R a 0), .int .i64 (getR t.R a 1), .int .i64 (getR t.R a 2)]), (g5, 32, tll_c1), (g3, 45, #[.int .i64 op, .int .i64 a, .int .i64 b, .int .i64 c, .int .i64 n]), (g1, 32, (tll_c2 t r7))]) 0 rfl #[.int .i64 (getR t.R b 0), .int .i64 (getR t.R b 1), .int .i64 (getR t.R b 2)] (by (try subst e7); kernel_rfl) (Nat.le_of_ble_eq_true rfl) (by kernel_rfl) rfl 25 (by kernel_rfl)
          have hK7 := hK7.store hF (.inr hK7_g4q9)
          refine op_none (w' := W4q11) (a' := (up (tll_b16 t op a b c n g1 g3 g5 r7 sn9) [(6, .pointer (some ⟨g4q8, 0, none⟩)), (7, .pointer (some ⟨g4q9, 0, none⟩)), (30, .agg #[.int .i64 (getR t.R a 0), .int .i64 (getR t.R a 1), .int .i64 (getR t.R a 2)]), (33, .int .i64 b), (34, .agg #[.int .i64 (getR t.R b 0), .int .i64 (getR t.R b 1), .int .i64 (getR t.R b 2)])])) rfl (by kernel_rfl) (Eq.trans (b := (do Instr.storeAt 25 (.pointer (some ⟨g4q9, 0, none⟩)) (.agg #[.int .i64 (getR t.R b 0), .int .i64 (getR t.R b 1), .int .i64 (getR t.R b 2)]); pure Next.skip : Sem Next).run Try.prog W4q10) (by kernel_rfl) (st_unit hr)) (by kernel_rfl) ?_
          refine ⟨hW.tail.tail, ?_⟩
          refine wpAnyH_done (by kernel_rfl) ?_ _
          simp only [Exit.then]
          exact ⟨g4q8, g4q9, rfl, hW, hK7, hK7_g4q8, hK7_g4q9⟩
        refine all_cons ?_ all_nil
        obtain ⟨g4q9, W4q9, hr, hW, hbb, hge⟩ := hW.mk1 (P := Try.prog) (s := Instr.alloc 25 true (.tuple #[])) #[.int .i64 0, .int .i64 0, .int .i64 0] 25 (by kernel_rfl)
        have hK7_g4q9 := Nat.le_trans hK7.size hge
        have hK7 := hK7.below hbb
        refine op_val (w' := W4q9) (a' := (up (tll_b16 t op a b c n g1 g3 g5 r7 sn9) [(7, .pointer (some ⟨g4q9, 0, none⟩)), (30, .agg #[.int .i64 (getR t.R a 0), .int .i64 (getR t.R a 1), .int .i64 (getR t.R a 2)]), (33, .int .i64 b)])) (.pointer (some ⟨g4q9, 0, none⟩)) rfl (by kernel_rfl) (Eq.trans (b := (do pure (Next.value (← Instr.alloc 25 true (.tuple #[]))) : Sem Next).run Try.prog W4q3) (by kernel_rfl) (st_val hr)) (by kernel_rfl) ?_
        refine ⟨hW.tail, ?_⟩
        refine wpAnyH_all (rs := [7, 8]) (by kernel_rfl) (by simp) ?_
        refine all_cons ?_ ?_
        · skip
          refine op_call rfl (th_Get (⟨t.pc, t.fu, t.st, t.R, t.kd, t.mi, t.mn, r7.s, r7.b, r7.n, t.old⟩ : Th) b W4q9) (by kernel_rfl) (by kernel_rfl) ?_
          rintro _ W4q7 ⟨rfl, hB⟩
          have hW := hW.step hB
          have hK7 := hK7.below hB
          refine ⟨_, (up (tll_b16 t op a b c n g1 g3 g5 r7 sn9) [(7, .pointer (some ⟨g4q9, 0, none⟩)), (30, .agg #[.int .i64 (getR t.R a 0), .int .i64 (getR t.R a 1), .int .i64 (getR t.R a 2)]), (33, .int .i64 b), (34, .agg #[.int .i64 (getR t.R b 0), .int .i64 (getR t.R b 1), .int .i64 (getR t.R b 2)])]), rfl, by (try subst e7); kernel_rfl, ?_⟩
          refine ⟨hW.tail, ?_⟩
          refine wpAnyH_all (rs := [8]) (by kernel_rfl) (by simp) ?_
          refine all_cons ?_ all_nil
          obtain ⟨g4q8, W4q8, hr, hW, hbb, hge⟩ := hW.mk1 (P := Try.prog) (s := Instr.alloc 25 true (.tuple #[])) #[.int .i64 0, .int .i64 0, .int .i64 0] 25 (by kernel_rfl)
          have hK7_g4q8 := Nat.le_trans hK7.size hge
          have hK7 := hK7.below hbb
          refine op_val (w' := W4q8) (a' := (up (tll_b16 t op a b c n g1 g3 g5 r7 sn9) [(6, .pointer (some ⟨g4q8, 0, none⟩)), (7, .pointer (some ⟨g4q9, 0, none⟩)), (30, .agg #[.int .i64 (getR t.R a 0), .int .i64 (getR t.R a 1), .int .i64 (getR t.R a 2)]), (33, .int .i64 b), (34, .agg #[.int .i64 (getR t.R b 0), .int .i64 (getR t.R b 1), .int .i64 (getR t.R b 2)])])) (.pointer (some ⟨g4q8, 0, none⟩)) rfl (by kernel_rfl) (Eq.trans (b := (do pure (Next.value (← Instr.alloc 25 true (.tuple #[]))) : Sem Next).run Try.prog W4q7) (by kernel_rfl) (st_val hr)) (by kernel_rfl) ?_
          refine ⟨hW.tail.tail, ?_⟩
          refine wpAnyH_all (rs := [10]) (by kernel_rfl) (by simp) ?_
          refine all_cons ?_ all_nil
          obtain ⟨W4q10, hr, hW, hF⟩ := hW.storeN (P := Try.prog) (o := 0) (cs' := #[.int .i64 (getR t.R a 0), .int .i64 (getR t.R a 1), .int .i64 (getR t.R a 2)]) (L' := [(g4q8, 25, #[.int .i64 (getR t.R a 0), .int .i64 (getR t.R a 1), .int .i64 (getR t.R a 2)]), (g4q9, 25, #[.int .i64 0, .int .i64 0, .int .i64 0]), (g5, 32, tll_c1), (g3, 45, #[.int .i64 op, .int .i64 a, .int .i64 b, .int .i64 c, .int .i64 n]), (g1, 32, (tll_c2 t r7))]) 0 rfl #[.int .i64 (getR t.R a 0), .int .i64 (getR t.R a 1), .int .i64 (getR t.R a 2)] (by (try subst e7); kernel_rfl) (Nat.le_of_ble_eq_true rfl) (by kernel_rfl) rfl 25 (by kernel_rfl)
          have hK7 := hK7.store hF (.inr hK7_g4q8)
          refine op_none (w' := W4q10) (a' := (up (tll_b16 t op a b c n g1 g3 g5 r7 sn9) [(6, .pointer (some ⟨g4q8, 0, none⟩)), (7, .pointer (some ⟨g4q9, 0, none⟩)), (30, .agg #[.int .i64 (getR t.R a 0), .int .i64 (getR t.R a 1), .int .i64 (getR t.R a 2)]), (33, .int .i64 b), (34, .agg #[.int .i64 (getR t.R b 0), .int .i64 (getR t.R b 1), .int .i64 (getR t.R b 2)])])) rfl (by kernel_rfl) (Eq.trans (b := (do Instr.storeAt 25 (.pointer (some ⟨g4q8, 0, none⟩)) (.agg #[.int .i64 (getR t.R a 0), .int .i64 (getR t.R a 1), .int .i64 (getR t.R a 2)]); pure Next.skip : Sem Next).run Try.prog W4q8) (by kernel_rfl) (st_unit hr)) (by kernel_rfl) ?_
          refine ⟨hW.tail.tail, ?_⟩
          refine wpAnyH_all (rs := [11]) (by kernel_rfl) (by simp) ?_
          refine all_cons ?_ all_nil
          obtain ⟨W4q11, hr, hW, hF⟩ := hW.storeN (P := Try.prog) (o := 0) (cs' := #[.int .i64 (getR t.R b 0), .int .i64 (getR t.R b 1), .int .i64 (getR t.R b 2)]) (L' := [(g4q8, 25, #[.int .i64 (getR t.R a 0), .int .i64 (getR t.R a 1), .int .i64 (getR t.R a 2)]), (g4q9, 25, #[.int .i64 (getR t.R b 0), .int .i64 (getR t.R b 1), .int .i64 (getR t.R b 2)]), (g5, 32, tll_c1), (g3, 45, #[.int .i64 op, .int .i64 a, .int .i64 b, .int .i64 c, .int .i64 n]), (g1, 32, (tll_c2 t r7))]) 1 rfl #[.int .i64 (getR t.R b 0), .int .i64 (getR t.R b 1), .int .i64 (getR t.R b 2)] (by (try subst e7); kernel_rfl) (Nat.le_of_ble_eq_true rfl) (by kernel_rfl) rfl 25 (by kernel_rfl)
          have hK7 := hK7.store hF (.inr hK7_g4q9)
          refine op_none (w' := W4q11) (a' := (up (tll_b16 t op a b c n g1 g3 g5 r7 sn9) [(6, .pointer (some ⟨g4q8, 0, none⟩)), (7, .pointer (some ⟨g4q9, 0, none⟩)), (30, .agg #[.int .i64 (getR t.R a 0), .int .i64 (getR t.R a 1), .int .i64 (getR t.R a 2)]), (33, .int .i64 b), (34, .agg #[.int .i64 (getR t.R b 0), .int .i64 (getR t.R b 1), .int .i64 (getR t.R b 2)])])) rfl (by kernel_rfl) (Eq.trans (b := (do Instr.storeAt 25 (.pointer (some ⟨g4q9, 0, none⟩)) (.agg #[.int .i64 (getR t.R b 0), .int .i64 (getR t.R b 1), .int .i64 (getR t.R b 2)]); pure Next.skip : Sem Next).run Try.prog W4q10) (by kernel_rfl) (st_unit hr)) (by kernel_rfl) ?_
          refine ⟨hW.tail.tail, ?_⟩
          refine wpAnyH_done (by kernel_rfl) ?_ _
          have hW := hW.swap
          simp only [Exit.then]
          exact ⟨g4q8, g4q9, rfl, hW, hK7, hK7_g4q8, hK7_g4q9⟩
        refine all_cons ?_ all_nil
        obtain ⟨g4q8, W4q8, hr, hW, hbb, hge⟩ := hW.mk1 (P := Try.prog) (s := Instr.alloc 25 true (.tuple #[])) #[.int .i64 0, .int .i64 0, .int .i64 0] 25 (by kernel_rfl)
        have hK7_g4q8 := Nat.le_trans hK7.size hge
        have hK7 := hK7.below hbb
        refine op_val (w' := W4q8) (a' := (up (tll_b16 t op a b c n g1 g3 g5 r7 sn9) [(6, .pointer (some ⟨g4q8, 0, none⟩)), (7, .pointer (some ⟨g4q9, 0, none⟩)), (30, .agg #[.int .i64 (getR t.R a 0), .int .i64 (getR t.R a 1), .int .i64 (getR t.R a 2)]), (33, .int .i64 b)])) (.pointer (some ⟨g4q8, 0, none⟩)) rfl (by kernel_rfl) (Eq.trans (b := (do pure (Next.value (← Instr.alloc 25 true (.tuple #[]))) : Sem Next).run Try.prog W4q9) (by kernel_rfl) (st_val hr)) (by kernel_rfl) ?_
        refine ⟨hW.tail.tail, ?_⟩
        refine wpAnyH_all (rs := [7]) (by kernel_rfl) (by simp) ?_
        refine all_cons ?_ all_nil
        refine op_call rfl (th_Get (⟨t.pc, t.fu, t.st, t.R, t.kd, t.mi, t.mn, r7.s, r7.b, r7.n, t.old⟩ : Th) b W4q8) (by kernel_rfl) (by kernel_rfl) ?_
        rintro _ W4q7 ⟨rfl, hB⟩
        have hW := hW.step hB
        have hK7 := hK7.below hB
        refine ⟨_, (up (tll_b16 t op a b c n g1 g3 g5 r7 sn9) [(6, .pointer (some ⟨g4q8, 0, none⟩)), (7, .pointer (some ⟨g4q9, 0, none⟩)), (30, .agg #[.int .i64 (getR t.R a 0), .int .i64 (getR t.R a 1), .int .i64 (getR t.R a 2)]), (33, .int .i64 b), (34, .agg #[.int .i64 (getR t.R b 0), .int .i64 (getR t.R b 1), .int .i64 (getR t.R b 2)])]), rfl, by (try subst e7); kernel_rfl, ?_⟩
        refine ⟨hW.tail.tail, ?_⟩
        refine wpAnyH_all (rs := [10]) (by kernel_rfl) (by simp) ?_
        refine all_cons ?_ all_nil
        obtain ⟨W4q10, hr, hW, hF⟩ := hW.storeN (P := Try.prog) (o := 0) (cs' := #[.int .i64 (getR t.R a 0), .int .i64 (getR t.R a 1), .int .i64 (getR t.R a 2)]) (L' := [(g4q8, 25, #[.int .i64 (getR t.R a 0), .int .i64 (getR t.R a 1), .int .i64 (getR t.R a 2)]), (g4q9, 25, #[.int .i64 0, .int .i64 0, .int .i64 0]), (g5, 32, tll_c1), (g3, 45, #[.int .i64 op, .int .i64 a, .int .i64 b, .int .i64 c, .int .i64 n]), (g1, 32, (tll_c2 t r7))]) 0 rfl #[.int .i64 (getR t.R a 0), .int .i64 (getR t.R a 1), .int .i64 (getR t.R a 2)] (by (try subst e7); kernel_rfl) (Nat.le_of_ble_eq_true rfl) (by kernel_rfl) rfl 25 (by kernel_rfl)
        have hK7 := hK7.store hF (.inr hK7_g4q8)
        refine op_none (w' := W4q10) (a' := (up (tll_b16 t op a b c n g1 g3 g5 r7 sn9) [(6, .pointer (some ⟨g4q8, 0, none⟩)), (7, .pointer (some ⟨g4q9, 0, none⟩)), (30, .agg #[.int .i64 (getR t.R a 0), .int .i64 (getR t.R a 1), .int .i64 (getR t.R a 2)]), (33, .int .i64 b), (34, .agg #[.int .i64 (getR t.R b 0), .int .i64 (getR t.R b 1), .int .i64 (getR t.R b 2)])])) rfl (by kernel_rfl) (Eq.trans (b := (do Instr.storeAt 25 (.pointer (some ⟨g4q8, 0, none⟩)) (.agg #[.int .i64 (getR t.R a 0), .int .i64 (getR t.R a 1), .int .i64 (getR t.R a 2)]); pure Next.skip : Sem Next).run Try.prog W4q7) (by kernel_rfl) (st_unit hr)) (by kernel_rfl) ?_
        refine ⟨hW.tail.tail, ?_⟩
        refine wpAnyH_all (rs := [11]) (by kernel_rfl) (by simp) ?_
        refine all_cons ?_ all_nil
        obtain ⟨W4q11, hr, hW, hF⟩ := hW.storeN (P := Try.prog) (o := 0) (cs' := #[.int .i64 (getR t.R b 0), .int .i64 (getR t.R b 1), .int .i64 (getR t.R b 2)]) (L' := [(g4q8, 25, #[.int .i64 (getR t.R a 0), .int .i64 (getR t.R a 1), .int .i64 (getR t.R a 2)]), (g4q9, 25, #[.int .i64 (getR t.R b 0), .int .i64 (getR t.R b 1), .int .i64 (getR t.R b 2)]), (g5, 32, tll_c1), (g3, 45, #[.int .i64 op, .int .i64 a, .int .i64 b, .int .i64 c, .int .i64 n]), (g1, 32, (tll_c2 t r7))]) 1 rfl #[.int .i64 (getR t.R b 0), .int .i64 (getR t.R b 1), .int .i64 (getR t.R b 2)] (by (try subst e7); kernel_rfl) (Nat.le_of_ble_eq_true rfl) (by kernel_rfl) rfl 25 (by kernel_rfl)
        have hK7 := hK7.store hF (.inr hK7_g4q9)
        refine op_none (w' := W4q11) (a' := (up (tll_b16 t op a b c n g1 g3 g5 r7 sn9) [(6, .pointer (some ⟨g4q8, 0, none⟩)), (7, .pointer (some ⟨g4q9, 0, none⟩)), (30, .agg #[.int .i64 (getR t.R a 0), .int .i64 (getR t.R a 1), .int .i64 (getR t.R a 2)]), (33, .int .i64 b), (34, .agg #[.int .i64 (getR t.R b 0), .int .i64 (getR t.R b 1), .int .i64 (getR t.R b 2)])])) rfl (by kernel_rfl) (Eq.trans (b := (do Instr.storeAt 25 (.pointer (some ⟨g4q9, 0, none⟩)) (.agg #[.int .i64 (getR t.R b 0), .int .i64 (getR t.R b 1), .int .i64 (getR t.R b 2)]); pure Next.skip : Sem Next).run Try.prog W4q10) (by kernel_rfl) (st_unit hr)) (by kernel_rfl) ?_
        refine ⟨hW.tail.tail, ?_⟩
        refine wpAnyH_done (by kernel_rfl) ?_ _
        have hW := hW.swap
        simp only [Exit.then]
        exact ⟨g4q8, g4q9, rfl, hW, hK7, hK7_g4q8, hK7_g4q9⟩
      refine all_cons ?_ ?_
      · skip
        obtain ⟨g4q8, W4q8, hr, hW, hbb, hge⟩ := hW.mk1 (P := Try.prog) (s := Instr.alloc 25 true (.tuple #[])) #[.int .i64 0, .int .i64 0, .int .i64 0] 25 (by kernel_rfl)
        have hK7_g4q8 := Nat.le_trans hK7.size hge
        have hK7 := hK7.below hbb
        refine op_val (w' := W4q8) (a' := (up (tll_b16 t op a b c n g1 g3 g5 r7 sn9) [(6, .pointer (some ⟨g4q8, 0, none⟩)), (33, .int .i64 b)])) (.pointer (some ⟨g4q8, 0, none⟩)) rfl (by kernel_rfl) (Eq.trans (b := (do pure (Next.value (← Instr.alloc 25 true (.tuple #[]))) : Sem Next).run Try.prog W10.drew) (by kernel_rfl) (st_val hr)) (by kernel_rfl) ?_
        refine ⟨hW.tail, ?_⟩
        refine wpAnyH_all (rs := [3, 9]) (by kernel_rfl) (by simp) ?_
        refine all_cons ?_ ?_
        · skip
          refine op_call rfl (th_Get (⟨t.pc, t.fu, t.st, t.R, t.kd, t.mi, t.mn, r7.s, r7.b, r7.n, t.old⟩ : Th) a W4q8) (by kernel_rfl) (by kernel_rfl) ?_
          rintro _ W4q3 ⟨rfl, hB⟩
          have hW := hW.step hB
          have hK7 := hK7.below hB
          refine ⟨_, (up (tll_b16 t op a b c n g1 g3 g5 r7 sn9) [(6, .pointer (some ⟨g4q8, 0, none⟩)), (30, .agg #[.int .i64 (getR t.R a 0), .int .i64 (getR t.R a 1), .int .i64 (getR t.R a 2)]), (33, .int .i64 b)]), rfl, by (try subst e7); kernel_rfl, ?_⟩
          refine ⟨hW.tail, ?_⟩
          refine wpAnyH_all (rs := [7, 9]) (by kernel_rfl) (by simp) ?_
          refine all_cons ?_ ?_
          · skip
            refine op_call rfl (th_Get (⟨t.pc, t.fu, t.st, t.R, t.kd, t.mi, t.mn, r7.s, r7.b, r7.n, t.old⟩ : Th) b W4q3) (by kernel_rfl) (by kernel_rfl) ?_
            rintro _ W4q7 ⟨rfl, hB⟩
            have hW := hW.step hB
            have hK7 := hK7.below hB
            refine ⟨_, (up (tll_b16 t op a b c n g1 g3 g5 r7 sn9) [(6, .pointer (some ⟨g4q8, 0, none⟩)), (30, .agg #[.int .i64 (getR t.R a 0), .int .i64 (getR t.R a 1), .int .i64 (getR t.R a 2)]), (33, .int .i64 b), (34, .agg #[.int .i64 (getR t.R b 0), .int .i64 (getR t.R b 1), .int .i64 (getR t.R b 2)])]), rfl, by (try subst e7); kernel_rfl, ?_⟩
            refine ⟨hW.tail, ?_⟩
            refine wpAnyH_all (rs := [9]) (by kernel_rfl) (by simp) ?_
            refine all_cons ?_ all_nil
            obtain ⟨g4q9, W4q9, hr, hW, hbb, hge⟩ := hW.mk1 (P := Try.prog) (s := Instr.alloc 25 true (.tuple #[])) #[.int .i64 0, .int .i64 0, .int .i64 0] 25 (by kernel_rfl)
            have hK7_g4q9 := Nat.le_trans hK7.size hge
            have hK7 := hK7.below hbb
            refine op_val (w' := W4q9) (a' := (up (tll_b16 t op a b c n g1 g3 g5 r7 sn9) [(6, .pointer (some ⟨g4q8, 0, none⟩)), (7, .pointer (some ⟨g4q9, 0, none⟩)), (30, .agg #[.int .i64 (getR t.R a 0), .int .i64 (getR t.R a 1), .int .i64 (getR t.R a 2)]), (33, .int .i64 b), (34, .agg #[.int .i64 (getR t.R b 0), .int .i64 (getR t.R b 1), .int .i64 (getR t.R b 2)])])) (.pointer (some ⟨g4q9, 0, none⟩)) rfl (by kernel_rfl) (Eq.trans (b := (do pure (Next.value (← Instr.alloc 25 true (.tuple #[]))) : Sem Next).run Try.prog W4q7) (by kernel_rfl) (st_val hr)) (by kernel_rfl) ?_
            refine ⟨hW.tail.tail, ?_⟩
            refine wpAnyH_all (rs := [10]) (by kernel_rfl) (by simp) ?_
            refine all_cons ?_ all_nil
            obtain ⟨W4q10, hr, hW, hF⟩ := hW.storeN (P := Try.prog) (o := 0) (cs' := #[.int .i64 (getR t.R a 0), .int .i64 (getR t.R a 1), .int .i64 (getR t.R a 2)]) (L' := [(g4q9, 25, #[.int .i64 0, .int .i64 0, .int .i64 0]), (g4q8, 25, #[.int .i64 (getR t.R a 0), .int .i64 (getR t.R a 1), .int .i64 (getR t.R a 2)]), (g5, 32, tll_c1), (g3, 45, #[.int .i64 op, .int .i64 a, .int .i64 b, .int .i64 c, .int .i64 n]), (g1, 32, (tll_c2 t r7))]) 1 rfl #[.int .i64 (getR t.R a 0), .int .i64 (getR t.R a 1), .int .i64 (getR t.R a 2)] (by (try subst e7); kernel_rfl) (Nat.le_of_ble_eq_true rfl) (by kernel_rfl) rfl 25 (by kernel_rfl)
            have hK7 := hK7.store hF (.inr hK7_g4q8)
            refine op_none (w' := W4q10) (a' := (up (tll_b16 t op a b c n g1 g3 g5 r7 sn9) [(6, .pointer (some ⟨g4q8, 0, none⟩)), (7, .pointer (some ⟨g4q9, 0, none⟩)), (30, .agg #[.int .i64 (getR t.R a 0), .int .i64 (getR t.R a 1), .int .i64 (getR t.R a 2)]), (33, .int .i64 b), (34, .agg #[.int .i64 (getR t.R b 0), .int .i64 (getR t.R b 1), .int .i64 (getR t.R b 2)])])) rfl (by kernel_rfl) (Eq.trans (b := (do Instr.storeAt 25 (.pointer (some ⟨g4q8, 0, none⟩)) (.agg #[.int .i64 (getR t.R a 0), .int .i64 (getR t.R a 1), .int .i64 (getR t.R a 2)]); pure Next.skip : Sem Next).run Try.prog W4q9) (by kernel_rfl) (st_unit hr)) (by kernel_rfl) ?_
            refine ⟨hW.tail.tail, ?_⟩
            refine wpAnyH_all (rs := [11]) (by kernel_rfl) (by simp) ?_
            refine all_cons ?_ all_nil
            obtain ⟨W4q11, hr, hW, hF⟩ := hW.storeN (P := Try.prog) (o := 0) (cs' := #[.int .i64 (getR t.R b 0), .int .i64 (getR t.R b 1), .int .i64 (getR t.R b 2)]) (L' := [(g4q9, 25, #[.int .i64 (getR t.R b 0), .int .i64 (getR t.R b 1), .int .i64 (getR t.R b 2)]), (g4q8, 25, #[.int .i64 (getR t.R a 0), .int .i64 (getR t.R a 1), .int .i64 (getR t.R a 2)]), (g5, 32, tll_c1), (g3, 45, #[.int .i64 op, .int .i64 a, .int .i64 b, .int .i64 c, .int .i64 n]), (g1, 32, (tll_c2 t r7))]) 0 rfl #[.int .i64 (getR t.R b 0), .int .i64 (getR t.R b 1), .int .i64 (getR t.R b 2)] (by (try subst e7); kernel_rfl) (Nat.le_of_ble_eq_true rfl) (by kernel_rfl) rfl 25 (by kernel_rfl)
            have hK7 := hK7.store hF (.inr hK7_g4q9)
            refine op_none (w' := W4q11) (a' := (up (tll_b16 t op a b c n g1 g3 g5 r7 sn9) [(6, .pointer (some ⟨g4q8, 0, none⟩)), (7, .pointer (some ⟨g4q9, 0, none⟩)), (30, .agg #[.int .i64 (getR t.R a 0), .int .i64 (getR t.R a 1), .int .i64 (getR t.R a 2)]), (33, .int .i64 b), (34, .agg #[.int .i64 (getR t.R b 0), .int .i64 (getR t.R b 1), .int .i64 (getR t.R b 2)])])) rfl (by kernel_rfl) (Eq.trans (b := (do Instr.storeAt 25 (.pointer (some ⟨g4q9, 0, none⟩)) (.agg #[.int .i64 (getR t.R b 0), .int .i64 (getR t.R b 1), .int .i64 (getR t.R b 2)]); pure Next.skip : Sem Next).run Try.prog W4q10) (by kernel_rfl) (st_unit hr)) (by kernel_rfl) ?_
            refine ⟨hW.tail.tail, ?_⟩
            refine wpAnyH_done (by kernel_rfl) ?_ _
            simp only [Exit.then]
            exact ⟨g4q8, g4q9, rfl, hW, hK7, hK7_g4q8, hK7_g4q9⟩
          refine all_cons ?_ all_nil
          obtain ⟨g4q9, W4q9, hr, hW, hbb, hge⟩ := hW.mk1 (P := Try.prog) (s := Instr.alloc 25 true (.tuple #[])) #[.int .i64 0, .int .i64 0, .int .i64 0] 25 (by kernel_rfl)
          have hK7_g4q9 := Nat.le_trans hK7.size hge
          have hK7 := hK7.below hbb
          refine op_val (w' := W4q9) (a' := (up (tll_b16 t op a b c n g1 g3 g5 r7 sn9) [(6, .pointer (some ⟨g4q8, 0, none⟩)), (7, .pointer (some ⟨g4q9, 0, none⟩)), (30, .agg #[.int .i64 (getR t.R a 0), .int .i64 (getR t.R a 1), .int .i64 (getR t.R a 2)]), (33, .int .i64 b)])) (.pointer (some ⟨g4q9, 0, none⟩)) rfl (by kernel_rfl) (Eq.trans (b := (do pure (Next.value (← Instr.alloc 25 true (.tuple #[]))) : Sem Next).run Try.prog W4q3) (by kernel_rfl) (st_val hr)) (by kernel_rfl) ?_
          refine ⟨hW.tail.tail, ?_⟩
          refine wpAnyH_all (rs := [7]) (by kernel_rfl) (by simp) ?_
          refine all_cons ?_ all_nil
          refine op_call rfl (th_Get (⟨t.pc, t.fu, t.st, t.R, t.kd, t.mi, t.mn, r7.s, r7.b, r7.n, t.old⟩ : Th) b W4q9) (by kernel_rfl) (by kernel_rfl) ?_
          rintro _ W4q7 ⟨rfl, hB⟩
          have hW := hW.step hB
          have hK7 := hK7.below hB
          refine ⟨_, (up (tll_b16 t op a b c n g1 g3 g5 r7 sn9) [(6, .pointer (some ⟨g4q8, 0, none⟩)), (7, .pointer (some ⟨g4q9, 0, none⟩)), (30, .agg #[.int .i64 (getR t.R a 0), .int .i64 (getR t.R a 1), .int .i64 (getR t.R a 2)]), (33, .int .i64 b), (34, .agg #[.int .i64 (getR t.R b 0), .int .i64 (getR t.R b 1), .int .i64 (getR t.R b 2)])]), rfl, by (try subst e7); kernel_rfl, ?_⟩
          refine ⟨hW.tail.tail, ?_⟩
          refine wpAnyH_all (rs := [10]) (by kernel_rfl) (by simp) ?_
          refine all_cons ?_ all_nil
          obtain ⟨W4q10, hr, hW, hF⟩ := hW.storeN (P := Try.prog) (o := 0) (cs' := #[.int .i64 (getR t.R a 0), .int .i64 (getR t.R a 1), .int .i64 (getR t.R a 2)]) (L' := [(g4q9, 25, #[.int .i64 0, .int .i64 0, .int .i64 0]), (g4q8, 25, #[.int .i64 (getR t.R a 0), .int .i64 (getR t.R a 1), .int .i64 (getR t.R a 2)]), (g5, 32, tll_c1), (g3, 45, #[.int .i64 op, .int .i64 a, .int .i64 b, .int .i64 c, .int .i64 n]), (g1, 32, (tll_c2 t r7))]) 1 rfl #[.int .i64 (getR t.R a 0), .int .i64 (getR t.R a 1), .int .i64 (getR t.R a 2)] (by (try subst e7); kernel_rfl) (Nat.le_of_ble_eq_true rfl) (by kernel_rfl) rfl 25 (by kernel_rfl)
          have hK7 := hK7.store hF (.inr hK7_g4q8)
          refine op_none (w' := W4q10) (a' := (up (tll_b16 t op a b c n g1 g3 g5 r7 sn9) [(6, .pointer (some ⟨g4q8, 0, none⟩)), (7, .pointer (some ⟨g4q9, 0, none⟩)), (30, .agg #[.int .i64 (getR t.R a 0), .int .i64 (getR t.R a 1), .int .i64 (getR t.R a 2)]), (33, .int .i64 b), (34, .agg #[.int .i64 (getR t.R b 0), .int .i64 (getR t.R b 1), .int .i64 (getR t.R b 2)])])) rfl (by kernel_rfl) (Eq.trans (b := (do Instr.storeAt 25 (.pointer (some ⟨g4q8, 0, none⟩)) (.agg #[.int .i64 (getR t.R a 0), .int .i64 (getR t.R a 1), .int .i64 (getR t.R a 2)]); pure Next.skip : Sem Next).run Try.prog W4q7) (by kernel_rfl) (st_unit hr)) (by kernel_rfl) ?_
          refine ⟨hW.tail.tail, ?_⟩
          refine wpAnyH_all (rs := [11]) (by kernel_rfl) (by simp) ?_
          refine all_cons ?_ all_nil
          obtain ⟨W4q11, hr, hW, hF⟩ := hW.storeN (P := Try.prog) (o := 0) (cs' := #[.int .i64 (getR t.R b 0), .int .i64 (getR t.R b 1), .int .i64 (getR t.R b 2)]) (L' := [(g4q9, 25, #[.int .i64 (getR t.R b 0), .int .i64 (getR t.R b 1), .int .i64 (getR t.R b 2)]), (g4q8, 25, #[.int .i64 (getR t.R a 0), .int .i64 (getR t.R a 1), .int .i64 (getR t.R a 2)]), (g5, 32, tll_c1), (g3, 45, #[.int .i64 op, .int .i64 a, .int .i64 b, .int .i64 c, .int .i64 n]), (g1, 32, (tll_c2 t r7))]) 0 rfl #[.int .i64 (getR t.R b 0), .int .i64 (getR t.R b 1), .int .i64 (getR t.R b 2)] (by (try subst e7); kernel_rfl) (Nat.le_of_ble_eq_true rfl) (by kernel_rfl) rfl 25 (by kernel_rfl)
          have hK7 := hK7.store hF (.inr hK7_g4q9)
          refine op_none (w' := W4q11) (a' := (up (tll_b16 t op a b c n g1 g3 g5 r7 sn9) [(6, .pointer (some ⟨g4q8, 0, none⟩)), (7, .pointer (some ⟨g4q9, 0, none⟩)), (30, .agg #[.int .i64 (getR t.R a 0), .int .i64 (getR t.R a 1), .int .i64 (getR t.R a 2)]), (33, .int .i64 b), (34, .agg #[.int .i64 (getR t.R b 0), .int .i64 (getR t.R b 1), .int .i64 (getR t.R b 2)])])) rfl (by kernel_rfl) (Eq.trans (b := (do Instr.storeAt 25 (.pointer (some ⟨g4q9, 0, none⟩)) (.agg #[.int .i64 (getR t.R b 0), .int .i64 (getR t.R b 1), .int .i64 (getR t.R b 2)]); pure Next.skip : Sem Next).run Try.prog W4q10) (by kernel_rfl) (st_unit hr)) (by kernel_rfl) ?_
          refine ⟨hW.tail.tail, ?_⟩
          refine wpAnyH_done (by kernel_rfl) ?_ _
          simp only [Exit.then]
          exact ⟨g4q8, g4q9, rfl, hW, hK7, hK7_g4q8, hK7_g4q9⟩
        refine all_cons ?_ all_nil
        obtain ⟨g4q9, W4q9, hr, hW, hbb, hge⟩ := hW.mk1 (P := Try.prog) (s := Instr.alloc 25 true (.tuple #[])) #[.int .i64 0, .int .i64 0, .int .i64 0] 25 (by kernel_rfl)
        have hK7_g4q9 := Nat.le_trans hK7.size hge
        have hK7 := hK7.below hbb
        refine op_val (w' := W4q9) (a' := (up (tll_b16 t op a b c n g1 g3 g5 r7 sn9) [(6, .pointer (some ⟨g4q8, 0, none⟩)), (7, .pointer (some ⟨g4q9, 0, none⟩)), (33, .int .i64 b)])) (.pointer (some ⟨g4q9, 0, none⟩)) rfl (by kernel_rfl) (Eq.trans (b := (do pure (Next.value (← Instr.alloc 25 true (.tuple #[]))) : Sem Next).run Try.prog W4q8) (by kernel_rfl) (st_val hr)) (by kernel_rfl) ?_
        refine ⟨hW.tail.tail, ?_⟩
        refine wpAnyH_all (rs := [3]) (by kernel_rfl) (by simp) ?_
        refine all_cons ?_ all_nil
        refine op_call rfl (th_Get (⟨t.pc, t.fu, t.st, t.R, t.kd, t.mi, t.mn, r7.s, r7.b, r7.n, t.old⟩ : Th) a W4q9) (by kernel_rfl) (by kernel_rfl) ?_
        rintro _ W4q3 ⟨rfl, hB⟩
        have hW := hW.step hB
        have hK7 := hK7.below hB
        refine ⟨_, (up (tll_b16 t op a b c n g1 g3 g5 r7 sn9) [(6, .pointer (some ⟨g4q8, 0, none⟩)), (7, .pointer (some ⟨g4q9, 0, none⟩)), (30, .agg #[.int .i64 (getR t.R a 0), .int .i64 (getR t.R a 1), .int .i64 (getR t.R a 2)]), (33, .int .i64 b)]), rfl, by (try subst e7); kernel_rfl, ?_⟩
        refine ⟨hW.tail.tail, ?_⟩
        refine wpAnyH_all (rs := [7]) (by kernel_rfl) (by simp) ?_
        refine all_cons ?_ all_nil
        refine op_call rfl (th_Get (⟨t.pc, t.fu, t.st, t.R, t.kd, t.mi, t.mn, r7.s, r7.b, r7.n, t.old⟩ : Th) b W4q3) (by kernel_rfl) (by kernel_rfl) ?_
        rintro _ W4q7 ⟨rfl, hB⟩
        have hW := hW.step hB
        have hK7 := hK7.below hB
        refine ⟨_, (up (tll_b16 t op a b c n g1 g3 g5 r7 sn9) [(6, .pointer (some ⟨g4q8, 0, none⟩)), (7, .pointer (some ⟨g4q9, 0, none⟩)), (30, .agg #[.int .i64 (getR t.R a 0), .int .i64 (getR t.R a 1), .int .i64 (getR t.R a 2)]), (33, .int .i64 b), (34, .agg #[.int .i64 (getR t.R b 0), .int .i64 (getR t.R b 1), .int .i64 (getR t.R b 2)])]), rfl, by (try subst e7); kernel_rfl, ?_⟩
        refine ⟨hW.tail.tail, ?_⟩
        refine wpAnyH_all (rs := [10]) (by kernel_rfl) (by simp) ?_
        refine all_cons ?_ all_nil
        obtain ⟨W4q10, hr, hW, hF⟩ := hW.storeN (P := Try.prog) (o := 0) (cs' := #[.int .i64 (getR t.R a 0), .int .i64 (getR t.R a 1), .int .i64 (getR t.R a 2)]) (L' := [(g4q9, 25, #[.int .i64 0, .int .i64 0, .int .i64 0]), (g4q8, 25, #[.int .i64 (getR t.R a 0), .int .i64 (getR t.R a 1), .int .i64 (getR t.R a 2)]), (g5, 32, tll_c1), (g3, 45, #[.int .i64 op, .int .i64 a, .int .i64 b, .int .i64 c, .int .i64 n]), (g1, 32, (tll_c2 t r7))]) 1 rfl #[.int .i64 (getR t.R a 0), .int .i64 (getR t.R a 1), .int .i64 (getR t.R a 2)] (by (try subst e7); kernel_rfl) (Nat.le_of_ble_eq_true rfl) (by kernel_rfl) rfl 25 (by kernel_rfl)
        have hK7 := hK7.store hF (.inr hK7_g4q8)
        refine op_none (w' := W4q10) (a' := (up (tll_b16 t op a b c n g1 g3 g5 r7 sn9) [(6, .pointer (some ⟨g4q8, 0, none⟩)), (7, .pointer (some ⟨g4q9, 0, none⟩)), (30, .agg #[.int .i64 (getR t.R a 0), .int .i64 (getR t.R a 1), .int .i64 (getR t.R a 2)]), (33, .int .i64 b), (34, .agg #[.int .i64 (getR t.R b 0), .int .i64 (getR t.R b 1), .int .i64 (getR t.R b 2)])])) rfl (by kernel_rfl) (Eq.trans (b := (do Instr.storeAt 25 (.pointer (some ⟨g4q8, 0, none⟩)) (.agg #[.int .i64 (getR t.R a 0), .int .i64 (getR t.R a 1), .int .i64 (getR t.R a 2)]); pure Next.skip : Sem Next).run Try.prog W4q7) (by kernel_rfl) (st_unit hr)) (by kernel_rfl) ?_
        refine ⟨hW.tail.tail, ?_⟩
        refine wpAnyH_all (rs := [11]) (by kernel_rfl) (by simp) ?_
        refine all_cons ?_ all_nil
        obtain ⟨W4q11, hr, hW, hF⟩ := hW.storeN (P := Try.prog) (o := 0) (cs' := #[.int .i64 (getR t.R b 0), .int .i64 (getR t.R b 1), .int .i64 (getR t.R b 2)]) (L' := [(g4q9, 25, #[.int .i64 (getR t.R b 0), .int .i64 (getR t.R b 1), .int .i64 (getR t.R b 2)]), (g4q8, 25, #[.int .i64 (getR t.R a 0), .int .i64 (getR t.R a 1), .int .i64 (getR t.R a 2)]), (g5, 32, tll_c1), (g3, 45, #[.int .i64 op, .int .i64 a, .int .i64 b, .int .i64 c, .int .i64 n]), (g1, 32, (tll_c2 t r7))]) 0 rfl #[.int .i64 (getR t.R b 0), .int .i64 (getR t.R b 1), .int .i64 (getR t.R b 2)] (by (try subst e7); kernel_rfl) (Nat.le_of_ble_eq_true rfl) (by kernel_rfl) rfl 25 (by kernel_rfl)
        have hK7 := hK7.store hF (.inr hK7_g4q9)
        refine op_none (w' := W4q11) (a' := (up (tll_b16 t op a b c n g1 g3 g5 r7 sn9) [(6, .pointer (some ⟨g4q8, 0, none⟩)), (7, .pointer (some ⟨g4q9, 0, none⟩)), (30, .agg #[.int .i64 (getR t.R a 0), .int .i64 (getR t.R a 1), .int .i64 (getR t.R a 2)]), (33, .int .i64 b), (34, .agg #[.int .i64 (getR t.R b 0), .int .i64 (getR t.R b 1), .int .i64 (getR t.R b 2)])])) rfl (by kernel_rfl) (Eq.trans (b := (do Instr.storeAt 25 (.pointer (some ⟨g4q9, 0, none⟩)) (.agg #[.int .i64 (getR t.R b 0), .int .i64 (getR t.R b 1), .int .i64 (getR t.R b 2)]); pure Next.skip : Sem Next).run Try.prog W4q10) (by kernel_rfl) (st_unit hr)) (by kernel_rfl) ?_
        refine ⟨hW.tail.tail, ?_⟩
        refine wpAnyH_done (by kernel_rfl) ?_ _
        simp only [Exit.then]
        exact ⟨g4q8, g4q9, rfl, hW, hK7, hK7_g4q8, hK7_g4q9⟩
      refine all_cons ?_ all_nil
      obtain ⟨g4q9, W4q9, hr, hW, hbb, hge⟩ := hW.mk1 (P := Try.prog) (s := Instr.alloc 25 true (.tuple #[])) #[.int .i64 0, .int .i64 0, .int .i64 0] 25 (by kernel_rfl)
      have hK7_g4q9 := Nat.le_trans hK7.size hge
      have hK7 := hK7.below hbb
      refine op_val (w' := W4q9) (a' := (up (tll_b16 t op a b c n g1 g3 g5 r7 sn9) [(7, .pointer (some ⟨g4q9, 0, none⟩)), (33, .int .i64 b)])) (.pointer (some ⟨g4q9, 0, none⟩)) rfl (by kernel_rfl) (Eq.trans (b := (do pure (Next.value (← Instr.alloc 25 true (.tuple #[]))) : Sem Next).run Try.prog W10.drew) (by kernel_rfl) (st_val hr)) (by kernel_rfl) ?_
      refine ⟨hW.tail, ?_⟩
      refine wpAnyH_all (rs := [3, 8]) (by kernel_rfl) (by simp) ?_
      refine all_cons ?_ ?_
      · skip
        refine op_call rfl (th_Get (⟨t.pc, t.fu, t.st, t.R, t.kd, t.mi, t.mn, r7.s, r7.b, r7.n, t.old⟩ : Th) a W4q9) (by kernel_rfl) (by kernel_rfl) ?_
        rintro _ W4q3 ⟨rfl, hB⟩
        have hW := hW.step hB
        have hK7 := hK7.below hB
        refine ⟨_, (up (tll_b16 t op a b c n g1 g3 g5 r7 sn9) [(7, .pointer (some ⟨g4q9, 0, none⟩)), (30, .agg #[.int .i64 (getR t.R a 0), .int .i64 (getR t.R a 1), .int .i64 (getR t.R a 2)]), (33, .int .i64 b)]), rfl, by (try subst e7); kernel_rfl, ?_⟩
        refine ⟨hW.tail, ?_⟩
        refine wpAnyH_all (rs := [7, 8]) (by kernel_rfl) (by simp) ?_
        refine all_cons ?_ ?_
        · skip
          refine op_call rfl (th_Get (⟨t.pc, t.fu, t.st, t.R, t.kd, t.mi, t.mn, r7.s, r7.b, r7.n, t.old⟩ : Th) b W4q3) (by kernel_rfl) (by kernel_rfl) ?_
          rintro _ W4q7 ⟨rfl, hB⟩
          have hW := hW.step hB
          have hK7 := hK7.below hB
          refine ⟨_, (up (tll_b16 t op a b c n g1 g3 g5 r7 sn9) [(7, .pointer (some ⟨g4q9, 0, none⟩)), (30, .agg #[.int .i64 (getR t.R a 0), .int .i64 (getR t.R a 1), .int .i64 (getR t.R a 2)]), (33, .int .i64 b), (34, .agg #[.int .i64 (getR t.R b 0), .int .i64 (getR t.R b 1), .int .i64 (getR t.R b 2)])]), rfl, by (try subst e7); kernel_rfl, ?_⟩
          refine ⟨hW.tail, ?_⟩
          refine wpAnyH_all (rs := [8]) (by kernel_rfl) (by simp) ?_
          refine all_cons ?_ all_nil
          obtain ⟨g4q8, W4q8, hr, hW, hbb, hge⟩ := hW.mk1 (P := Try.prog) (s := Instr.alloc 25 true (.tuple #[])) #[.int .i64 0, .int .i64 0, .int .i64 0] 25 (by kernel_rfl)
          have hK7_g4q8 := Nat.le_trans hK7.size hge
          have hK7 := hK7.below hbb
          refine op_val (w' := W4q8) (a' := (up (tll_b16 t op a b c n g1 g3 g5 r7 sn9) [(6, .pointer (some ⟨g4q8, 0, none⟩)), (7, .pointer (some ⟨g4q9, 0, none⟩)), (30, .agg #[.int .i64 (getR t.R a 0), .int .i64 (getR t.R a 1), .int .i64 (getR t.R a 2)]), (33, .int .i64 b), (34, .agg #[.int .i64 (getR t.R b 0), .int .i64 (getR t.R b 1), .int .i64 (getR t.R b 2)])])) (.pointer (some ⟨g4q8, 0, none⟩)) rfl (by kernel_rfl) (Eq.trans (b := (do pure (Next.value (← Instr.alloc 25 true (.tuple #[]))) : Sem Next).run Try.prog W4q7) (by kernel_rfl) (st_val hr)) (by kernel_rfl) ?_
          refine ⟨hW.tail.tail, ?_⟩
          refine wpAnyH_all (rs := [10]) (by kernel_rfl) (by simp) ?_
          refine all_cons ?_ all_nil
          obtain ⟨W4q10, hr, hW, hF⟩ := hW.storeN (P := Try.prog) (o := 0) (cs' := #[.int .i64 (getR t.R a 0), .int .i64 (getR t.R a 1), .int .i64 (getR t.R a 2)]) (L' := [(g4q8, 25, #[.int .i64 (getR t.R a 0), .int .i64 (getR t.R a 1), .int .i64 (getR t.R a 2)]), (g4q9, 25, #[.int .i64 0, .int .i64 0, .int .i64 0]), (g5, 32, tll_c1), (g3, 45, #[.int .i64 op, .int .i64 a, .int .i64 b, .int .i64 c, .int .i64 n]), (g1, 32, (tll_c2 t r7))]) 0 rfl #[.int .i64 (getR t.R a 0), .int .i64 (getR t.R a 1), .int .i64 (getR t.R a 2)] (by (try subst e7); kernel_rfl) (Nat.le_of_ble_eq_true rfl) (by kernel_rfl) rfl 25 (by kernel_rfl)
          have hK7 := hK7.store hF (.inr hK7_g4q8)
          refine op_none (w' := W4q10) (a' := (up (tll_b16 t op a b c n g1 g3 g5 r7 sn9) [(6, .pointer (some ⟨g4q8, 0, none⟩)), (7, .pointer (some ⟨g4q9, 0, none⟩)), (30, .agg #[.int .i64 (getR t.R a 0), .int .i64 (getR t.R a 1), .int .i64 (getR t.R a 2)]), (33, .int .i64 b), (34, .agg #[.int .i64 (getR t.R b 0), .int .i64 (getR t.R b 1), .int .i64 (getR t.R b 2)])])) rfl (by kernel_rfl) (Eq.trans (b := (do Instr.storeAt 25 (.pointer (some ⟨g4q8, 0, none⟩)) (.agg #[.int .i64 (getR t.R a 0), .int .i64 (getR t.R a 1), .int .i64 (getR t.R a 2)]); pure Next.skip : Sem Next).run Try.prog W4q8) (by kernel_rfl) (st_unit hr)) (by kernel_rfl) ?_
          refine ⟨hW.tail.tail, ?_⟩
          refine wpAnyH_all (rs := [11]) (by kernel_rfl) (by simp) ?_
          refine all_cons ?_ all_nil
          obtain ⟨W4q11, hr, hW, hF⟩ := hW.storeN (P := Try.prog) (o := 0) (cs' := #[.int .i64 (getR t.R b 0), .int .i64 (getR t.R b 1), .int .i64 (getR t.R b 2)]) (L' := [(g4q8, 25, #[.int .i64 (getR t.R a 0), .int .i64 (getR t.R a 1), .int .i64 (getR t.R a 2)]), (g4q9, 25, #[.int .i64 (getR t.R b 0), .int .i64 (getR t.R b 1), .int .i64 (getR t.R b 2)]), (g5, 32, tll_c1), (g3, 45, #[.int .i64 op, .int .i64 a, .int .i64 b, .int .i64 c, .int .i64 n]), (g1, 32, (tll_c2 t r7))]) 1 rfl #[.int .i64 (getR t.R b 0), .int .i64 (getR t.R b 1), .int .i64 (getR t.R b 2)] (by (try subst e7); kernel_rfl) (Nat.le_of_ble_eq_true rfl) (by kernel_rfl) rfl 25 (by kernel_rfl)
          have hK7 := hK7.store hF (.inr hK7_g4q9)
          refine op_none (w' := W4q11) (a' := (up (tll_b16 t op a b c n g1 g3 g5 r7 sn9) [(6, .pointer (some ⟨g4q8, 0, none⟩)), (7, .pointer (some ⟨g4q9, 0, none⟩)), (30, .agg #[.int .i64 (getR t.R a 0), .int .i64 (getR t.R a 1), .int .i64 (getR t.R a 2)]), (33, .int .i64 b), (34, .agg #[.int .i64 (getR t.R b 0), .int .i64 (getR t.R b 1), .int .i64 (getR t.R b 2)])])) rfl (by kernel_rfl) (Eq.trans (b := (do Instr.storeAt 25 (.pointer (some ⟨g4q9, 0, none⟩)) (.agg #[.int .i64 (getR t.R b 0), .int .i64 (getR t.R b 1), .int .i64 (getR t.R b 2)]); pure Next.skip : Sem Next).run Try.prog W4q10) (by kernel_rfl) (st_unit hr)) (by kernel_rfl) ?_
          refine ⟨hW.tail.tail, ?_⟩
          refine wpAnyH_done (by kernel_rfl) ?_ _
          have hW := hW.swap
          simp only [Exit.then]
          exact ⟨g4q8, g4q9, rfl, hW, hK7, hK7_g4q8, hK7_g4q9⟩
        refine all_cons ?_ all_nil
        obtain ⟨g4q8, W4q8, hr, hW, hbb, hge⟩ := hW.mk1 (P := Try.prog) (s := Instr.alloc 25 true (.tuple #[])) #[.int .i64 0, .int .i64 0, .int .i64 0] 25 (by kernel_rfl)
        have hK7_g4q8 := Nat.le_trans hK7.size hge
        have hK7 := hK7.below hbb
        refine op_val (w' := W4q8) (a' := (up (tll_b16 t op a b c n g1 g3 g5 r7 sn9) [(6, .pointer (some ⟨g4q8, 0, none⟩)), (7, .pointer (some ⟨g4q9, 0, none⟩)), (30, .agg #[.int .i64 (getR t.R a 0), .int .i64 (getR t.R a 1), .int .i64 (getR t.R a 2)]), (33, .int .i64 b)])) (.pointer (some ⟨g4q8, 0, none⟩)) rfl (by kernel_rfl) (Eq.trans (b := (do pure (Next.value (← Instr.alloc 25 true (.tuple #[]))) : Sem Next).run Try.prog W4q3) (by kernel_rfl) (st_val hr)) (by kernel_rfl) ?_
        refine ⟨hW.tail.tail, ?_⟩
        refine wpAnyH_all (rs := [7]) (by kernel_rfl) (by simp) ?_
        refine all_cons ?_ all_nil
        refine op_call rfl (th_Get (⟨t.pc, t.fu, t.st, t.R, t.kd, t.mi, t.mn, r7.s, r7.b, r7.n, t.old⟩ : Th) b W4q8) (by kernel_rfl) (by kernel_rfl) ?_
        rintro _ W4q7 ⟨rfl, hB⟩
        have hW := hW.step hB
        have hK7 := hK7.below hB
        refine ⟨_, (up (tll_b16 t op a b c n g1 g3 g5 r7 sn9) [(6, .pointer (some ⟨g4q8, 0, none⟩)), (7, .pointer (some ⟨g4q9, 0, none⟩)), (30, .agg #[.int .i64 (getR t.R a 0), .int .i64 (getR t.R a 1), .int .i64 (getR t.R a 2)]), (33, .int .i64 b), (34, .agg #[.int .i64 (getR t.R b 0), .int .i64 (getR t.R b 1), .int .i64 (getR t.R b 2)])]), rfl, by (try subst e7); kernel_rfl, ?_⟩
        refine ⟨hW.tail.tail, ?_⟩
        refine wpAnyH_all (rs := [10]) (by kernel_rfl) (by simp) ?_
        refine all_cons ?_ all_nil
        obtain ⟨W4q10, hr, hW, hF⟩ := hW.storeN (P := Try.prog) (o := 0) (cs' := #[.int .i64 (getR t.R a 0), .int .i64 (getR t.R a 1), .int .i64 (getR t.R a 2)]) (L' := [(g4q8, 25, #[.int .i64 (getR t.R a 0), .int .i64 (getR t.R a 1), .int .i64 (getR t.R a 2)]), (g4q9, 25, #[.int .i64 0, .int .i64 0, .int .i64 0]), (g5, 32, tll_c1), (g3, 45, #[.int .i64 op, .int .i64 a, .int .i64 b, .int .i64 c, .int .i64 n]), (g1, 32, (tll_c2 t r7))]) 0 rfl #[.int .i64 (getR t.R a 0), .int .i64 (getR t.R a 1), .int .i64 (getR t.R a 2)] (by (try subst e7); kernel_rfl) (Nat.le_of_ble_eq_true rfl) (by kernel_rfl) rfl 25 (by kernel_rfl)
        have hK7 := hK7.store hF (.inr hK7_g4q8)
        refine op_none (w' := W4q10) (a' := (up (tll_b16 t op a b c n g1 g3 g5 r7 sn9) [(6, .pointer (some ⟨g4q8, 0, none⟩)), (7, .pointer (some ⟨g4q9, 0, none⟩)), (30, .agg #[.int .i64 (getR t.R a 0), .int .i64 (getR t.R a 1), .int .i64 (getR t.R a 2)]), (33, .int .i64 b), (34, .agg #[.int .i64 (getR t.R b 0), .int .i64 (getR t.R b 1), .int .i64 (getR t.R b 2)])])) rfl (by kernel_rfl) (Eq.trans (b := (do Instr.storeAt 25 (.pointer (some ⟨g4q8, 0, none⟩)) (.agg #[.int .i64 (getR t.R a 0), .int .i64 (getR t.R a 1), .int .i64 (getR t.R a 2)]); pure Next.skip : Sem Next).run Try.prog W4q7) (by kernel_rfl) (st_unit hr)) (by kernel_rfl) ?_
        refine ⟨hW.tail.tail, ?_⟩
        refine wpAnyH_all (rs := [11]) (by kernel_rfl) (by simp) ?_
        refine all_cons ?_ all_nil
        obtain ⟨W4q11, hr, hW, hF⟩ := hW.storeN (P := Try.prog) (o := 0) (cs' := #[.int .i64 (getR t.R b 0), .int .i64 (getR t.R b 1), .int .i64 (getR t.R b 2)]) (L' := [(g4q8, 25, #[.int .i64 (getR t.R a 0), .int .i64 (getR t.R a 1), .int .i64 (getR t.R a 2)]), (g4q9, 25, #[.int .i64 (getR t.R b 0), .int .i64 (getR t.R b 1), .int .i64 (getR t.R b 2)]), (g5, 32, tll_c1), (g3, 45, #[.int .i64 op, .int .i64 a, .int .i64 b, .int .i64 c, .int .i64 n]), (g1, 32, (tll_c2 t r7))]) 1 rfl #[.int .i64 (getR t.R b 0), .int .i64 (getR t.R b 1), .int .i64 (getR t.R b 2)] (by (try subst e7); kernel_rfl) (Nat.le_of_ble_eq_true rfl) (by kernel_rfl) rfl 25 (by kernel_rfl)
        have hK7 := hK7.store hF (.inr hK7_g4q9)
        refine op_none (w' := W4q11) (a' := (up (tll_b16 t op a b c n g1 g3 g5 r7 sn9) [(6, .pointer (some ⟨g4q8, 0, none⟩)), (7, .pointer (some ⟨g4q9, 0, none⟩)), (30, .agg #[.int .i64 (getR t.R a 0), .int .i64 (getR t.R a 1), .int .i64 (getR t.R a 2)]), (33, .int .i64 b), (34, .agg #[.int .i64 (getR t.R b 0), .int .i64 (getR t.R b 1), .int .i64 (getR t.R b 2)])])) rfl (by kernel_rfl) (Eq.trans (b := (do Instr.storeAt 25 (.pointer (some ⟨g4q9, 0, none⟩)) (.agg #[.int .i64 (getR t.R b 0), .int .i64 (getR t.R b 1), .int .i64 (getR t.R b 2)]); pure Next.skip : Sem Next).run Try.prog W4q10) (by kernel_rfl) (st_unit hr)) (by kernel_rfl) ?_
        refine ⟨hW.tail.tail, ?_⟩
        refine wpAnyH_done (by kernel_rfl) ?_ _
        have hW := hW.swap
        simp only [Exit.then]
        exact ⟨g4q8, g4q9, rfl, hW, hK7, hK7_g4q8, hK7_g4q9⟩
      refine all_cons ?_ all_nil
      obtain ⟨g4q8, W4q8, hr, hW, hbb, hge⟩ := hW.mk1 (P := Try.prog) (s := Instr.alloc 25 true (.tuple #[])) #[.int .i64 0, .int .i64 0, .int .i64 0] 25 (by kernel_rfl)
      have hK7_g4q8 := Nat.le_trans hK7.size hge
      have hK7 := hK7.below hbb
      refine op_val (w' := W4q8) (a' := (up (tll_b16 t op a b c n g1 g3 g5 r7 sn9) [(6, .pointer (some ⟨g4q8, 0, none⟩)), (7, .pointer (some ⟨g4q9, 0, none⟩)), (33, .int .i64 b)])) (.pointer (some ⟨g4q8, 0, none⟩)) rfl (by kernel_rfl) (Eq.trans (b := (do pure (Next.value (← Instr.alloc 25 true (.tuple #[]))) : Sem Next).run Try.prog W4q9) (by kernel_rfl) (st_val hr)) (by kernel_rfl) ?_
      refine ⟨hW.tail.tail, ?_⟩
      refine wpAnyH_all (rs := [3]) (by kernel_rfl) (by simp) ?_
      refine all_cons ?_ all_nil
      refine op_call rfl (th_Get (⟨t.pc, t.fu, t.st, t.R, t.kd, t.mi, t.mn, r7.s, r7.b, r7.n, t.old⟩ : Th) a W4q8) (by kernel_rfl) (by kernel_rfl) ?_
      rintro _ W4q3 ⟨rfl, hB⟩
      have hW := hW.step hB
      have hK7 := hK7.below hB
      refine ⟨_, (up (tll_b16 t op a b c n g1 g3 g5 r7 sn9) [(6, .pointer (some ⟨g4q8, 0, none⟩)), (7, .pointer (some ⟨g4q9, 0, none⟩)), (30, .agg #[.int .i64 (getR t.R a 0), .int .i64 (getR t.R a 1), .int .i64 (getR t.R a 2)]), (33, .int .i64 b)]), rfl, by (try subst e7); kernel_rfl, ?_⟩
      refine ⟨hW.tail.tail, ?_⟩
      refine wpAnyH_all (rs := [7]) (by kernel_rfl) (by simp) ?_
      refine all_cons ?_ all_nil
      refine op_call rfl (th_Get (⟨t.pc, t.fu, t.st, t.R, t.kd, t.mi, t.mn, r7.s, r7.b, r7.n, t.old⟩ : Th) b W4q3) (by kernel_rfl) (by kernel_rfl) ?_
      rintro _ W4q7 ⟨rfl, hB⟩
      have hW := hW.step hB
      have hK7 := hK7.below hB
      refine ⟨_, (up (tll_b16 t op a b c n g1 g3 g5 r7 sn9) [(6, .pointer (some ⟨g4q8, 0, none⟩)), (7, .pointer (some ⟨g4q9, 0, none⟩)), (30, .agg #[.int .i64 (getR t.R a 0), .int .i64 (getR t.R a 1), .int .i64 (getR t.R a 2)]), (33, .int .i64 b), (34, .agg #[.int .i64 (getR t.R b 0), .int .i64 (getR t.R b 1), .int .i64 (getR t.R b 2)])]), rfl, by (try subst e7); kernel_rfl, ?_⟩
      refine ⟨hW.tail.tail, ?_⟩
      refine wpAnyH_all (rs := [10]) (by kernel_rfl) (by simp) ?_
      refine all_cons ?_ all_nil
      obtain ⟨W4q10, hr, hW, hF⟩ := hW.storeN (P := Try.prog) (o := 0) (cs' := #[.int .i64 (getR t.R a 0), .int .i64 (getR t.R a 1), .int .i64 (getR t.R a 2)]) (L' := [(g4q8, 25, #[.int .i64 (getR t.R a 0), .int .i64 (getR t.R a 1), .int .i64 (getR t.R a 2)]), (g4q9, 25, #[.int .i64 0, .int .i64 0, .int .i64 0]), (g5, 32, tll_c1), (g3, 45, #[.int .i64 op, .int .i64 a, .int .i64 b, .int .i64 c, .int .i64 n]), (g1, 32, (tll_c2 t r7))]) 0 rfl #[.int .i64 (getR t.R a 0), .int .i64 (getR t.R a 1), .int .i64 (getR t.R a 2)] (by (try subst e7); kernel_rfl) (Nat.le_of_ble_eq_true rfl) (by kernel_rfl) rfl 25 (by kernel_rfl)
      have hK7 := hK7.store hF (.inr hK7_g4q8)
      refine op_none (w' := W4q10) (a' := (up (tll_b16 t op a b c n g1 g3 g5 r7 sn9) [(6, .pointer (some ⟨g4q8, 0, none⟩)), (7, .pointer (some ⟨g4q9, 0, none⟩)), (30, .agg #[.int .i64 (getR t.R a 0), .int .i64 (getR t.R a 1), .int .i64 (getR t.R a 2)]), (33, .int .i64 b), (34, .agg #[.int .i64 (getR t.R b 0), .int .i64 (getR t.R b 1), .int .i64 (getR t.R b 2)])])) rfl (by kernel_rfl) (Eq.trans (b := (do Instr.storeAt 25 (.pointer (some ⟨g4q8, 0, none⟩)) (.agg #[.int .i64 (getR t.R a 0), .int .i64 (getR t.R a 1), .int .i64 (getR t.R a 2)]); pure Next.skip : Sem Next).run Try.prog W4q7) (by kernel_rfl) (st_unit hr)) (by kernel_rfl) ?_
      refine ⟨hW.tail.tail, ?_⟩
      refine wpAnyH_all (rs := [11]) (by kernel_rfl) (by simp) ?_
      refine all_cons ?_ all_nil
      obtain ⟨W4q11, hr, hW, hF⟩ := hW.storeN (P := Try.prog) (o := 0) (cs' := #[.int .i64 (getR t.R b 0), .int .i64 (getR t.R b 1), .int .i64 (getR t.R b 2)]) (L' := [(g4q8, 25, #[.int .i64 (getR t.R a 0), .int .i64 (getR t.R a 1), .int .i64 (getR t.R a 2)]), (g4q9, 25, #[.int .i64 (getR t.R b 0), .int .i64 (getR t.R b 1), .int .i64 (getR t.R b 2)]), (g5, 32, tll_c1), (g3, 45, #[.int .i64 op, .int .i64 a, .int .i64 b, .int .i64 c, .int .i64 n]), (g1, 32, (tll_c2 t r7))]) 1 rfl #[.int .i64 (getR t.R b 0), .int .i64 (getR t.R b 1), .int .i64 (getR t.R b 2)] (by (try subst e7); kernel_rfl) (Nat.le_of_ble_eq_true rfl) (by kernel_rfl) rfl 25 (by kernel_rfl)
      have hK7 := hK7.store hF (.inr hK7_g4q9)
      refine op_none (w' := W4q11) (a' := (up (tll_b16 t op a b c n g1 g3 g5 r7 sn9) [(6, .pointer (some ⟨g4q8, 0, none⟩)), (7, .pointer (some ⟨g4q9, 0, none⟩)), (30, .agg #[.int .i64 (getR t.R a 0), .int .i64 (getR t.R a 1), .int .i64 (getR t.R a 2)]), (33, .int .i64 b), (34, .agg #[.int .i64 (getR t.R b 0), .int .i64 (getR t.R b 1), .int .i64 (getR t.R b 2)])])) rfl (by kernel_rfl) (Eq.trans (b := (do Instr.storeAt 25 (.pointer (some ⟨g4q9, 0, none⟩)) (.agg #[.int .i64 (getR t.R b 0), .int .i64 (getR t.R b 1), .int .i64 (getR t.R b 2)]); pure Next.skip : Sem Next).run Try.prog W4q10) (by kernel_rfl) (st_unit hr)) (by kernel_rfl) ?_
      refine ⟨hW.tail.tail, ?_⟩
      refine wpAnyH_done (by kernel_rfl) ?_ _
      have hW := hW.swap
      simp only [Exit.then]
      exact ⟨g4q8, g4q9, rfl, hW, hK7, hK7_g4q8, hK7_g4q9⟩
    rintro _ Wm4 ⟨g4q8, g4q9, rfl, hW, hK7, hK7_g4q8, hK7_g4q9⟩
    refine wp_seq ?_
    refine wp_seq ?_
    refine wp_region_list ?_
    refine skp (.pointer (some ⟨g3, 0, none⟩)) ?_
    refine se (a' := (up (tll_b20 t op a b c n g1 g3 g5 r7 sn9 g4q8 g4q9) [(36, .int .i64 op)])) (.int .i64 op) (ev1 hW 3 0 Try.underlying3) ?_
    refine wpList_nil ?_
    refine wp_block ?_
    refine wp_seq ?_
    rcases hq hop with rfl | rfl | rfl | rfl | ⟨rfl, hz⟩ | ⟨rfl, hz⟩ | ⟨rfl, hz⟩ | ⟨rfl, hz⟩ | ⟨rfl, hz⟩ | har
    · skip
      refine wp_region_list ?_
      refine skp (.bool true) ?_
      refine sk (a' := (up (tll_b25 t a b c n g1 g3 g5 r7 sn9 g4q8 g4q9) [(56, .bool true)])) (.bool true) ?_
      refine wpList_nil ?_
      refine wp_cond (t := true) (by kernel_rfl) ?_
      refine wp_region_list ?_
      refine sk (a' := (up (tll_b25 t a b c n g1 g3 g5 r7 sn9 g4q8 g4q9) [(56, .bool true), (58, .pointer (some ⟨g1, 2, none⟩))])) (.pointer (some ⟨g1, 2, none⟩)) ?_
      obtain ⟨W11, hr, hW, hF⟩ := hW.store1 (P := Try.prog) (o := 2) (cs' := (tll_c3 t r7)) (L' := [(g4q9, 25, #[.int .i64 (getR t.R b 0), .int .i64 (getR t.R b 1), .int .i64 (getR t.R b 2)]), (g4q8, 25, #[.int .i64 (getR t.R a 0), .int .i64 (getR t.R a 1), .int .i64 (getR t.R a 2)]), (g5, 32, tll_c1), (g3, 45, #[.int .i64 1, .int .i64 a, .int .i64 b, .int .i64 c, .int .i64 n]), (g1, 32, (tll_c3 t r7))]) 4 rfl (.int .i64 1) rfl (Nat.le_of_ble_eq_true rfl) (by rfl) rfl 3 (by kernel_rfl)
      have hK7 := hK7.store hF (.inl hK7_g1)
      refine st_none (w' := W11) (a' := (up (tll_b25 t a b c n g1 g3 g5 r7 sn9 g4q8 g4q9) [(56, .bool true), (58, .pointer (some ⟨g1, 2, none⟩))])) (by kernel_rfl) (Eq.trans (b := (do Instr.storeAt 3 (.pointer (some ⟨g1, 2, none⟩)) (.int .i64 1); pure Next.skip : Sem Next).run Try.prog Wm4) (by kernel_rfl) (st_unit hr)) (by kernel_rfl) ?_
      refine wpList_nil ?_
      refine wp_seq ?_
      refine wp_region_list ?_
      refine se (a' := (up (tll_b25 t a b c n g1 g3 g5 r7 sn9 g4q8 g4q9) [(56, .bool true), (58, .pointer (some ⟨g1, 2, none⟩)), (96, .agg (tll_c3 t r7))])) (.agg (tll_c3 t r7)) (evA hW 4 0 Try.underlying32) ?_
      obtain ⟨W12, hr, hW, hF⟩ := hW.storeN (P := Try.prog) (o := 0) (cs' := (tll_c3 t r7)) (L' := [(g4q9, 25, #[.int .i64 (getR t.R b 0), .int .i64 (getR t.R b 1), .int .i64 (getR t.R b 2)]), (g4q8, 25, #[.int .i64 (getR t.R a 0), .int .i64 (getR t.R a 1), .int .i64 (getR t.R a 2)]), (g5, 32, (tll_c3 t r7)), (g3, 45, #[.int .i64 1, .int .i64 a, .int .i64 b, .int .i64 c, .int .i64 n]), (g1, 32, (tll_c3 t r7))]) 2 rfl (tll_c3 t r7) (by (try subst e7); kernel_rfl) (Nat.le_of_ble_eq_true rfl) (by kernel_rfl) rfl 32 (by kernel_rfl)
      have hK7 := hK7.store hF (.inl hK7_g5)
      refine st_none (w' := W12) (a' := (up (tll_b25 t a b c n g1 g3 g5 r7 sn9 g4q8 g4q9) [(56, .bool true), (58, .pointer (some ⟨g1, 2, none⟩)), (96, .agg (tll_c3 t r7))])) (by kernel_rfl) (Eq.trans (b := (do Instr.storeAt 32 (.pointer (some ⟨g5, 0, none⟩)) (.agg (tll_c3 t r7)); pure Next.skip : Sem Next).run Try.prog W11) (by kernel_rfl) (st_unit hr)) (by kernel_rfl) ?_
      refine sk (a' := (up (tll_b25 t a b c n g1 g3 g5 r7 sn9 g4q8 g4q9) [(5, .bool true), (56, .bool true), (58, .pointer (some ⟨g1, 2, none⟩)), (96, .agg (tll_c3 t r7))])) (.bool true) ?_
      refine wpList_nil ?_
      refine wp_ret ?_
      (try simp only [Exit.then, Exit.inBlock])
      change bodyPost Try.prog Try.f21 _ .ret _ _
      refine bodyPost_ret (results_ct rfl _ _ g5 32 _ (0, 0) _ (by kernel_rfl) (hW.blk 2 _ _ _ rfl).1 Try.underlying32 rfl (by kernel_rfl)) rfl ?_
      have hloc : localT t 1 a b c n = ({ t with st := 1 }, true) := (by kernel_rfl)
      subst e7
      rw [hloc]
      exact ⟨As7, cs7, Ab7, cb7, An7, cn7, rfl, ⟨Kd.R_lower (hK7.R hO7.s) hK7_le, Kd.R_lower (hK7.R hO7.b) hK7_le, Kd.R_lower (hK7.R hO7.n) hK7_le⟩, hW.below⟩
    · skip
      refine wp_region_list ?_
      refine skp (.bool false) ?_
      refine sk (a' := (up (tll_b31 t a b c n g1 g3 g5 r7 sn9 g4q8 g4q9) [(56, .bool false)])) (.bool false) ?_
      refine wpList_nil ?_
      refine wp_cond (t := false) (by kernel_rfl) ?_
      refine wp_seq ?_
      refine wp_region_list ?_
      refine skp (.bool true) ?_
      refine sk (a' := (up (tll_b31 t a b c n g1 g3 g5 r7 sn9 g4q8 g4q9) [(56, .bool false), (59, .bool true), (60, .bool true)])) (.bool true) ?_
      refine wpList_nil ?_
      refine wp_cond (t := true) (by kernel_rfl) ?_
      have hW := hW.drew
      have hK7 := hK7.below (below_drew (Below.refl _ _))
      refine dd_begin 7 (fun W => Ws w W [(g4q9, 25, #[.int .i64 (getR t.R b 0), .int .i64 (getR t.R b 1), .int .i64 (getR t.R b 2)]), (g4q8, 25, #[.int .i64 (getR t.R a 0), .int .i64 (getR t.R a 1), .int .i64 (getR t.R a 2)]), (g5, 32, tll_c1), (g3, 45, #[.int .i64 2, .int .i64 a, .int .i64 b, .int .i64 c, .int .i64 n]), (g1, 32, (tll_c2 t r7))]) (by kernel_rfl) ?_
      refine dd_one 0 (a' := (up (tll_b31 t a b c n g1 g3 g5 r7 sn9 g4q8 g4q9) [(56, .bool false), (59, .bool true), (60, .bool true), (61, .agg (tll_c2 t r7))])) (.agg (tll_c2 t r7)) rfl (by kernel_rfl) (by kernel_rfl) (by kernel_rfl) (fun _ _ _ h => h) (by kernel_rfl) (by kernel_rfl) (by kernel_rfl) (fun W hH => (evA hH 4 0 Try.underlying32)) hW (by kernel_rfl) ?_
      refine dd_one 1 (a' := (up (tll_b31 t a b c n g1 g3 g5 r7 sn9 g4q8 g4q9) [(56, .bool false), (59, .bool true), (60, .bool true), (61, .agg (tll_c2 t r7)), (62, .pointer (some ⟨g3, 1, none⟩))])) (.pointer (some ⟨g3, 1, none⟩)) rfl (by kernel_rfl) (by kernel_rfl) (by kernel_rfl) (fun _ _ _ h => h) (by kernel_rfl) (by kernel_rfl) (by kernel_rfl) (fun W hH => by kernel_rfl) hW (by kernel_rfl) ?_
      refine dd_one 2 (a' := (up (tll_b33 t a b c n g1 g3 g5 r7 sn9 g4q8 g4q9) [])) (.int .i64 a) rfl (by kernel_rfl) (by kernel_rfl) (by kernel_rfl) (fun _ _ _ h => h) (by kernel_rfl) (by kernel_rfl) (by kernel_rfl) (fun W hH => (ev1 hH 3 1 Try.underlying3)) hW (by kernel_rfl) ?_
      refine dd_one 3 (a' := (up (tll_b33 t a b c n g1 g3 g5 r7 sn9 g4q8 g4q9) [(64, .pointer (some ⟨g3, 4, none⟩))])) (.pointer (some ⟨g3, 4, none⟩)) rfl (by kernel_rfl) (by kernel_rfl) (by kernel_rfl) (fun _ _ _ h => h) (by kernel_rfl) (by kernel_rfl) (by kernel_rfl) (fun W hH => by kernel_rfl) hW (by kernel_rfl) ?_
      refine dd_one 4 (a' := (up (tll_b33 t a b c n g1 g3 g5 r7 sn9 g4q8 g4q9) [(64, .pointer (some ⟨g3, 4, none⟩)), (65, .int .i64 n)])) (.int .i64 n) rfl (by kernel_rfl) (by kernel_rfl) (by kernel_rfl) (fun _ _ _ h => h) (by kernel_rfl) (by kernel_rfl) (by kernel_rfl) (fun W hH => (ev1 hH 3 4 Try.underlying2)) hW (by kernel_rfl) ?_
      refine dd_ready [5] (by kernel_rfl) rfl ?_
      refine all_cons ?_ all_nil
      refine op_call rfl (tag_Plain.calls n n 0 0 Wm4.drew rfl) (by kernel_rfl) (by kernel_rfl) ?_
      rintro _ W11 ⟨rfl, hB⟩
      have hW := hW.step hB
      have hK7 := hK7.below hB
      refine ⟨_, (up (tll_b33 t a b c n g1 g3 g5 r7 sn9 g4q8 g4q9) [(64, .pointer (some ⟨g3, 4, none⟩)), (65, .int .i64 n), (66, .agg #[.int .i64 n, .int .i64 0, .int .i64 0])]), rfl, by (try subst e7); kernel_rfl, ?_⟩
      refine ⟨(fun _ => hW), ?_⟩
      refine dd_ready [6] (by kernel_rfl) rfl ?_
      refine all_cons ?_ all_nil
      have hK12_g4q9 : g4q9 < W11.heap.size := blk_lt (hW.blk 0 _ _ _ rfl).1
      have hK12_g4q8 : g4q8 < W11.heap.size := blk_lt (hW.blk 1 _ _ _ rfl).1
      have hK12_g5 : g5 < W11.heap.size := blk_lt (hW.blk 2 _ _ _ rfl).1
      have hK12_g3 : g3 < W11.heap.size := blk_lt (hW.blk 3 _ _ _ rfl).1
      have hK12_g1 : g1 < W11.heap.size := blk_lt (hW.blk 4 _ _ _ rfl).1
      have hK12_le : w.heap.size ≤ W11.heap.size := hW.below.size
      refine op_call rfl (th_Set (t := (⟨t.pc, t.fu, t.st, t.R, t.kd, t.mi, t.mn, r7.s, r7.b, r7.n, t.old⟩ : Th)) (xs := xs) (bs := bs) (ns := ns) (by subst e7; exact ⟨(hO7.keep hK7).reads.s, (hO7.keep hK7).reads.b, (hO7.keep hK7).reads.n⟩) hl a n 0 0) (by kernel_rfl) (by kernel_rfl) ?_
      rintro _ W12 ⟨As12, cs12, Ab12, cb12, An12, cn12, rfl, hO12, hB⟩
      have hW := hW.step hB
      have hK7 := hK7.below hB
      have hK12 := KeepUp.refl W11.heap.size W12
      obtain ⟨r12, e12⟩ : ∃ r : Rw, r = ⟨.slice As12 xs.length cs12, .slice Ab12 bs.length cb12, .slice An12 ns.length cn12⟩ := ⟨_, rfl⟩
      refine ⟨_, (up (tll_b33 t a b c n g1 g3 g5 r7 sn9 g4q8 g4q9) [(64, .pointer (some ⟨g3, 4, none⟩)), (65, .int .i64 n), (66, .agg #[.int .i64 n, .int .i64 0, .int .i64 0]), (67, .agg (tll_c4 t a n r12))]), rfl, by (try subst e7); (try subst e12); kernel_rfl, ?_⟩
      refine ⟨(fun _ => hW), ?_⟩
      refine dd_ready [7] (by kernel_rfl) rfl ?_
      refine all_cons ?_ all_nil
      obtain ⟨W13, hr, hW, hF⟩ := hW.storeN (P := Try.prog) (o := 0) (cs' := (tll_c4 t a n r12)) (L' := [(g4q9, 25, #[.int .i64 (getR t.R b 0), .int .i64 (getR t.R b 1), .int .i64 (getR t.R b 2)]), (g4q8, 25, #[.int .i64 (getR t.R a 0), .int .i64 (getR t.R a 1), .int .i64 (getR t.R a 2)]), (g5, 32, tll_c1), (g3, 45, #[.int .i64 2, .int .i64 a, .int .i64 b, .int .i64 c, .int .i64 n]), (g1, 32, (tll_c4 t a n r12))]) 4 rfl (tll_c4 t a n r12) (by (try subst e7); (try subst e12); kernel_rfl) (Nat.le_of_ble_eq_true rfl) (by kernel_rfl) rfl 32 (by kernel_rfl)
      have hK7 := hK7.store hF (.inl hK7_g1)
      have hK12 := hK12.store hF (.inl hK12_g1)
      refine op_none (w' := W13) (a' := (up (tll_b33 t a b c n g1 g3 g5 r7 sn9 g4q8 g4q9) [(64, .pointer (some ⟨g3, 4, none⟩)), (65, .int .i64 n), (66, .agg #[.int .i64 n, .int .i64 0, .int .i64 0]), (67, .agg (tll_c4 t a n r12))])) rfl (by kernel_rfl) (Eq.trans (b := (do Instr.storeAt 32 (.pointer (some ⟨g1, 0, none⟩)) (.agg (tll_c4 t a n r12)); pure Next.skip : Sem Next).run Try.prog W12) (by kernel_rfl) (st_unit hr)) (by kernel_rfl) ?_
      refine ⟨(fun h => by cases (show true = false from h)), ?_⟩
      refine dd_done (by kernel_rfl) ?_ _
      refine wp_seq ?_
      refine wp_region_list ?_
      refine se (a' := (up (tll_b33 t a b c n g1 g3 g5 r7 sn9 g4q8 g4q9) [(64, .pointer (some ⟨g3, 4, none⟩)), (65, .int .i64 n), (66, .agg #[.int .i64 n, .int .i64 0, .int .i64 0]), (67, .agg (tll_c4 t a n r12)), (96, .agg (tll_c4 t a n r12))])) (.agg (tll_c4 t a n r12)) (evA hW 4 0 Try.underlying32) ?_
      obtain ⟨W14, hr, hW, hF⟩ := hW.storeN (P := Try.prog) (o := 0) (cs' := (tll_c4 t a n r12)) (L' := [(g4q9, 25, #[.int .i64 (getR t.R b 0), .int .i64 (getR t.R b 1), .int .i64 (getR t.R b 2)]), (g4q8, 25, #[.int .i64 (getR t.R a 0), .int .i64 (getR t.R a 1), .int .i64 (getR t.R a 2)]), (g5, 32, (tll_c4 t a n r12)), (g3, 45, #[.int .i64 2, .int .i64 a, .int .i64 b, .int .i64 c, .int .i64 n]), (g1, 32, (tll_c4 t a n r12))]) 2 rfl (tll_c4 t a n r12) (by (try subst e7); (try subst e12); kernel_rfl) (Nat.le_of_ble_eq_true rfl) (by kernel_rfl) rfl 32 (by kernel_rfl)
      have hK7 := hK7.store hF (.inl hK7_g5)
      have hK12 := hK12.store hF (.inl hK12_g5)
      refine st_none (w' := W14) (a' := (up (tll_b33 t a b c n g1 g3 g5 r7 sn9 g4q8 g4q9) [(64, .pointer (some ⟨g3, 4, none⟩)), (65, .int .i64 n), (66, .agg #[.int .i64 n, .int .i64 0, .int .i64 0]), (67, .agg (tll_c4 t a n r12)), (96, .agg (tll_c4 t a n r12))])) (by kernel_rfl) (Eq.trans (b := (do Instr.storeAt 32 (.pointer (some ⟨g5, 0, none⟩)) (.agg (tll_c4 t a n r12)); pure Next.skip : Sem Next).run Try.prog W13) (by kernel_rfl) (st_unit hr)) (by kernel_rfl) ?_
      refine sk (a' := (up (tll_b38 t a b c n g1 g3 g5 r7 sn9 g4q8 g4q9 r12) [])) (.bool true) ?_
      refine wpList_nil ?_
      refine wp_ret ?_
      (try simp only [Exit.then, Exit.inBlock])
      change bodyPost Try.prog Try.f21 _ .ret _ _
      refine bodyPost_ret (results_ct rfl _ _ g5 32 _ (0, 0) _ (by kernel_rfl) (hW.blk 2 _ _ _ rfl).1 Try.underlying32 rfl (by kernel_rfl)) rfl ?_
      have hloc : localT t 2 a b c n = ({ t with R := setR t.R a n 0 0 }, true) := (by kernel_rfl)
      subst e12
      rw [hloc]
      exact ⟨As12, cs12, Ab12, cb12, An12, cn12, rfl, ⟨Kd.R_lower (hK12.R hO12.s) hK12_le, Kd.R_lower (hK12.R hO12.b) hK12_le, Kd.R_lower (hK12.R hO12.n) hK12_le⟩, hW.below⟩
    · skip
      refine wp_region_list ?_
      refine skp (.bool false) ?_
      refine sk (a' := (up (tll_b42 t a b c n g1 g3 g5 r7 sn9 g4q8 g4q9) [(56, .bool false)])) (.bool false) ?_
      refine wpList_nil ?_
      refine wp_cond (t := false) (by kernel_rfl) ?_
      refine wp_seq ?_
      refine wp_region_list ?_
      refine skp (.bool false) ?_
      refine sk (a' := (up (tll_b42 t a b c n g1 g3 g5 r7 sn9 g4q8 g4q9) [(56, .bool false), (59, .bool false), (60, .bool false)])) (.bool false) ?_
      refine wpList_nil ?_
      refine wp_cond (t := false) (by kernel_rfl) ?_
      refine wp_seq ?_
      refine wp_region_list ?_
      refine skp (.bool true) ?_
      refine sk (a' := (up (tll_b42 t a b c n g1 g3 g5 r7 sn9 g4q8 g4q9) [(56, .bool false), (59, .bool false), (60, .bool false), (68, .bool true), (69, .bool true)])) (.bool true) ?_
      refine wpList_nil ?_
      refine wp_cond (t := true) (by kernel_rfl) ?_
      refine wp_region_list ?_
      refine sep (.agg (tll_c2 t r7)) (evA hW 4 0 Try.underlying32) ?_
      refine skp (.pointer (some ⟨g3, 1, none⟩)) ?_
      refine se (a' := (up (tll_b45 t a b c n g1 g3 g5 r7 sn9 g4q8 g4q9) [(71, .pointer (some ⟨g3, 1, none⟩)), (72, .int .i64 a)])) (.int .i64 a) (ev1 hW 3 1 Try.underlying3) ?_
      refine se (a' := (up (tll_b45 t a b c n g1 g3 g5 r7 sn9 g4q8 g4q9) [(71, .pointer (some ⟨g3, 1, none⟩)), (72, .int .i64 a), (73, .agg #[.int .i64 (getR t.R b 0), .int .i64 (getR t.R b 1), .int .i64 (getR t.R b 2)])])) (.agg #[.int .i64 (getR t.R b 0), .int .i64 (getR t.R b 1), .int .i64 (getR t.R b 2)]) (evA hW 0 0 Try.underlying25) ?_
      have hK11_g4q9 : g4q9 < Wm4.heap.size := blk_lt (hW.blk 0 _ _ _ rfl).1
      have hK11_g4q8 : g4q8 < Wm4.heap.size := blk_lt (hW.blk 1 _ _ _ rfl).1
      have hK11_g5 : g5 < Wm4.heap.size := blk_lt (hW.blk 2 _ _ _ rfl).1
      have hK11_g3 : g3 < Wm4.heap.size := blk_lt (hW.blk 3 _ _ _ rfl).1
      have hK11_g1 : g1 < Wm4.heap.size := blk_lt (hW.blk 4 _ _ _ rfl).1
      have hK11_le : w.heap.size ≤ Wm4.heap.size := hW.below.size
      refine st_call (th_Set (t := (⟨t.pc, t.fu, t.st, t.R, t.kd, t.mi, t.mn, r7.s, r7.b, r7.n, t.old⟩ : Th)) (xs := xs) (bs := bs) (ns := ns) (by subst e7; exact ⟨(hO7.keep hK7).reads.s, (hO7.keep hK7).reads.b, (hO7.keep hK7).reads.n⟩) hl a (getR t.R b 0) (getR t.R b 1) (getR t.R b 2)) (by kernel_rfl) (by kernel_rfl) ?_
      rintro _ W11 ⟨As11, cs11, Ab11, cb11, An11, cn11, rfl, hO11, hB⟩
      have hW := hW.step hB
      have hK7 := hK7.below hB
      have hK11 := KeepUp.refl Wm4.heap.size W11
      obtain ⟨r11, e11⟩ : ∃ r : Rw, r = ⟨.slice As11 xs.length cs11, .slice Ab11 bs.length cb11, .slice An11 ns.length cn11⟩ := ⟨_, rfl⟩
      refine ⟨_, (up (tll_b45 t a b c n g1 g3 g5 r7 sn9 g4q8 g4q9) [(71, .pointer (some ⟨g3, 1, none⟩)), (72, .int .i64 a), (73, .agg #[.int .i64 (getR t.R b 0), .int .i64 (getR t.R b 1), .int .i64 (getR t.R b 2)]), (74, .agg (tll_c5 t a b r11))]), rfl, by (try subst e7); (try subst e11); kernel_rfl, ?_⟩
      obtain ⟨W12, hr, hW, hF⟩ := hW.storeN (P := Try.prog) (o := 0) (cs' := (tll_c5 t a b r11)) (L' := [(g4q9, 25, #[.int .i64 (getR t.R b 0), .int .i64 (getR t.R b 1), .int .i64 (getR t.R b 2)]), (g4q8, 25, #[.int .i64 (getR t.R a 0), .int .i64 (getR t.R a 1), .int .i64 (getR t.R a 2)]), (g5, 32, tll_c1), (g3, 45, #[.int .i64 3, .int .i64 a, .int .i64 b, .int .i64 c, .int .i64 n]), (g1, 32, (tll_c5 t a b r11))]) 4 rfl (tll_c5 t a b r11) (by (try subst e7); (try subst e11); kernel_rfl) (Nat.le_of_ble_eq_true rfl) (by kernel_rfl) rfl 32 (by kernel_rfl)
      have hK7 := hK7.store hF (.inl hK7_g1)
      have hK11 := hK11.store hF (.inl hK11_g1)
      refine st_none (w' := W12) (a' := (up (tll_b45 t a b c n g1 g3 g5 r7 sn9 g4q8 g4q9) [(71, .pointer (some ⟨g3, 1, none⟩)), (72, .int .i64 a), (73, .agg #[.int .i64 (getR t.R b 0), .int .i64 (getR t.R b 1), .int .i64 (getR t.R b 2)]), (74, .agg (tll_c5 t a b r11))])) (by kernel_rfl) (Eq.trans (b := (do Instr.storeAt 32 (.pointer (some ⟨g1, 0, none⟩)) (.agg (tll_c5 t a b r11)); pure Next.skip : Sem Next).run Try.prog W11) (by kernel_rfl) (st_unit hr)) (by kernel_rfl) ?_
      refine wpList_nil ?_
      refine wp_seq ?_
      refine wp_region_list ?_
      refine se (a' := (up (tll_b45 t a b c n g1 g3 g5 r7 sn9 g4q8 g4q9) [(71, .pointer (some ⟨g3, 1, none⟩)), (72, .int .i64 a), (73, .agg #[.int .i64 (getR t.R b 0), .int .i64 (getR t.R b 1), .int .i64 (getR t.R b 2)]), (74, .agg (tll_c5 t a b r11)), (96, .agg (tll_c5 t a b r11))])) (.agg (tll_c5 t a b r11)) (evA hW 4 0 Try.underlying32) ?_
      obtain ⟨W13, hr, hW, hF⟩ := hW.storeN (P := Try.prog) (o := 0) (cs' := (tll_c5 t a b r11)) (L' := [(g4q9, 25, #[.int .i64 (getR t.R b 0), .int .i64 (getR t.R b 1), .int .i64 (getR t.R b 2)]), (g4q8, 25, #[.int .i64 (getR t.R a 0), .int .i64 (getR t.R a 1), .int .i64 (getR t.R a 2)]), (g5, 32, (tll_c5 t a b r11)), (g3, 45, #[.int .i64 3, .int .i64 a, .int .i64 b, .int .i64 c, .int .i64 n]), (g1, 32, (tll_c5 t a b r11))]) 2 rfl (tll_c5 t a b r11) (by (try subst e7); (try subst e11); kernel_rfl) (Nat.le_of_ble_eq_true rfl) (by kernel_rfl) rfl 32 (by kernel_rfl)
      have hK7 := hK7.store hF (.inl hK7_g5)
      have hK11 := hK11.store hF (.inl hK11_g5)
      refine st_none (w' := W13) (a' := (up (tll_b45 t a b c n g1 g3 g5 r7 sn9 g4q8 g4q9) [(71, .pointer (some ⟨g3, 1, none⟩)), (72, .int .i64 a), (73, .agg #[.int .i64 (getR t.R b 0), .int .i64 (getR t.R b 1), .int .i64 (getR t.R b 2)]), (74, .agg (tll_c5 t a b r11)), (96, .agg (tll_c5 t a b r11))])) (by kernel_rfl) (Eq.trans (b := (do Instr.storeAt 32 (.pointer (some ⟨g5, 0, none⟩)) (.agg (tll_c5 t a b r11)); pure Next.skip : Sem Next).run Try.prog W12) (by kernel_rfl) (st_unit hr)) (by kernel_rfl) ?_
      refine sk (a' := (up (tll_b50 t a b c n g1 g3 g5 r7 sn9 g4q8 g4q9 r11) [])) (.bool true) ?_
      refine wpList_nil ?_
      refine wp_ret ?_
      (try simp only [Exit.then, Exit.inBlock])
      change bodyPost Try.prog Try.f21 _ .ret _ _
      refine bodyPost_ret (results_ct rfl _ _ g5 32 _ (0, 0) _ (by kernel_rfl) (hW.blk 2 _ _ _ rfl).1 Try.underlying32 rfl (by kernel_rfl)) rfl ?_
      have hloc : localT t 3 a b c n = ({ t with R := setR t.R a (getR t.R b 0) (getR t.R b 1) (getR t.R b 2) }, true) := (by kernel_rfl)
      subst e11
      rw [hloc]
      exact ⟨As11, cs11, Ab11, cb11, An11, cn11, rfl, ⟨Kd.R_lower (hK11.R hO11.s) hK11_le, Kd.R_lower (hK11.R hO11.b) hK11_le, Kd.R_lower (hK11.R hO11.n) hK11_le⟩, hW.below⟩
    · skip
      refine wp_region_list ?_
      refine skp (.bool false) ?_
      refine sk (a' := (up (tll_b54 t a b c n g1 g3 g5 r7 sn9 g4q8 g4q9) [(56, .bool false)])) (.bool false) ?_
      refine wpList_nil ?_
      refine wp_cond (t := false) (by kernel_rfl) ?_
      refine wp_seq ?_
      refine wp_region_list ?_
      refine skp (.bool false) ?_
      refine sk (a' := (up (tll_b54 t a b c n g1 g3 g5 r7 sn9 g4q8 g4q9) [(56, .bool false), (59, .bool false), (60, .bool false)])) (.bool false) ?_
      refine wpList_nil ?_
      refine wp_cond (t := false) (by kernel_rfl) ?_
      refine wp_seq ?_
      refine wp_region_list ?_
      refine skp (.bool false) ?_
      refine sk (a' := (up (tll_b54 t a b c n g1 g3 g5 r7 sn9 g4q8 g4q9) [(56, .bool false), (59, .bool false), (60, .bool false), (68, .bool false), (69, .bool false)])) (.bool false) ?_
      refine wpList_nil ?_
      refine wp_cond (t := false) (by kernel_rfl) ?_
      refine wp_seq ?_
      refine wp_region_list ?_
      refine skp (.bool true) ?_
      refine sk (a' := (up (tll_b56 t a b c n g1 g3 g5 r7 sn9 g4q8 g4q9) [(75, .bool true)])) (.bool true) ?_
      refine wpList_nil ?_
      refine wp_cond (t := true) (by kernel_rfl) ?_
      refine wp_region_list ?_
      refine skp (.pointer (some ⟨g3, 4, none⟩)) ?_
      refine sep (.int .i64 n) (ev1 hW 3 4 Try.underlying2) ?_
      refine sk (a' := (up (tll_b56 t a b c n g1 g3 g5 r7 sn9 g4q8 g4q9) [(75, .bool true), (77, .pointer (some ⟨g3, 4, none⟩)), (78, .int .i64 n), (79, .pointer (some ⟨g1, 0, none⟩))])) (.pointer (some ⟨g1, 0, none⟩)) ?_
      obtain ⟨W11, hr, hW, hF⟩ := hW.store1 (P := Try.prog) (o := 0) (cs' := (tll_c6 t n r7)) (L' := [(g4q9, 25, #[.int .i64 (getR t.R b 0), .int .i64 (getR t.R b 1), .int .i64 (getR t.R b 2)]), (g4q8, 25, #[.int .i64 (getR t.R a 0), .int .i64 (getR t.R a 1), .int .i64 (getR t.R a 2)]), (g5, 32, tll_c1), (g3, 45, #[.int .i64 8, .int .i64 a, .int .i64 b, .int .i64 c, .int .i64 n]), (g1, 32, (tll_c6 t n r7))]) 4 rfl (.int .i64 n) rfl (Nat.le_of_ble_eq_true rfl) (by rfl) rfl 3 (by kernel_rfl)
      have hK7 := hK7.store hF (.inl hK7_g1)
      refine st_none (w' := W11) (a' := (up (tll_b56 t a b c n g1 g3 g5 r7 sn9 g4q8 g4q9) [(75, .bool true), (77, .pointer (some ⟨g3, 4, none⟩)), (78, .int .i64 n), (79, .pointer (some ⟨g1, 0, none⟩))])) (by kernel_rfl) (Eq.trans (b := (do Instr.storeAt 3 (.pointer (some ⟨g1, 0, none⟩)) (.int .i64 n); pure Next.skip : Sem Next).run Try.prog Wm4) (by kernel_rfl) (st_unit hr)) (by kernel_rfl) ?_
      refine wpList_nil ?_
      refine wp_seq ?_
      refine wp_region_list ?_
      refine se (a' := (up (tll_b56 t a b c n g1 g3 g5 r7 sn9 g4q8 g4q9) [(75, .bool true), (77, .pointer (some ⟨g3, 4, none⟩)), (78, .int .i64 n), (79, .pointer (some ⟨g1, 0, none⟩)), (96, .agg (tll_c6 t n r7))])) (.agg (tll_c6 t n r7)) (evA hW 4 0 Try.underlying32) ?_
      obtain ⟨W12, hr, hW, hF⟩ := hW.storeN (P := Try.prog) (o := 0) (cs' := (tll_c6 t n r7)) (L' := [(g4q9, 25, #[.int .i64 (getR t.R b 0), .int .i64 (getR t.R b 1), .int .i64 (getR t.R b 2)]), (g4q8, 25, #[.int .i64 (getR t.R a 0), .int .i64 (getR t.R a 1), .int .i64 (getR t.R a 2)]), (g5, 32, (tll_c6 t n r7)), (g3, 45, #[.int .i64 8, .int .i64 a, .int .i64 b, .int .i64 c, .int .i64 n]), (g1, 32, (tll_c6 t n r7))]) 2 rfl (tll_c6 t n r7) (by (try subst e7); kernel_rfl) (Nat.le_of_ble_eq_true rfl) (by kernel_rfl) rfl 32 (by kernel_rfl)
      have hK7 := hK7.store hF (.inl hK7_g5)
      refine st_none (w' := W12) (a' := (up (tll_b56 t a b c n g1 g3 g5 r7 sn9 g4q8 g4q9) [(75, .bool true), (77, .pointer (some ⟨g3, 4, none⟩)), (78, .int .i64 n), (79, .pointer (some ⟨g1, 0, none⟩)), (96, .agg (tll_c6 t n r7))])) (by kernel_rfl) (Eq.trans (b := (do Instr.storeAt 32 (.pointer (some ⟨g5, 0, none⟩)) (.agg (tll_c6 t n r7)); pure Next.skip : Sem Next).run Try.prog W11) (by kernel_rfl) (st_unit hr)) (by kernel_rfl) ?_
      refine sk (a' := (up (tll_b61 t a b c n g1 g3 g5 r7 sn9 g4q8 g4q9) [])) (.bool true) ?_
      refine wpList_nil ?_
      refine wp_ret ?_
      (try simp only [Exit.then, Exit.inBlock])
      change bodyPost Try.prog Try.f21 _ .ret _ _
      refine bodyPost_ret (results_ct rfl _ _ g5 32 _ (0, 0) _ (by kernel_rfl) (hW.blk 2 _ _ _ rfl).1 Try.underlying32 rfl (by kernel_rfl)) rfl ?_
      have hloc : localT t 8 a b c n = ({ t with pc := n }, true) := (by kernel_rfl)
      subst e7
      rw [hloc]
      exact ⟨As7, cs7, Ab7, cb7, An7, cn7, rfl, ⟨Kd.R_lower (hK7.R hO7.s) hK7_le, Kd.R_lower (hK7.R hO7.b) hK7_le, Kd.R_lower (hK7.R hO7.n) hK7_le⟩, hW.below⟩
    · skip
      refine wp_region_list ?_
      refine skp (.bool false) ?_
      refine sk (a' := (up (tll_b65 t a b c n g1 g3 g5 r7 sn9 g4q8 g4q9) [(56, .bool false)])) (.bool false) ?_
      refine wpList_nil ?_
      refine wp_cond (t := false) (by kernel_rfl) ?_
      refine wp_seq ?_
      refine wp_region_list ?_
      refine skp (.bool false) ?_
      refine sk (a' := (up (tll_b65 t a b c n g1 g3 g5 r7 sn9 g4q8 g4q9) [(56, .bool false), (59, .bool false), (60, .bool false)])) (.bool false) ?_
      refine wpList_nil ?_
      refine wp_cond (t := false) (by kernel_rfl) ?_
      refine wp_seq ?_
      refine wp_region_list ?_
      refine skp (.bool false) ?_
      refine sk (a' := (up (tll_b65 t a b c n g1 g3 g5 r7 sn9 g4q8 g4q9) [(56, .bool false), (59, .bool false), (60, .bool false), (68, .bool false), (69, .bool false)])) (.bool false) ?_
      refine wpList_nil ?_
      refine wp_cond (t := false) (by kernel_rfl) ?_
      refine wp_seq ?_
      refine wp_region_list ?_
      refine skp (.bool false) ?_
      refine sk (a' := (up (tll_b67 t a b c n g1 g3 g5 r7 sn9 g4q8 g4q9) [(75, .bool false)])) (.bool false) ?_
      refine wpList_nil ?_
      refine wp_cond (t := false) (by kernel_rfl) ?_
      refine wp_seq ?_
      refine wp_region_list ?_
      refine skp (.bool true) ?_
      refine sk (a' := (up (tll_b67 t a b c n g1 g3 g5 r7 sn9 g4q8 g4q9) [(75, .bool false), (80, .bool true), (81, .bool true)])) (.bool true) ?_
      refine wpList_nil ?_
      refine wp_cond (t := true) (by kernel_rfl) ?_
      refine wp_seq ?_
      refine wp_region_list ?_
      refine skp (.pointer (some ⟨g4q8, 0, none⟩)) ?_
      refine sep (.int .i64 (getR t.R a 0)) (ev1 hW 1 0 Try.underlying2) ?_
      refine se (a' := (up (tll_b70 t a b c n g1 g3 g5 r7 sn9 g4q8 g4q9) [])) (.bool true) (Eq.trans (b := .ok (.value (.bool (((getR t.R a 0) : Int) == 0))) Wm4) (by kernel_rfl) (st_ok (beq_iff_eq.2 (by omega)))) ?_
      refine wpList_nil ?_
      refine wp_cond (t := true) (by kernel_rfl) ?_
      refine wp_region_list ?_
      refine skp (.pointer (some ⟨g3, 4, none⟩)) ?_
      refine sep (.int .i64 n) (ev1 hW 3 4 Try.underlying2) ?_
      refine sk (a' := (up (tll_b70 t a b c n g1 g3 g5 r7 sn9 g4q8 g4q9) [(85, .pointer (some ⟨g3, 4, none⟩)), (86, .int .i64 n), (87, .pointer (some ⟨g1, 0, none⟩))])) (.pointer (some ⟨g1, 0, none⟩)) ?_
      obtain ⟨W11, hr, hW, hF⟩ := hW.store1 (P := Try.prog) (o := 0) (cs' := (tll_c6 t n r7)) (L' := [(g4q9, 25, #[.int .i64 (getR t.R b 0), .int .i64 (getR t.R b 1), .int .i64 (getR t.R b 2)]), (g4q8, 25, #[.int .i64 (getR t.R a 0), .int .i64 (getR t.R a 1), .int .i64 (getR t.R a 2)]), (g5, 32, tll_c1), (g3, 45, #[.int .i64 9, .int .i64 a, .int .i64 b, .int .i64 c, .int .i64 n]), (g1, 32, (tll_c6 t n r7))]) 4 rfl (.int .i64 n) rfl (Nat.le_of_ble_eq_true rfl) (by rfl) rfl 3 (by kernel_rfl)
      have hK7 := hK7.store hF (.inl hK7_g1)
      refine st_none (w' := W11) (a' := (up (tll_b70 t a b c n g1 g3 g5 r7 sn9 g4q8 g4q9) [(85, .pointer (some ⟨g3, 4, none⟩)), (86, .int .i64 n), (87, .pointer (some ⟨g1, 0, none⟩))])) (by kernel_rfl) (Eq.trans (b := (do Instr.storeAt 3 (.pointer (some ⟨g1, 0, none⟩)) (.int .i64 n); pure Next.skip : Sem Next).run Try.prog Wm4) (by kernel_rfl) (st_unit hr)) (by kernel_rfl) ?_
      refine wpList_nil ?_
      refine wp_seq ?_
      refine wp_region_list ?_
      refine se (a' := (up (tll_b70 t a b c n g1 g3 g5 r7 sn9 g4q8 g4q9) [(85, .pointer (some ⟨g3, 4, none⟩)), (86, .int .i64 n), (87, .pointer (some ⟨g1, 0, none⟩)), (96, .agg (tll_c6 t n r7))])) (.agg (tll_c6 t n r7)) (evA hW 4 0 Try.underlying32) ?_
      obtain ⟨W12, hr, hW, hF⟩ := hW.storeN (P := Try.prog) (o := 0) (cs' := (tll_c6 t n r7)) (L' := [(g4q9, 25, #[.int .i64 (getR t.R b 0), .int .i64 (getR t.R b 1), .int .i64 (getR t.R b 2)]), (g4q8, 25, #[.int .i64 (getR t.R a 0), .int .i64 (getR t.R a 1), .int .i64 (getR t.R a 2)]), (g5, 32, (tll_c6 t n r7)), (g3, 45, #[.int .i64 9, .int .i64 a, .int .i64 b, .int .i64 c, .int .i64 n]), (g1, 32, (tll_c6 t n r7))]) 2 rfl (tll_c6 t n r7) (by (try subst e7); kernel_rfl) (Nat.le_of_ble_eq_true rfl) (by kernel_rfl) rfl 32 (by kernel_rfl)
      have hK7 := hK7.store hF (.inl hK7_g5)
      refine st_none (w' := W12) (a' := (up (tll_b70 t a b c n g1 g3 g5 r7 sn9 g4q8 g4q9) [(85, .pointer (some ⟨g3, 4, none⟩)), (86, .int .i64 n), (87, .pointer (some ⟨g1, 0, none⟩)), (96, .agg (tll_c6 t n r7))])) (by kernel_rfl) (Eq.trans (b := (do Instr.storeAt 32 (.pointer (some ⟨g5, 0, none⟩)) (.agg (tll_c6 t n r7)); pure Next.skip : Sem Next).run Try.prog W11) (by kernel_rfl) (st_unit hr)) (by kernel_rfl) ?_
      refine sk (a' := (up (tll_b70 t a b c n g1 g3 g5 r7 sn9 g4q8 g4q9) [(5, .bool true), (85, .pointer (some ⟨g3, 4, none⟩)), (86, .int .i64 n), (87, .pointer (some ⟨g1, 0, none⟩)), (96, .agg (tll_c6 t n r7))])) (.bool true) ?_
      refine wpList_nil ?_
      refine wp_ret ?_
      (try simp only [Exit.then, Exit.inBlock])
      change bodyPost Try.prog Try.f21 _ .ret _ _
      refine bodyPost_ret (results_ct rfl _ _ g5 32 _ (0, 0) _ (by kernel_rfl) (hW.blk 2 _ _ _ rfl).1 Try.underlying32 rfl (by kernel_rfl)) rfl ?_
      have hloc : localT t 9 a b c n = ({ t with pc := n }, true) := (Eq.trans (b := ((if getR t.R a 0 = 0 then { t with pc := n } else t : Th), true)) (by kernel_rfl) (by rw [if_pos hz]))
      subst e7
      rw [hloc]
      exact ⟨As7, cs7, Ab7, cb7, An7, cn7, rfl, ⟨Kd.R_lower (hK7.R hO7.s) hK7_le, Kd.R_lower (hK7.R hO7.b) hK7_le, Kd.R_lower (hK7.R hO7.n) hK7_le⟩, hW.below⟩
    · skip
      refine wp_region_list ?_
      refine skp (.bool false) ?_
      refine sk (a' := (up (tll_b65 t a b c n g1 g3 g5 r7 sn9 g4q8 g4q9) [(56, .bool false)])) (.bool false) ?_
      refine wpList_nil ?_
      refine wp_cond (t := false) (by kernel_rfl) ?_
      refine wp_seq ?_
      refine wp_region_list ?_
      refine skp (.bool false) ?_
      refine sk (a' := (up (tll_b65 t a b c n g1 g3 g5 r7 sn9 g4q8 g4q9) [(56, .bool false), (59, .bool false), (60, .bool false)])) (.bool false) ?_
      refine wpList_nil ?_
      refine wp_cond (t := false) (by kernel_rfl) ?_
      refine wp_seq ?_
      refine wp_region_list ?_
      refine skp (.bool false) ?_
      refine sk (a' := (up (tll_b65 t a b c n g1 g3 g5 r7 sn9 g4q8 g4q9) [(56, .bool false), (59, .bool false), (60, .bool false), (68, .bool false), (69, .bool false)])) (.bool false) ?_
      refine wpList_nil ?_
      refine wp_cond (t := false) (by kernel_rfl) ?_
      refine wp_seq ?_
      refine wp_region_list ?_
      refine skp (.bool false) ?_
      refine sk (a' := (up (tll_b67 t a b c n g1 g3 g5 r7 sn9 g4q8 g4q9) [(75, .bool false)])) (.bool false) ?_
      refine wpList_nil ?_
      refine wp_cond (t := false) (by kernel_rfl) ?_
      refine wp_seq ?_
      refine wp_region_list ?_
      refine skp (.bool true) ?_
      refine sk (a' := (up (tll_b67 t a b c n g1 g3 g5 r7 sn9 g4q8 g4q9) [(75, .bool false), (80, .bool true), (81, .bool true)])) (.bool true) ?_
      refine wpList_nil ?_
      refine wp_cond (t := true) (by kernel_rfl) ?_
      refine wp_seq ?_
      refine wp_region_list ?_
      refine skp (.pointer (some ⟨g4q8, 0, none⟩)) ?_
      refine sep (.int .i64 (getR t.R a 0)) (ev1 hW 1 0 Try.underlying2) ?_
      refine se (a' := (up (tll_b72 t a b c n g1 g3 g5 r7 sn9 g4q8 g4q9) [])) (.bool false) (Eq.trans (b := .ok (.value (.bool (((getR t.R a 0) : Int) == 0))) Wm4) (by kernel_rfl) (st_ok (beq_eq_false_iff_ne.2 (by omega)))) ?_
      refine wpList_nil ?_
      refine wp_cond (t := false) (by kernel_rfl) ?_
      refine wp_skip ?_
      refine wp_seq ?_
      refine wp_region_list ?_
      refine se (a' := (up (tll_b72 t a b c n g1 g3 g5 r7 sn9 g4q8 g4q9) [(96, .agg (tll_c2 t r7))])) (.agg (tll_c2 t r7)) (evA hW 4 0 Try.underlying32) ?_
      obtain ⟨W11, hr, hW, hF⟩ := hW.storeN (P := Try.prog) (o := 0) (cs' := (tll_c2 t r7)) (L' := [(g4q9, 25, #[.int .i64 (getR t.R b 0), .int .i64 (getR t.R b 1), .int .i64 (getR t.R b 2)]), (g4q8, 25, #[.int .i64 (getR t.R a 0), .int .i64 (getR t.R a 1), .int .i64 (getR t.R a 2)]), (g5, 32, (tll_c2 t r7)), (g3, 45, #[.int .i64 9, .int .i64 a, .int .i64 b, .int .i64 c, .int .i64 n]), (g1, 32, (tll_c2 t r7))]) 2 rfl (tll_c2 t r7) (by (try subst e7); kernel_rfl) (Nat.le_of_ble_eq_true rfl) (by kernel_rfl) rfl 32 (by kernel_rfl)
      have hK7 := hK7.store hF (.inl hK7_g5)
      refine st_none (w' := W11) (a' := (up (tll_b72 t a b c n g1 g3 g5 r7 sn9 g4q8 g4q9) [(96, .agg (tll_c2 t r7))])) (by kernel_rfl) (Eq.trans (b := (do Instr.storeAt 32 (.pointer (some ⟨g5, 0, none⟩)) (.agg (tll_c2 t r7)); pure Next.skip : Sem Next).run Try.prog Wm4) (by kernel_rfl) (st_unit hr)) (by kernel_rfl) ?_
      refine sk (a' := (up (tll_b72 t a b c n g1 g3 g5 r7 sn9 g4q8 g4q9) [(5, .bool true), (96, .agg (tll_c2 t r7))])) (.bool true) ?_
      refine wpList_nil ?_
      refine wp_ret ?_
      (try simp only [Exit.then, Exit.inBlock])
      change bodyPost Try.prog Try.f21 _ .ret _ _
      refine bodyPost_ret (results_ct rfl _ _ g5 32 _ (0, 0) _ (by kernel_rfl) (hW.blk 2 _ _ _ rfl).1 Try.underlying32 rfl (by kernel_rfl)) rfl ?_
      have hloc : localT t 9 a b c n = (t, true) := (Eq.trans (b := ((if getR t.R a 0 = 0 then { t with pc := n } else t : Th), true)) (by kernel_rfl) (by rw [if_neg hz]))
      subst e7
      rw [hloc]
      exact ⟨As7, cs7, Ab7, cb7, An7, cn7, rfl, ⟨Kd.R_lower (hK7.R hO7.s) hK7_le, Kd.R_lower (hK7.R hO7.b) hK7_le, Kd.R_lower (hK7.R hO7.n) hK7_le⟩, hW.below⟩
    · skip
      refine wp_region_list ?_
      refine skp (.bool false) ?_
      refine sk (a' := (up (tll_b76 t a b c n g1 g3 g5 r7 sn9 g4q8 g4q9) [(56, .bool false)])) (.bool false) ?_
      refine wpList_nil ?_
      refine wp_cond (t := false) (by kernel_rfl) ?_
      refine wp_seq ?_
      refine wp_region_list ?_
      refine skp (.bool false) ?_
      refine sk (a' := (up (tll_b76 t a b c n g1 g3 g5 r7 sn9 g4q8 g4q9) [(56, .bool false), (59, .bool false), (60, .bool false)])) (.bool false) ?_
      refine wpList_nil ?_
      refine wp_cond (t := false) (by kernel_rfl) ?_
      refine wp_seq ?_
      refine wp_region_list ?_
      refine skp (.bool false) ?_
      refine sk (a' := (up (tll_b76 t a b c n g1 g3 g5 r7 sn9 g4q8 g4q9) [(56, .bool false), (59, .bool false), (60, .bool false), (68, .bool false), (69, .bool false)])) (.bool false) ?_
      refine wpList_nil ?_
      refine wp_cond (t := false) (by kernel_rfl) ?_
      refine wp_seq ?_
      refine wp_region_list ?_
      refine skp (.bool false) ?_
      refine sk (a' := (up (tll_b77 t a b c n g1 g3 g5 r7 sn9 g4q8 g4q9) [(75, .bool false)])) (.bool false) ?_
      refine wpList_nil ?_
      refine wp_cond (t := false) (by kernel_rfl) ?_
      refine wp_seq ?_
      refine wp_region_list ?_
      refine skp (.bool false) ?_
      refine sk (a' := (up (tll_b77 t a b c n g1 g3 g5 r7 sn9 g4q8 g4q9) [(75, .bool false), (80, .bool false), (81, .bool false)])) (.bool false) ?_
      refine wpList_nil ?_
      refine wp_cond (t := false) (by kernel_rfl) ?_
      refine wp_seq ?_
      refine wp_region_list ?_
      refine skp (.bool true) ?_
      refine sk (a' := (up (tll_b77 t a b c n g1 g3 g5 r7 sn9 g4q8 g4q9) [(75, .bool false), (80, .bool false), (81, .bool false), (88, .bool true), (89, .bool true)])) (.bool true) ?_
      refine wpList_nil ?_
      refine wp_cond (t := true) (by kernel_rfl) ?_
      refine wp_seq ?_
      refine wp_region_list ?_
      refine sep (.agg #[.int .i64 (getR t.R a 0), .int .i64 (getR t.R a 1), .int .i64 (getR t.R a 2)]) (evA hW 1 0 Try.underlying25) ?_
      refine se (a' := (up (tll_b79 t a b c n g1 g3 g5 r7 sn9 g4q8 g4q9) [(91, .agg #[.int .i64 (getR t.R b 0), .int .i64 (getR t.R b 1), .int .i64 (getR t.R b 2)])])) (.agg #[.int .i64 (getR t.R b 0), .int .i64 (getR t.R b 1), .int .i64 (getR t.R b 2)]) (evA hW 0 0 Try.underlying25) ?_
      refine st_call (equal_is (getR t.R a 0) (getR t.R a 1) (getR t.R a 2) (getR t.R b 0) (getR t.R b 1) (getR t.R b 2) true hz Wm4) (by kernel_rfl) (by kernel_rfl) ?_
      rintro _ W11 ⟨rfl, hB⟩
      have hW := hW.step hB
      have hK7 := hK7.below hB
      refine ⟨_, (up (tll_b79 t a b c n g1 g3 g5 r7 sn9 g4q8 g4q9) [(91, .agg #[.int .i64 (getR t.R b 0), .int .i64 (getR t.R b 1), .int .i64 (getR t.R b 2)]), (92, .bool true)]), rfl, by (try subst e7); kernel_rfl, ?_⟩
      refine wpList_nil ?_
      refine wp_cond (t := true) (by kernel_rfl) ?_
      refine wp_region_list ?_
      refine skp (.pointer (some ⟨g3, 4, none⟩)) ?_
      refine sep (.int .i64 n) (ev1 hW 3 4 Try.underlying2) ?_
      refine sk (a' := (up (tll_b79 t a b c n g1 g3 g5 r7 sn9 g4q8 g4q9) [(91, .agg #[.int .i64 (getR t.R b 0), .int .i64 (getR t.R b 1), .int .i64 (getR t.R b 2)]), (92, .bool true), (93, .pointer (some ⟨g3, 4, none⟩)), (94, .int .i64 n), (95, .pointer (some ⟨g1, 0, none⟩))])) (.pointer (some ⟨g1, 0, none⟩)) ?_
      obtain ⟨W12, hr, hW, hF⟩ := hW.store1 (P := Try.prog) (o := 0) (cs' := (tll_c6 t n r7)) (L' := [(g4q9, 25, #[.int .i64 (getR t.R b 0), .int .i64 (getR t.R b 1), .int .i64 (getR t.R b 2)]), (g4q8, 25, #[.int .i64 (getR t.R a 0), .int .i64 (getR t.R a 1), .int .i64 (getR t.R a 2)]), (g5, 32, tll_c1), (g3, 45, #[.int .i64 10, .int .i64 a, .int .i64 b, .int .i64 c, .int .i64 n]), (g1, 32, (tll_c6 t n r7))]) 4 rfl (.int .i64 n) rfl (Nat.le_of_ble_eq_true rfl) (by rfl) rfl 3 (by kernel_rfl)
      have hK7 := hK7.store hF (.inl hK7_g1)
      refine st_none (w' := W12) (a' := (up (tll_b79 t a b c n g1 g3 g5 r7 sn9 g4q8 g4q9) [(91, .agg #[.int .i64 (getR t.R b 0), .int .i64 (getR t.R b 1), .int .i64 (getR t.R b 2)]), (92, .bool true), (93, .pointer (some ⟨g3, 4, none⟩)), (94, .int .i64 n), (95, .pointer (some ⟨g1, 0, none⟩))])) (by kernel_rfl) (Eq.trans (b := (do Instr.storeAt 3 (.pointer (some ⟨g1, 0, none⟩)) (.int .i64 n); pure Next.skip : Sem Next).run Try.prog W11) (by kernel_rfl) (st_unit hr)) (by kernel_rfl) ?_
      refine wpList_nil ?_
      refine wp_seq ?_
      refine wp_region_list ?_
      refine se (a' := (up (tll_b81 t a b c n g1 g3 g5 r7 sn9 g4q8 g4q9) [])) (.agg (tll_c6 t n r7)) (evA hW 4 0 Try.underlying32) ?_
      obtain ⟨W13, hr, hW, hF⟩ := hW.storeN (P := Try.prog) (o := 0) (cs' := (tll_c6 t n r7)) (L' := [(g4q9, 25, #[.int .i64 (getR t.R b 0), .int .i64 (getR t.R b 1), .int .i64 (getR t.R b 2)]), (g4q8, 25, #[.int .i64 (getR t.R a 0), .int .i64 (getR t.R a 1), .int .i64 (getR t.R a 2)]), (g5, 32, (tll_c6 t n r7)), (g3, 45, #[.int .i64 10, .int .i64 a, .int .i64 b, .int .i64 c, .int .i64 n]), (g1, 32, (tll_c6 t n r7))]) 2 rfl (tll_c6 t n r7) (by (try subst e7); kernel_rfl) (Nat.le_of_ble_eq_true rfl) (by kernel_rfl) rfl 32 (by kernel_rfl)
      have hK7 := hK7.store hF (.inl hK7_g5)
      refine st_none (w' := W13) (a' := (up (tll_b81 t a b c n g1 g3 g5 r7 sn9 g4q8 g4q9) [])) (by kernel_rfl) (Eq.trans (b := (do Instr.storeAt 32 (.pointer (some ⟨g5, 0, none⟩)) (.agg (tll_c6 t n r7)); pure Next.skip : Sem Next).run Try.prog W12) (by kernel_rfl) (st_unit hr)) (by kernel_rfl) ?_
      refine sk (a' := (up (tll_b81 t a b c n g1 g3 g5 r7 sn9 g4q8 g4q9) [(5, .bool true)])) (.bool true) ?_
      refine wpList_nil ?_
      refine wp_ret ?_
      (try simp only [Exit.then, Exit.inBlock])
      change bodyPost Try.prog Try.f21 _ .ret _ _
      refine bodyPost_ret (results_ct rfl _ _ g5 32 _ (0, 0) _ (by kernel_rfl) (hW.blk 2 _ _ _ rfl).1 Try.underlying32 rfl (by kernel_rfl)) rfl ?_
      have hloc : localT t 10 a b c n = ({ t with pc := n }, true) := (Eq.trans (b := ((if getR t.R a 0 = getR t.R b 0 then { t with pc := n } else t : Th), true)) (by kernel_rfl) (by rw [if_pos (beq_iff_eq.1 hz)]))
      subst e7
      rw [hloc]
      exact ⟨As7, cs7, Ab7, cb7, An7, cn7, rfl, ⟨Kd.R_lower (hK7.R hO7.s) hK7_le, Kd.R_lower (hK7.R hO7.b) hK7_le, Kd.R_lower (hK7.R hO7.n) hK7_le⟩, hW.below⟩
    · skip
      refine wp_region_list ?_
      refine skp (.bool false) ?_
      refine sk (a' := (up (tll_b76 t a b c n g1 g3 g5 r7 sn9 g4q8 g4q9) [(56, .bool false)])) (.bool false) ?_
      refine wpList_nil ?_
      refine wp_cond (t := false) (by kernel_rfl) ?_
      refine wp_seq ?_
      refine wp_region_list ?_
      refine skp (.bool false) ?_
      refine sk (a' := (up (tll_b76 t a b c n g1 g3 g5 r7 sn9 g4q8 g4q9) [(56, .bool false), (59, .bool false), (60, .bool false)])) (.bool false) ?_
      refine wpList_nil ?_
      refine wp_cond (t := false) (by kernel_rfl) ?_
      refine wp_seq ?_
      refine wp_region_list ?_
      refine skp (.bool false) ?_
      refine sk (a' := (up (tll_b76 t a b c n g1 g3 g5 r7 sn9 g4q8 g4q9) [(56, .bool false), (59, .bool false), (60, .bool false), (68, .bool false), (69, .bool false)])) (.bool false) ?_
      refine wpList_nil ?_
      refine wp_cond (t := false) (by kernel_rfl) ?_
      refine wp_seq ?_
      refine wp_region_list ?_
      refine skp (.bool false) ?_
      refine sk (a' := (up (tll_b77 t a b c n g1 g3 g5 r7 sn9 g4q8 g4q9) [(75, .bool false)])) (.bool false) ?_
      refine wpList_nil ?_
      refine wp_cond (t := false) (by kernel_rfl) ?_
      refine wp_seq ?_
      refine wp_region_list ?_
      refine skp (.bool false) ?_
      refine sk (a' := (up (tll_b77 t a b c n g1 g3 g5 r7 sn9 g4q8 g4q9) [(75, .bool false), (80, .bool false), (81, .bool false)])) (.bool false) ?_
      refine wpList_nil ?_
      refine wp_cond (t := false) (by kernel_rfl) ?_
      refine wp_seq ?_
      refine wp_region_list ?_
      refine skp (.bool true) ?_
      refine sk (a' := (up (tll_b77 t a b c n g1 g3 g5 r7 sn9 g4q8 g4q9) [(75, .bool false), (80, .bool false), (81, .bool false), (88, .bool true), (89, .bool true)])) (.bool true) ?_
      refine wpList_nil ?_
      refine wp_cond (t := true) (by kernel_rfl) ?_
      refine wp_seq ?_
      refine wp_region_list ?_
      refine sep (.agg #[.int .i64 (getR t.R a 0), .int .i64 (getR t.R a 1), .int .i64 (getR t.R a 2)]) (evA hW 1 0 Try.underlying25) ?_
      refine se (a' := (up (tll_b79 t a b c n g1 g3 g5 r7 sn9 g4q8 g4q9) [(91, .agg #[.int .i64 (getR t.R b 0), .int .i64 (getR t.R b 1), .int .i64 (getR t.R b 2)])])) (.agg #[.int .i64 (getR t.R b 0), .int .i64 (getR t.R b 1), .int .i64 (getR t.R b 2)]) (evA hW 0 0 Try.underlying25) ?_
      refine st_call (equal_is (getR t.R a 0) (getR t.R a 1) (getR t.R a 2) (getR t.R b 0) (getR t.R b 1) (getR t.R b 2) false hz Wm4) (by kernel_rfl) (by kernel_rfl) ?_
      rintro _ W11 ⟨rfl, hB⟩
      have hW := hW.step hB
      have hK7 := hK7.below hB
      refine ⟨_, (up (tll_b79 t a b c n g1 g3 g5 r7 sn9 g4q8 g4q9) [(91, .agg #[.int .i64 (getR t.R b 0), .int .i64 (getR t.R b 1), .int .i64 (getR t.R b 2)]), (92, .bool false)]), rfl, by (try subst e7); kernel_rfl, ?_⟩
      refine wpList_nil ?_
      refine wp_cond (t := false) (by kernel_rfl) ?_
      refine wp_skip ?_
      refine wp_seq ?_
      refine wp_region_list ?_
      refine se (a' := (up (tll_b79 t a b c n g1 g3 g5 r7 sn9 g4q8 g4q9) [(91, .agg #[.int .i64 (getR t.R b 0), .int .i64 (getR t.R b 1), .int .i64 (getR t.R b 2)]), (92, .bool false), (96, .agg (tll_c2 t r7))])) (.agg (tll_c2 t r7)) (evA hW 4 0 Try.underlying32) ?_
      obtain ⟨W12, hr, hW, hF⟩ := hW.storeN (P := Try.prog) (o := 0) (cs' := (tll_c2 t r7)) (L' := [(g4q9, 25, #[.int .i64 (getR t.R b 0), .int .i64 (getR t.R b 1), .int .i64 (getR t.R b 2)]), (g4q8, 25, #[.int .i64 (getR t.R a 0), .int .i64 (getR t.R a 1), .int .i64 (getR t.R a 2)]), (g5, 32, (tll_c2 t r7)), (g3, 45, #[.int .i64 10, .int .i64 a, .int .i64 b, .int .i64 c, .int .i64 n]), (g1, 32, (tll_c2 t r7))]) 2 rfl (tll_c2 t r7) (by (try subst e7); kernel_rfl) (Nat.le_of_ble_eq_true rfl) (by kernel_rfl) rfl 32 (by kernel_rfl)
      have hK7 := hK7.store hF (.inl hK7_g5)
      refine st_none (w' := W12) (a' := (up (tll_b79 t a b c n g1 g3 g5 r7 sn9 g4q8 g4q9) [(91, .agg #[.int .i64 (getR t.R b 0), .int .i64 (getR t.R b 1), .int .i64 (getR t.R b 2)]), (92, .bool false), (96, .agg (tll_c2 t r7))])) (by kernel_rfl) (Eq.trans (b := (do Instr.storeAt 32 (.pointer (some ⟨g5, 0, none⟩)) (.agg (tll_c2 t r7)); pure Next.skip : Sem Next).run Try.prog W11) (by kernel_rfl) (st_unit hr)) (by kernel_rfl) ?_
      refine sk (a' := (up (tll_b79 t a b c n g1 g3 g5 r7 sn9 g4q8 g4q9) [(5, .bool true), (91, .agg #[.int .i64 (getR t.R b 0), .int .i64 (getR t.R b 1), .int .i64 (getR t.R b 2)]), (92, .bool false), (96, .agg (tll_c2 t r7))])) (.bool true) ?_
      refine wpList_nil ?_
      refine wp_ret ?_
      (try simp only [Exit.then, Exit.inBlock])
      change bodyPost Try.prog Try.f21 _ .ret _ _
      refine bodyPost_ret (results_ct rfl _ _ g5 32 _ (0, 0) _ (by kernel_rfl) (hW.blk 2 _ _ _ rfl).1 Try.underlying32 rfl (by kernel_rfl)) rfl ?_
      have hloc : localT t 10 a b c n = (t, true) := (Eq.trans (b := ((if getR t.R a 0 = getR t.R b 0 then { t with pc := n } else t : Th), true)) (by kernel_rfl) (by rw [if_neg (beq_eq_false_iff_ne.1 hz)]))
      subst e7
      rw [hloc]
      exact ⟨As7, cs7, Ab7, cb7, An7, cn7, rfl, ⟨Kd.R_lower (hK7.R hO7.s) hK7_le, Kd.R_lower (hK7.R hO7.b) hK7_le, Kd.R_lower (hK7.R hO7.n) hK7_le⟩, hW.below⟩
    · skip
      refine wp_region_list ?_
      refine skp (.bool false) ?_
      refine sk (a' := (up (tll_b85 t a b c n g1 g3 g5 r7 sn9 g4q8 g4q9) [(56, .bool false)])) (.bool false) ?_
      refine wpList_nil ?_
      refine wp_cond (t := false) (by kernel_rfl) ?_
      refine wp_seq ?_
      refine wp_region_list ?_
      refine skp (.bool false) ?_
      refine sk (a' := (up (tll_b85 t a b c n g1 g3 g5 r7 sn9 g4q8 g4q9) [(56, .bool false), (59, .bool false), (60, .bool false)])) (.bool false) ?_
      refine wpList_nil ?_
      refine wp_cond (t := false) (by kernel_rfl) ?_
      refine wp_seq ?_
      refine wp_region_list ?_
      refine skp (.bool false) ?_
      refine sk (a' := (up (tll_b85 t a b c n g1 g3 g5 r7 sn9 g4q8 g4q9) [(56, .bool false), (59, .bool false), (60, .bool false), (68, .bool false), (69, .bool false)])) (.bool false) ?_
      refine wpList_nil ?_
      refine wp_cond (t := false) (by kernel_rfl) ?_
      refine wp_seq ?_
      refine wp_region_list ?_
      refine skp (.bool false) ?_
      refine sk (a' := (up (tll_b86 t a b c n g1 g3 g5 r7 sn9 g4q8 g4q9) [(75, .bool false)])) (.bool false) ?_
      refine wpList_nil ?_
      refine wp_cond (t := false) (by kernel_rfl) ?_
      refine wp_seq ?_
      refine wp_region_list ?_
      refine skp (.bool false) ?_
      refine sk (a' := (up (tll_b86 t a b c n g1 g3 g5 r7 sn9 g4q8 g4q9) [(75, .bool false), (80, .bool false), (81, .bool false)])) (.bool false) ?_
      refine wpList_nil ?_
      refine wp_cond (t := false) (by kernel_rfl) ?_
      refine wp_seq ?_
      refine wp_region_list ?_
      refine skp (.bool false) ?_
      refine sk (a' := (up (tll_b86 t a b c n g1 g3 g5 r7 sn9 g4q8 g4q9) [(75, .bool false), (80, .bool false), (81, .bool false), (88, .bool false), (89, .bool false)])) (.bool false) ?_
      refine wpList_nil ?_
      refine wp_cond (t := false) (by kernel_rfl) ?_
      refine wp_seq ?_
      have hW := hW.drew
      have hK7 := hK7.below (below_drew (Below.refl _ _))
      refine wp_mid (M := fun a' W' => ∃ g6q11 : Nat, a' = (up (tll_b94 t a b c n g1 g3 g5 r7 sn9 g4q8 g4q9 g6q11) []) ∧ Ws w W' [(g6q11, 25, #[.int .i64 ((arithF 7 (getR t.R b 0) (getR t.R c 0)).1), .int .i64 0, .int .i64 0]), (g4q9, 25, #[.int .i64 (getR t.R b 0), .int .i64 (getR t.R b 1), .int .i64 (getR t.R b 2)]), (g4q8, 25, #[.int .i64 (getR t.R a 0), .int .i64 (getR t.R a 1), .int .i64 (getR t.R a 2)]), (g5, 32, tll_c1), (g3, 45, #[.int .i64 7, .int .i64 a, .int .i64 b, .int .i64 c, .int .i64 n]), (g1, 32, (tll_c2 t r7))] ∧ KeepUp W6.heap.size W7 W' ∧ W7.heap.size ≤ g6q11) ?_ ?_
      · skip
        refine wp_region_held_drew (S := fun W => Ws w W [(g4q9, 25, #[.int .i64 (getR t.R b 0), .int .i64 (getR t.R b 1), .int .i64 (getR t.R b 2)]), (g4q8, 25, #[.int .i64 (getR t.R a 0), .int .i64 (getR t.R a 1), .int .i64 (getR t.R a 2)]), (g5, 32, tll_c1), (g3, 45, #[.int .i64 7, .int .i64 a, .int .i64 b, .int .i64 c, .int .i64 n]), (g1, 32, (tll_c2 t r7))]) (by kernel_rfl) hW (fun _ => ?_)
        refine dk (a' := (up (tll_b89 t a b c n g1 g3 g5 r7 sn9 g4q8 g4q9) [])) 0 (.pointer (some ⟨g3, 0, none⟩)) hW ?_
        refine de (a' := (up (tll_b89 t a b c n g1 g3 g5 r7 sn9 g4q8 g4q9) [(39, .int .i64 7)])) 1 (.int .i64 7) rfl (fun W hH => (ev1 hH 3 0 Try.underlying3)) hW ?_
        refine de (a' := (up (tll_b89 t a b c n g1 g3 g5 r7 sn9 g4q8 g4q9) [(39, .int .i64 7), (40, .agg #[.int .i64 (getR t.R b 0), .int .i64 (getR t.R b 1), .int .i64 (getR t.R b 2)])])) 2 (.agg #[.int .i64 (getR t.R b 0), .int .i64 (getR t.R b 1), .int .i64 (getR t.R b 2)]) rfl (fun W hH => (evA hH 0 0 Try.underlying25)) hW ?_
        refine de (a' := (up (tll_b89 t a b c n g1 g3 g5 r7 sn9 g4q8 g4q9) [(39, .int .i64 7), (40, .agg #[.int .i64 (getR t.R b 0), .int .i64 (getR t.R b 1), .int .i64 (getR t.R b 2)]), (41, .agg (tll_c2 t r7))])) 3 (.agg (tll_c2 t r7)) rfl (fun W hH => (evA hH 4 0 Try.underlying32)) hW ?_
        refine dk (a' := (up (tll_b89 t a b c n g1 g3 g5 r7 sn9 g4q8 g4q9) [(39, .int .i64 7), (40, .agg #[.int .i64 (getR t.R b 0), .int .i64 (getR t.R b 1), .int .i64 (getR t.R b 2)]), (41, .agg (tll_c2 t r7)), (42, .pointer (some ⟨g3, 3, none⟩))])) 4 (.pointer (some ⟨g3, 3, none⟩)) hW ?_
        refine de (a' := (up (tll_b89 t a b c n g1 g3 g5 r7 sn9 g4q8 g4q9) [(39, .int .i64 7), (40, .agg #[.int .i64 (getR t.R b 0), .int .i64 (getR t.R b 1), .int .i64 (getR t.R b 2)]), (41, .agg (tll_c2 t r7)), (42, .pointer (some ⟨g3, 3, none⟩)), (43, .int .i64 c)])) 5 (.int .i64 c) rfl (fun W hH => (ev1 hH 3 3 Try.underlying3)) hW ?_
        refine wpAnyH_all (rs := [6, 11]) (by kernel_rfl) (by simp) ?_
        refine all_cons ?_ ?_
        · skip
          refine op_call rfl (th_Get (⟨t.pc, t.fu, t.st, t.R, t.kd, t.mi, t.mn, r7.s, r7.b, r7.n, t.old⟩ : Th) c Wm4.drew) (by kernel_rfl) (by kernel_rfl) ?_
          rintro _ W6q6 ⟨rfl, hB⟩
          have hW := hW.step hB
          have hK7 := hK7.below hB
          refine ⟨_, (up (tll_b91 t a b c n g1 g3 g5 r7 sn9 g4q8 g4q9) []), rfl, by (try subst e7); kernel_rfl, ?_⟩
          refine ⟨hW, ?_⟩
          refine wpAnyH_all (rs := [7, 11]) (by kernel_rfl) (by simp) ?_
          refine all_cons ?_ ?_
          · skip
            refine op_call rfl (arith_is 7 (getR t.R b 0) (getR t.R b 1) (getR t.R b 2) (getR t.R c 0) (getR t.R c 1) (getR t.R c 2) (by omega) false hz W6q6) (by kernel_rfl) (by kernel_rfl) ?_
            rintro _ W6q7 ⟨rfl, hB⟩
            have hW := hW.step hB
            have hK7 := hK7.below hB
            refine ⟨_, (up (tll_b91 t a b c n g1 g3 g5 r7 sn9 g4q8 g4q9) [(45, .tuple #[.agg #[.int .i64 ((arithF 7 (getR t.R b 0) (getR t.R c 0)).1), .int .i64 0, .int .i64 0], .bool false])]), rfl, by (try subst e7); kernel_rfl, ?_⟩
            refine ⟨hW, ?_⟩
            refine dk (a' := (up (tll_b91 t a b c n g1 g3 g5 r7 sn9 g4q8 g4q9) [(37, .tuple #[.agg #[.int .i64 ((arithF 7 (getR t.R b 0) (getR t.R c 0)).1), .int .i64 0, .int .i64 0], .bool false]), (45, .tuple #[.agg #[.int .i64 ((arithF 7 (getR t.R b 0) (getR t.R c 0)).1), .int .i64 0, .int .i64 0], .bool false])])) 8 (.tuple #[.agg #[.int .i64 ((arithF 7 (getR t.R b 0) (getR t.R c 0)).1), .int .i64 0, .int .i64 0], .bool false]) hW ?_
            refine de (a' := (up (tll_b91 t a b c n g1 g3 g5 r7 sn9 g4q8 g4q9) [(37, .tuple #[.agg #[.int .i64 ((arithF 7 (getR t.R b 0) (getR t.R c 0)).1), .int .i64 0, .int .i64 0], .bool false]), (45, .tuple #[.agg #[.int .i64 ((arithF 7 (getR t.R b 0) (getR t.R c 0)).1), .int .i64 0, .int .i64 0], .bool false]), (46, .agg #[.int .i64 ((arithF 7 (getR t.R b 0) (getR t.R c 0)).1), .int .i64 0, .int .i64 0])])) 9 (.agg #[.int .i64 ((arithF 7 (getR t.R b 0) (getR t.R c 0)).1), .int .i64 0, .int .i64 0]) rfl (fun W hH => by kernel_rfl) hW ?_
            refine de (a' := (up (tll_b91 t a b c n g1 g3 g5 r7 sn9 g4q8 g4q9) [(37, .tuple #[.agg #[.int .i64 ((arithF 7 (getR t.R b 0) (getR t.R c 0)).1), .int .i64 0, .int .i64 0], .bool false]), (45, .tuple #[.agg #[.int .i64 ((arithF 7 (getR t.R b 0) (getR t.R c 0)).1), .int .i64 0, .int .i64 0], .bool false]), (46, .agg #[.int .i64 ((arithF 7 (getR t.R b 0) (getR t.R c 0)).1), .int .i64 0, .int .i64 0]), (47, .bool false)])) 10 (.bool false) rfl (fun W hH => by kernel_rfl) hW ?_
            refine wpAnyH_all (rs := [11]) (by kernel_rfl) (by simp) ?_
            refine all_cons ?_ all_nil
            obtain ⟨g6q11, W6q11, hr, hW, hbb, hge⟩ := hW.mk1 (P := Try.prog) (s := Instr.alloc 25 true (.tuple #[])) #[.int .i64 0, .int .i64 0, .int .i64 0] 25 (by kernel_rfl)
            have hK7_g6q11 := Nat.le_trans hK7.size hge
            have hK7 := hK7.below hbb
            refine op_val (w' := W6q11) (a' := (up (tll_b91 t a b c n g1 g3 g5 r7 sn9 g4q8 g4q9) [(8, .pointer (some ⟨g6q11, 0, none⟩)), (37, .tuple #[.agg #[.int .i64 ((arithF 7 (getR t.R b 0) (getR t.R c 0)).1), .int .i64 0, .int .i64 0], .bool false]), (45, .tuple #[.agg #[.int .i64 ((arithF 7 (getR t.R b 0) (getR t.R c 0)).1), .int .i64 0, .int .i64 0], .bool false]), (46, .agg #[.int .i64 ((arithF 7 (getR t.R b 0) (getR t.R c 0)).1), .int .i64 0, .int .i64 0]), (47, .bool false)])) (.pointer (some ⟨g6q11, 0, none⟩)) rfl (by kernel_rfl) (Eq.trans (b := (do pure (Next.value (← Instr.alloc 25 true (.tuple #[]))) : Sem Next).run Try.prog W6q7) (by kernel_rfl) (st_val hr)) (by kernel_rfl) ?_
            refine ⟨hW.tail, ?_⟩
            refine wpAnyH_all (rs := [12]) (by kernel_rfl) (by simp) ?_
            refine all_cons ?_ all_nil
            obtain ⟨W6q12, hr, hW, hF⟩ := hW.storeN (P := Try.prog) (o := 0) (cs' := #[.int .i64 ((arithF 7 (getR t.R b 0) (getR t.R c 0)).1), .int .i64 0, .int .i64 0]) (L' := [(g6q11, 25, #[.int .i64 ((arithF 7 (getR t.R b 0) (getR t.R c 0)).1), .int .i64 0, .int .i64 0]), (g4q9, 25, #[.int .i64 (getR t.R b 0), .int .i64 (getR t.R b 1), .int .i64 (getR t.R b 2)]), (g4q8, 25, #[.int .i64 (getR t.R a 0), .int .i64 (getR t.R a 1), .int .i64 (getR t.R a 2)]), (g5, 32, tll_c1), (g3, 45, #[.int .i64 7, .int .i64 a, .int .i64 b, .int .i64 c, .int .i64 n]), (g1, 32, (tll_c2 t r7))]) 0 rfl #[.int .i64 ((arithF 7 (getR t.R b 0) (getR t.R c 0)).1), .int .i64 0, .int .i64 0] (by (try subst e7); kernel_rfl) (Nat.le_of_ble_eq_true rfl) (by kernel_rfl) rfl 25 (by kernel_rfl)
            have hK7 := hK7.store hF (.inr hK7_g6q11)
            refine op_none (w' := W6q12) (a' := (up (tll_b91 t a b c n g1 g3 g5 r7 sn9 g4q8 g4q9) [(8, .pointer (some ⟨g6q11, 0, none⟩)), (37, .tuple #[.agg #[.int .i64 ((arithF 7 (getR t.R b 0) (getR t.R c 0)).1), .int .i64 0, .int .i64 0], .bool false]), (45, .tuple #[.agg #[.int .i64 ((arithF 7 (getR t.R b 0) (getR t.R c 0)).1), .int .i64 0, .int .i64 0], .bool false]), (46, .agg #[.int .i64 ((arithF 7 (getR t.R b 0) (getR t.R c 0)).1), .int .i64 0, .int .i64 0]), (47, .bool false)])) rfl (by kernel_rfl) (Eq.trans (b := (do Instr.storeAt 25 (.pointer (some ⟨g6q11, 0, none⟩)) (.agg #[.int .i64 ((arithF 7 (getR t.R b 0) (getR t.R c 0)).1), .int .i64 0, .int .i64 0]); pure Next.skip : Sem Next).run Try.prog W6q11) (by kernel_rfl) (st_unit hr)) (by kernel_rfl) ?_
            refine ⟨hW.tail, ?_⟩
            refine dk (a' := (up (tll_b94 t a b c n g1 g3 g5 r7 sn9 g4q8 g4q9 g6q11) [])) 13 (.bool false) hW.tail ?_
            refine wpAnyH_done (by kernel_rfl) ?_ _
            simp only [Exit.then]
            exact ⟨g6q11, rfl, hW, hK7, hK7_g6q11⟩
          refine all_cons ?_ all_nil
          obtain ⟨g6q11, W6q11, hr, hW, hbb, hge⟩ := hW.mk1 (P := Try.prog) (s := Instr.alloc 25 true (.tuple #[])) #[.int .i64 0, .int .i64 0, .int .i64 0] 25 (by kernel_rfl)
          have hK7_g6q11 := Nat.le_trans hK7.size hge
          have hK7 := hK7.below hbb
          refine op_val (w' := W6q11) (a' := (up (tll_b91 t a b c n g1 g3 g5 r7 sn9 g4q8 g4q9) [(8, .pointer (some ⟨g6q11, 0, none⟩))])) (.pointer (some ⟨g6q11, 0, none⟩)) rfl (by kernel_rfl) (Eq.trans (b := (do pure (Next.value (← Instr.alloc 25 true (.tuple #[]))) : Sem Next).run Try.prog W6q6) (by kernel_rfl) (st_val hr)) (by kernel_rfl) ?_
          refine ⟨hW.tail, ?_⟩
          refine wpAnyH_all (rs := [7]) (by kernel_rfl) (by simp) ?_
          refine all_cons ?_ all_nil
          refine op_call rfl (arith_is 7 (getR t.R b 0) (getR t.R b 1) (getR t.R b 2) (getR t.R c 0) (getR t.R c 1) (getR t.R c 2) (by omega) false hz W6q11) (by kernel_rfl) (by kernel_rfl) ?_
          rintro _ W6q7 ⟨rfl, hB⟩
          have hW := hW.step hB
          have hK7 := hK7.below hB
          refine ⟨_, (up (tll_b91 t a b c n g1 g3 g5 r7 sn9 g4q8 g4q9) [(8, .pointer (some ⟨g6q11, 0, none⟩)), (45, .tuple #[.agg #[.int .i64 ((arithF 7 (getR t.R b 0) (getR t.R c 0)).1), .int .i64 0, .int .i64 0], .bool false])]), rfl, by (try subst e7); kernel_rfl, ?_⟩
          refine ⟨hW.tail, ?_⟩
          refine dk (a' := (up (tll_b91 t a b c n g1 g3 g5 r7 sn9 g4q8 g4q9) [(8, .pointer (some ⟨g6q11, 0, none⟩)), (37, .tuple #[.agg #[.int .i64 ((arithF 7 (getR t.R b 0) (getR t.R c 0)).1), .int .i64 0, .int .i64 0], .bool false]), (45, .tuple #[.agg #[.int .i64 ((arithF 7 (getR t.R b 0) (getR t.R c 0)).1), .int .i64 0, .int .i64 0], .bool false])])) 8 (.tuple #[.agg #[.int .i64 ((arithF 7 (getR t.R b 0) (getR t.R c 0)).1), .int .i64 0, .int .i64 0], .bool false]) hW.tail ?_
          refine de (a' := (up (tll_b91 t a b c n g1 g3 g5 r7 sn9 g4q8 g4q9) [(8, .pointer (some ⟨g6q11, 0, none⟩)), (37, .tuple #[.agg #[.int .i64 ((arithF 7 (getR t.R b 0) (getR t.R c 0)).1), .int .i64 0, .int .i64 0], .bool false]), (45, .tuple #[.agg #[.int .i64 ((arithF 7 (getR t.R b 0) (getR t.R c 0)).1), .int .i64 0, .int .i64 0], .bool false]), (46, .agg #[.int .i64 ((arithF 7 (getR t.R b 0) (getR t.R c 0)).1), .int .i64 0, .int .i64 0])])) 9 (.agg #[.int .i64 ((arithF 7 (getR t.R b 0) (getR t.R c 0)).1), .int .i64 0, .int .i64 0]) rfl (fun W hH => by kernel_rfl) hW.tail ?_
          refine de (a' := (up (tll_b91 t a b c n g1 g3 g5 r7 sn9 g4q8 g4q9) [(8, .pointer (some ⟨g6q11, 0, none⟩)), (37, .tuple #[.agg #[.int .i64 ((arithF 7 (getR t.R b 0) (getR t.R c 0)).1), .int .i64 0, .int .i64 0], .bool false]), (45, .tuple #[.agg #[.int .i64 ((arithF 7 (getR t.R b 0) (getR t.R c 0)).1), .int .i64 0, .int .i64 0], .bool false]), (46, .agg #[.int .i64 ((arithF 7 (getR t.R b 0) (getR t.R c 0)).1), .int .i64 0, .int .i64 0]), (47, .bool false)])) 10 (.bool false) rfl (fun W hH => by kernel_rfl) hW.tail ?_
          refine wpAnyH_all (rs := [12]) (by kernel_rfl) (by simp) ?_
          refine all_cons ?_ all_nil
          obtain ⟨W6q12, hr, hW, hF⟩ := hW.storeN (P := Try.prog) (o := 0) (cs' := #[.int .i64 ((arithF 7 (getR t.R b 0) (getR t.R c 0)).1), .int .i64 0, .int .i64 0]) (L' := [(g6q11, 25, #[.int .i64 ((arithF 7 (getR t.R b 0) (getR t.R c 0)).1), .int .i64 0, .int .i64 0]), (g4q9, 25, #[.int .i64 (getR t.R b 0), .int .i64 (getR t.R b 1), .int .i64 (getR t.R b 2)]), (g4q8, 25, #[.int .i64 (getR t.R a 0), .int .i64 (getR t.R a 1), .int .i64 (getR t.R a 2)]), (g5, 32, tll_c1), (g3, 45, #[.int .i64 7, .int .i64 a, .int .i64 b, .int .i64 c, .int .i64 n]), (g1, 32, (tll_c2 t r7))]) 0 rfl #[.int .i64 ((arithF 7 (getR t.R b 0) (getR t.R c 0)).1), .int .i64 0, .int .i64 0] (by (try subst e7); kernel_rfl) (Nat.le_of_ble_eq_true rfl) (by kernel_rfl) rfl 25 (by kernel_rfl)
          have hK7 := hK7.store hF (.inr hK7_g6q11)
          refine op_none (w' := W6q12) (a' := (up (tll_b91 t a b c n g1 g3 g5 r7 sn9 g4q8 g4q9) [(8, .pointer (some ⟨g6q11, 0, none⟩)), (37, .tuple #[.agg #[.int .i64 ((arithF 7 (getR t.R b 0) (getR t.R c 0)).1), .int .i64 0, .int .i64 0], .bool false]), (45, .tuple #[.agg #[.int .i64 ((arithF 7 (getR t.R b 0) (getR t.R c 0)).1), .int .i64 0, .int .i64 0], .bool false]), (46, .agg #[.int .i64 ((arithF 7 (getR t.R b 0) (getR t.R c 0)).1), .int .i64 0, .int .i64 0]), (47, .bool false)])) rfl (by kernel_rfl) (Eq.trans (b := (do Instr.storeAt 25 (.pointer (some ⟨g6q11, 0, none⟩)) (.agg #[.int .i64 ((arithF 7 (getR t.R b 0) (getR t.R c 0)).1), .int .i64 0, .int .i64 0]); pure Next.skip : Sem Next).run Try.prog W6q7) (by kernel_rfl) (st_unit hr)) (by kernel_rfl) ?_
          refine ⟨hW.tail, ?_⟩
          refine dk (a' := (up (tll_b94 t a b c n g1 g3 g5 r7 sn9 g4q8 g4q9 g6q11) [])) 13 (.bool false) hW.tail ?_
          refine wpAnyH_done (by kernel_rfl) ?_ _
          simp only [Exit.then]
          exact ⟨g6q11, rfl, hW, hK7, hK7_g6q11⟩
        refine all_cons ?_ all_nil
        obtain ⟨g6q11, W6q11, hr, hW, hbb, hge⟩ := hW.mk1 (P := Try.prog) (s := Instr.alloc 25 true (.tuple #[])) #[.int .i64 0, .int .i64 0, .int .i64 0] 25 (by kernel_rfl)
        have hK7_g6q11 := Nat.le_trans hK7.size hge
        have hK7 := hK7.below hbb
        refine op_val (w' := W6q11) (a' := (up (tll_b97 t a b c n g1 g3 g5 r7 sn9 g4q8 g4q9 g6q11) [])) (.pointer (some ⟨g6q11, 0, none⟩)) rfl (by kernel_rfl) (Eq.trans (b := (do pure (Next.value (← Instr.alloc 25 true (.tuple #[]))) : Sem Next).run Try.prog Wm4.drew) (by kernel_rfl) (st_val hr)) (by kernel_rfl) ?_
        refine ⟨hW.tail, ?_⟩
        refine wpAnyH_all (rs := [6]) (by kernel_rfl) (by simp) ?_
        refine all_cons ?_ all_nil
        refine op_call rfl (th_Get (⟨t.pc, t.fu, t.st, t.R, t.kd, t.mi, t.mn, r7.s, r7.b, r7.n, t.old⟩ : Th) c W6q11) (by kernel_rfl) (by kernel_rfl) ?_
        rintro _ W6q6 ⟨rfl, hB⟩
        have hW := hW.step hB
        have hK7 := hK7.below hB
        refine ⟨_, (up (tll_b97 t a b c n g1 g3 g5 r7 sn9 g4q8 g4q9 g6q11) [(44, .agg #[.int .i64 (getR t.R c 0), .int .i64 (getR t.R c 1), .int .i64 (getR t.R c 2)])]), rfl, by (try subst e7); kernel_rfl, ?_⟩
        refine ⟨hW.tail, ?_⟩
        refine wpAnyH_all (rs := [7]) (by kernel_rfl) (by simp) ?_
        refine all_cons ?_ all_nil
        refine op_call rfl (arith_is 7 (getR t.R b 0) (getR t.R b 1) (getR t.R b 2) (getR t.R c 0) (getR t.R c 1) (getR t.R c 2) (by omega) false hz W6q6) (by kernel_rfl) (by kernel_rfl) ?_
        rintro _ W6q7 ⟨rfl, hB⟩
        have hW := hW.step hB
        have hK7 := hK7.below hB
        refine ⟨_, (up (tll_b97 t a b c n g1 g3 g5 r7 sn9 g4q8 g4q9 g6q11) [(44, .agg #[.int .i64 (getR t.R c 0), .int .i64 (getR t.R c 1), .int .i64 (getR t.R c 2)]), (45, .tuple #[.agg #[.int .i64 ((arithF 7 (getR t.R b 0) (getR t.R c 0)).1), .int .i64 0, .int .i64 0], .bool false])]), rfl, by (try subst e7); kernel_rfl, ?_⟩
        refine ⟨hW.tail, ?_⟩
        refine dk (a' := (up (tll_b97 t a b c n g1 g3 g5 r7 sn9 g4q8 g4q9 g6q11) [(37, .tuple #[.agg #[.int .i64 ((arithF 7 (getR t.R b 0) (getR t.R c 0)).1), .int .i64 0, .int .i64 0], .bool false]), (44, .agg #[.int .i64 (getR t.R c 0), .int .i64 (getR t.R c 1), .int .i64 (getR t.R c 2)]), (45, .tuple #[.agg #[.int .i64 ((arithF 7 (getR t.R b 0) (getR t.R c 0)).1), .int .i64 0, .int .i64 0], .bool false])])) 8 (.tuple #[.agg #[.int .i64 ((arithF 7 (getR t.R b 0) (getR t.R c 0)).1), .int .i64 0, .int .i64 0], .bool false]) hW.tail ?_
        refine de (a' := (up (tll_b97 t a b c n g1 g3 g5 r7 sn9 g4q8 g4q9 g6q11) [(37, .tuple #[.agg #[.int .i64 ((arithF 7 (getR t.R b 0) (getR t.R c 0)).1), .int .i64 0, .int .i64 0], .bool false]), (44, .agg #[.int .i64 (getR t.R c 0), .int .i64 (getR t.R c 1), .int .i64 (getR t.R c 2)]), (45, .tuple #[.agg #[.int .i64 ((arithF 7 (getR t.R b 0) (getR t.R c 0)).1), .int .i64 0, .int .i64 0], .bool false]), (46, .agg #[.int .i64 ((arithF 7 (getR t.R b 0) (getR t.R c 0)).1), .int .i64 0, .int .i64 0])])) 9 (.agg #[.int .i64 ((arithF 7 (getR t.R b 0) (getR t.R c 0)).1), .int .i64 0, .int .i64 0]) rfl (fun W hH => by kernel_rfl) hW.tail ?_
        refine de (a' := (up (tll_b97 t a b c n g1 g3 g5 r7 sn9 g4q8 g4q9 g6q11) [(37, .tuple #[.agg #[.int .i64 ((arithF 7 (getR t.R b 0) (getR t.R c 0)).1), .int .i64 0, .int .i64 0], .bool false]), (44, .agg #[.int .i64 (getR t.R c 0), .int .i64 (getR t.R c 1), .int .i64 (getR t.R c 2)]), (45, .tuple #[.agg #[.int .i64 ((arithF 7 (getR t.R b 0) (getR t.R c 0)).1), .int .i64 0, .int .i64 0], .bool false]), (46, .agg #[.int .i64 ((arithF 7 (getR t.R b 0) (getR t.R c 0)).1), .int .i64 0, .int .i64 0]), (47, .bool false)])) 10 (.bool false) rfl (fun W hH => by kernel_rfl) hW.tail ?_
        refine wpAnyH_all (rs := [12]) (by kernel_rfl) (by simp) ?_
        refine all_cons ?_ all_nil
        obtain ⟨W6q12, hr, hW, hF⟩ := hW.storeN (P := Try.prog) (o := 0) (cs' := #[.int .i64 ((arithF 7 (getR t.R b 0) (getR t.R c 0)).1), .int .i64 0, .int .i64 0]) (L' := [(g6q11, 25, #[.int .i64 ((arithF 7 (getR t.R b 0) (getR t.R c 0)).1), .int .i64 0, .int .i64 0]), (g4q9, 25, #[.int .i64 (getR t.R b 0), .int .i64 (getR t.R b 1), .int .i64 (getR t.R b 2)]), (g4q8, 25, #[.int .i64 (getR t.R a 0), .int .i64 (getR t.R a 1), .int .i64 (getR t.R a 2)]), (g5, 32, tll_c1), (g3, 45, #[.int .i64 7, .int .i64 a, .int .i64 b, .int .i64 c, .int .i64 n]), (g1, 32, (tll_c2 t r7))]) 0 rfl #[.int .i64 ((arithF 7 (getR t.R b 0) (getR t.R c 0)).1), .int .i64 0, .int .i64 0] (by (try subst e7); kernel_rfl) (Nat.le_of_ble_eq_true rfl) (by kernel_rfl) rfl 25 (by kernel_rfl)
        have hK7 := hK7.store hF (.inr hK7_g6q11)
        refine op_none (w' := W6q12) (a' := (up (tll_b97 t a b c n g1 g3 g5 r7 sn9 g4q8 g4q9 g6q11) [(37, .tuple #[.agg #[.int .i64 ((arithF 7 (getR t.R b 0) (getR t.R c 0)).1), .int .i64 0, .int .i64 0], .bool false]), (44, .agg #[.int .i64 (getR t.R c 0), .int .i64 (getR t.R c 1), .int .i64 (getR t.R c 2)]), (45, .tuple #[.agg #[.int .i64 ((arithF 7 (getR t.R b 0) (getR t.R c 0)).1), .int .i64 0, .int .i64 0], .bool false]), (46, .agg #[.int .i64 ((arithF 7 (getR t.R b 0) (getR t.R c 0)).1), .int .i64 0, .int .i64 0]), (47, .bool false)])) rfl (by kernel_rfl) (Eq.trans (b := (do Instr.storeAt 25 (.pointer (some ⟨g6q11, 0, none⟩)) (.agg #[.int .i64 ((arithF 7 (getR t.R b 0) (getR t.R c 0)).1), .int .i64 0, .int .i64 0]); pure Next.skip : Sem Next).run Try.prog W6q7) (by kernel_rfl) (st_unit hr)) (by kernel_rfl) ?_
        refine ⟨hW.tail, ?_⟩
        refine dk (a' := (up (tll_b94 t a b c n g1 g3 g5 r7 sn9 g4q8 g4q9 g6q11) [])) 13 (.bool false) hW.tail ?_
        refine wpAnyH_done (by kernel_rfl) ?_ _
        simp only [Exit.then]
        exact ⟨g6q11, rfl, hW, hK7, hK7_g6q11⟩
      rintro _ Wm6 ⟨g6q11, rfl, hW, hK7, hK7_g6q11⟩
      refine wp_seq ?_
      refine wp_seq ?_
      refine wp_region_list ?_
      refine skp (.bool false) ?_
      refine sk (a' := (up (tll_b94 t a b c n g1 g3 g5 r7 sn9 g4q8 g4q9 g6q11) [(48, .bool false), (49, .bool true)])) (.bool true) ?_
      refine wpList_nil ?_
      refine wp_cond (t := true) (by kernel_rfl) ?_
      refine wp_seq ?_
      refine wp_region_list ?_
      refine sk (a' := (up (tll_b94 t a b c n g1 g3 g5 r7 sn9 g4q8 g4q9 g6q11) [(48, .bool false), (49, .bool true), (50, .pointer (some ⟨g1, 2, none⟩))])) (.pointer (some ⟨g1, 2, none⟩)) ?_
      obtain ⟨W11, hr, hW, hF⟩ := hW.store1 (P := Try.prog) (o := 2) (cs' := (tll_c3 t r7)) (L' := [(g6q11, 25, #[.int .i64 ((arithF 7 (getR t.R b 0) (getR t.R c 0)).1), .int .i64 0, .int .i64 0]), (g4q9, 25, #[.int .i64 (getR t.R b 0), .int .i64 (getR t.R b 1), .int .i64 (getR t.R b 2)]), (g4q8, 25, #[.int .i64 (getR t.R a 0), .int .i64 (getR t.R a 1), .int .i64 (getR t.R a 2)]), (g5, 32, tll_c1), (g3, 45, #[.int .i64 7, .int .i64 a, .int .i64 b, .int .i64 c, .int .i64 n]), (g1, 32, (tll_c3 t r7))]) 5 rfl (.int .i64 1) rfl (Nat.le_of_ble_eq_true rfl) (by rfl) rfl 3 (by kernel_rfl)
      have hK7 := hK7.store hF (.inl hK7_g1)
      refine st_none (w' := W11) (a' := (up (tll_b94 t a b c n g1 g3 g5 r7 sn9 g4q8 g4q9 g6q11) [(48, .bool false), (49, .bool true), (50, .pointer (some ⟨g1, 2, none⟩))])) (by kernel_rfl) (Eq.trans (b := (do Instr.storeAt 3 (.pointer (some ⟨g1, 2, none⟩)) (.int .i64 1); pure Next.skip : Sem Next).run Try.prog Wm6) (by kernel_rfl) (st_unit hr)) (by kernel_rfl) ?_
      refine wpList_nil ?_
      refine wp_exit ?_
      refine wp_seq ?_
      refine wp_region_list ?_
      refine se (a' := (up (tll_b94 t a b c n g1 g3 g5 r7 sn9 g4q8 g4q9 g6q11) [(48, .bool false), (49, .bool true), (50, .pointer (some ⟨g1, 2, none⟩)), (96, .agg (tll_c3 t r7))])) (.agg (tll_c3 t r7)) (evA hW 5 0 Try.underlying32) ?_
      obtain ⟨W12, hr, hW, hF⟩ := hW.storeN (P := Try.prog) (o := 0) (cs' := (tll_c3 t r7)) (L' := [(g6q11, 25, #[.int .i64 ((arithF 7 (getR t.R b 0) (getR t.R c 0)).1), .int .i64 0, .int .i64 0]), (g4q9, 25, #[.int .i64 (getR t.R b 0), .int .i64 (getR t.R b 1), .int .i64 (getR t.R b 2)]), (g4q8, 25, #[.int .i64 (getR t.R a 0), .int .i64 (getR t.R a 1), .int .i64 (getR t.R a 2)]), (g5, 32, (tll_c3 t r7)), (g3, 45, #[.int .i64 7, .int .i64 a, .int .i64 b, .int .i64 c, .int .i64 n]), (g1, 32, (tll_c3 t r7))]) 3 rfl (tll_c3 t r7) (by (try subst e7); kernel_rfl) (Nat.le_of_ble_eq_true rfl) (by kernel_rfl) rfl 32 (by kernel_rfl)
      have hK7 := hK7.store hF (.inl hK7_g5)
      refine st_none (w' := W12) (a' := (up (tll_b94 t a b c n g1 g3 g5 r7 sn9 g4q8 g4q9 g6q11) [(48, .bool false), (49, .bool true), (50, .pointer (some ⟨g1, 2, none⟩)), (96, .agg (tll_c3 t r7))])) (by kernel_rfl) (Eq.trans (b := (do Instr.storeAt 32 (.pointer (some ⟨g5, 0, none⟩)) (.agg (tll_c3 t r7)); pure Next.skip : Sem Next).run Try.prog W11) (by kernel_rfl) (st_unit hr)) (by kernel_rfl) ?_
      refine sk (a' := (up (tll_b94 t a b c n g1 g3 g5 r7 sn9 g4q8 g4q9 g6q11) [(5, .bool true), (48, .bool false), (49, .bool true), (50, .pointer (some ⟨g1, 2, none⟩)), (96, .agg (tll_c3 t r7))])) (.bool true) ?_
      refine wpList_nil ?_
      refine wp_ret ?_
      (try simp only [Exit.then, Exit.inBlock])
      change bodyPost Try.prog Try.f21 _ .ret _ _
      refine bodyPost_ret (results_ct rfl _ _ g5 32 _ (0, 0) _ (by kernel_rfl) (hW.blk 3 _ _ _ rfl).1 Try.underlying32 rfl (by kernel_rfl)) rfl ?_
      have hloc : localT t 7 a b c n = ({ t with st := 1 }, true) := (Eq.trans (b := ((if (arithF 7 (getR t.R b 0) (getR t.R c 0)).2 = true then { t with R := setR t.R a (arithF 7 (getR t.R b 0) (getR t.R c 0)).1 0 0 } else { t with st := 1 } : Th), true)) (by kernel_rfl) (by rw [if_neg (by rw [hz]; exact Bool.false_ne_true)]))
      subst e7
      rw [hloc]
      exact ⟨As7, cs7, Ab7, cb7, An7, cn7, rfl, ⟨Kd.R_lower (hK7.R hO7.s) hK7_le, Kd.R_lower (hK7.R hO7.b) hK7_le, Kd.R_lower (hK7.R hO7.n) hK7_le⟩, hW.below⟩
    · skip
      refine wp_region_list ?_
      refine sep (.bool false) (Eq.trans (b := .ok (.value (.bool ((op : Int) == 1))) Wm4) (by kernel_rfl) (st_ok (beq_eq_false_iff_ne.2 (by omega)))) ?_
      refine sk (a' := (up (tll_b20 t op a b c n g1 g3 g5 r7 sn9 g4q8 g4q9) [(36, .int .i64 op), (56, .bool false), (57, .bool false)])) (.bool false) ?_
      refine wpList_nil ?_
      refine wp_cond (t := false) (by kernel_rfl) ?_
      refine wp_seq ?_
      refine wp_region_list ?_
      refine sep (.bool false) (Eq.trans (b := .ok (.value (.bool ((op : Int) == 2))) Wm4) (by kernel_rfl) (st_ok (beq_eq_false_iff_ne.2 (by omega)))) ?_
      refine sk (a' := (up (tll_b20 t op a b c n g1 g3 g5 r7 sn9 g4q8 g4q9) [(36, .int .i64 op), (56, .bool false), (57, .bool false), (59, .bool false), (60, .bool false)])) (.bool false) ?_
      refine wpList_nil ?_
      refine wp_cond (t := false) (by kernel_rfl) ?_
      refine wp_seq ?_
      refine wp_region_list ?_
      refine sep (.bool false) (Eq.trans (b := .ok (.value (.bool ((op : Int) == 3))) Wm4) (by kernel_rfl) (st_ok (beq_eq_false_iff_ne.2 (by omega)))) ?_
      refine sk (a' := (up (tll_b100 t op a b c n g1 g3 g5 r7 sn9 g4q8 g4q9) [(68, .bool false)])) (.bool false) ?_
      refine wpList_nil ?_
      refine wp_cond (t := false) (by kernel_rfl) ?_
      refine wp_seq ?_
      refine wp_region_list ?_
      refine sep (.bool false) (Eq.trans (b := .ok (.value (.bool ((op : Int) == 8))) Wm4) (by kernel_rfl) (st_ok (beq_eq_false_iff_ne.2 (by omega)))) ?_
      refine sk (a' := (up (tll_b100 t op a b c n g1 g3 g5 r7 sn9 g4q8 g4q9) [(68, .bool false), (75, .bool false), (76, .bool false)])) (.bool false) ?_
      refine wpList_nil ?_
      refine wp_cond (t := false) (by kernel_rfl) ?_
      refine wp_seq ?_
      refine wp_region_list ?_
      refine sep (.bool false) (Eq.trans (b := .ok (.value (.bool ((op : Int) == 9))) Wm4) (by kernel_rfl) (st_ok (beq_eq_false_iff_ne.2 (by omega)))) ?_
      refine sk (a' := (up (tll_b100 t op a b c n g1 g3 g5 r7 sn9 g4q8 g4q9) [(68, .bool false), (75, .bool false), (76, .bool false), (80, .bool false), (81, .bool false)])) (.bool false) ?_
      refine wpList_nil ?_
      refine wp_cond (t := false) (by kernel_rfl) ?_
      refine wp_seq ?_
      refine wp_region_list ?_
      refine sep (.bool false) (Eq.trans (b := .ok (.value (.bool ((op : Int) == 10))) Wm4) (by kernel_rfl) (st_ok (beq_eq_false_iff_ne.2 (by omega)))) ?_
      refine sk (a' := (up (tll_b102 t op a b c n g1 g3 g5 r7 sn9 g4q8 g4q9) [(88, .bool false)])) (.bool false) ?_
      refine wpList_nil ?_
      refine wp_cond (t := false) (by kernel_rfl) ?_
      refine wp_seq ?_
      have hW := hW.drew
      have hK7 := hK7.below (below_drew (Below.refl _ _))
      refine wp_mid (M := fun a' W' => ∃ g6q11 : Nat, a' = (up (tll_b106 t op a b c n g1 g3 g5 r7 sn9 g4q8 g4q9) [(8, .pointer (some ⟨g6q11, 0, none⟩)), (9, .bool true)]) ∧ Ws w W' [(g6q11, 25, #[.int .i64 ((arithF op (getR t.R b 0) (getR t.R c 0)).1), .int .i64 0, .int .i64 0]), (g4q9, 25, #[.int .i64 (getR t.R b 0), .int .i64 (getR t.R b 1), .int .i64 (getR t.R b 2)]), (g4q8, 25, #[.int .i64 (getR t.R a 0), .int .i64 (getR t.R a 1), .int .i64 (getR t.R a 2)]), (g5, 32, tll_c1), (g3, 45, #[.int .i64 op, .int .i64 a, .int .i64 b, .int .i64 c, .int .i64 n]), (g1, 32, (tll_c2 t r7))] ∧ KeepUp W6.heap.size W7 W' ∧ W7.heap.size ≤ g6q11) ?_ ?_
      · skip
        refine wp_region_held_drew (S := fun W => Ws w W [(g4q9, 25, #[.int .i64 (getR t.R b 0), .int .i64 (getR t.R b 1), .int .i64 (getR t.R b 2)]), (g4q8, 25, #[.int .i64 (getR t.R a 0), .int .i64 (getR t.R a 1), .int .i64 (getR t.R a 2)]), (g5, 32, tll_c1), (g3, 45, #[.int .i64 op, .int .i64 a, .int .i64 b, .int .i64 c, .int .i64 n]), (g1, 32, (tll_c2 t r7))]) (by kernel_rfl) hW (fun _ => ?_)
        refine dk (a' := (up (tll_b102 t op a b c n g1 g3 g5 r7 sn9 g4q8 g4q9) [(38, .pointer (some ⟨g3, 0, none⟩)), (88, .bool false)])) 0 (.pointer (some ⟨g3, 0, none⟩)) hW ?_
        refine de (a' := (up (tll_b102 t op a b c n g1 g3 g5 r7 sn9 g4q8 g4q9) [(38, .pointer (some ⟨g3, 0, none⟩)), (39, .int .i64 op), (88, .bool false)])) 1 (.int .i64 op) rfl (fun W hH => (ev1 hH 3 0 Try.underlying3)) hW ?_
        refine de (a' := (up (tll_b102 t op a b c n g1 g3 g5 r7 sn9 g4q8 g4q9) [(38, .pointer (some ⟨g3, 0, none⟩)), (39, .int .i64 op), (40, .agg #[.int .i64 (getR t.R b 0), .int .i64 (getR t.R b 1), .int .i64 (getR t.R b 2)]), (88, .bool false)])) 2 (.agg #[.int .i64 (getR t.R b 0), .int .i64 (getR t.R b 1), .int .i64 (getR t.R b 2)]) rfl (fun W hH => (evA hH 0 0 Try.underlying25)) hW ?_
        refine de (a' := (up (tll_b102 t op a b c n g1 g3 g5 r7 sn9 g4q8 g4q9) [(38, .pointer (some ⟨g3, 0, none⟩)), (39, .int .i64 op), (40, .agg #[.int .i64 (getR t.R b 0), .int .i64 (getR t.R b 1), .int .i64 (getR t.R b 2)]), (41, .agg (tll_c2 t r7)), (88, .bool false)])) 3 (.agg (tll_c2 t r7)) rfl (fun W hH => (evA hH 4 0 Try.underlying32)) hW ?_
        refine dk (a' := (up (tll_b104 t op a b c n g1 g3 g5 r7 sn9 g4q8 g4q9) [])) 4 (.pointer (some ⟨g3, 3, none⟩)) hW ?_
        refine de (a' := (up (tll_b104 t op a b c n g1 g3 g5 r7 sn9 g4q8 g4q9) [(43, .int .i64 c)])) 5 (.int .i64 c) rfl (fun W hH => (ev1 hH 3 3 Try.underlying3)) hW ?_
        refine wpAnyH_all (rs := [6, 11]) (by kernel_rfl) (by simp) ?_
        refine all_cons ?_ ?_
        · skip
          refine op_call rfl (th_Get (⟨t.pc, t.fu, t.st, t.R, t.kd, t.mi, t.mn, r7.s, r7.b, r7.n, t.old⟩ : Th) c Wm4.drew) (by kernel_rfl) (by kernel_rfl) ?_
          rintro _ W6q6 ⟨rfl, hB⟩
          have hW := hW.step hB
          have hK7 := hK7.below hB
          refine ⟨_, (up (tll_b104 t op a b c n g1 g3 g5 r7 sn9 g4q8 g4q9) [(43, .int .i64 c), (44, .agg #[.int .i64 (getR t.R c 0), .int .i64 (getR t.R c 1), .int .i64 (getR t.R c 2)])]), rfl, by (try subst e7); kernel_rfl, ?_⟩
          refine ⟨hW, ?_⟩
          refine wpAnyH_all (rs := [7, 11]) (by kernel_rfl) (by simp) ?_
          refine all_cons ?_ ?_
          · skip
            refine op_call rfl (arith_is op (getR t.R b 0) (getR t.R b 1) (getR t.R b 2) (getR t.R c 0) (getR t.R c 1) (getR t.R c 2) (by omega) true har.2 W6q6) (by kernel_rfl) (by kernel_rfl) ?_
            rintro _ W6q7 ⟨rfl, hB⟩
            have hW := hW.step hB
            have hK7 := hK7.below hB
            refine ⟨_, (up (tll_b104 t op a b c n g1 g3 g5 r7 sn9 g4q8 g4q9) [(43, .int .i64 c), (44, .agg #[.int .i64 (getR t.R c 0), .int .i64 (getR t.R c 1), .int .i64 (getR t.R c 2)]), (45, .tuple #[.agg #[.int .i64 ((arithF op (getR t.R b 0) (getR t.R c 0)).1), .int .i64 0, .int .i64 0], .bool true])]), rfl, by (try subst e7); kernel_rfl, ?_⟩
            refine ⟨hW, ?_⟩
            refine dk (a' := (up (tll_b104 t op a b c n g1 g3 g5 r7 sn9 g4q8 g4q9) [(37, .tuple #[.agg #[.int .i64 ((arithF op (getR t.R b 0) (getR t.R c 0)).1), .int .i64 0, .int .i64 0], .bool true]), (43, .int .i64 c), (44, .agg #[.int .i64 (getR t.R c 0), .int .i64 (getR t.R c 1), .int .i64 (getR t.R c 2)]), (45, .tuple #[.agg #[.int .i64 ((arithF op (getR t.R b 0) (getR t.R c 0)).1), .int .i64 0, .int .i64 0], .bool true])])) 8 (.tuple #[.agg #[.int .i64 ((arithF op (getR t.R b 0) (getR t.R c 0)).1), .int .i64 0, .int .i64 0], .bool true]) hW ?_
            refine de (a' := (up (tll_b104 t op a b c n g1 g3 g5 r7 sn9 g4q8 g4q9) [(37, .tuple #[.agg #[.int .i64 ((arithF op (getR t.R b 0) (getR t.R c 0)).1), .int .i64 0, .int .i64 0], .bool true]), (43, .int .i64 c), (44, .agg #[.int .i64 (getR t.R c 0), .int .i64 (getR t.R c 1), .int .i64 (getR t.R c 2)]), (45, .tuple #[.agg #[.int .i64 ((arithF op (getR t.R b 0) (getR t.R c 0)).1), .int .i64 0, .int .i64 0], .bool true]), (46, .agg #[.int .i64 ((arithF op (getR t.R b 0) (getR t.R c 0)).1), .int .i64 0, .int .i64 0])])) 9 (.agg #[.int .i64 ((arithF op (getR t.R b 0) (getR t.R c 0)).1), .int .i64 0, .int .i64 0]) rfl (fun W hH => by kernel_rfl) hW ?_
            refine de (a' := (up (tll_b106 t op a b c n g1 g3 g5 r7 sn9 g4q8 g4q9) [])) 10 (.bool true) rfl (fun W hH => by kernel_rfl) hW ?_
            refine wpAnyH_all (rs := [11]) (by kernel_rfl) (by simp) ?_
            refine all_cons ?_ all_nil
            obtain ⟨g6q11, W6q11, hr, hW, hbb, hge⟩ := hW.mk1 (P := Try.prog) (s := Instr.alloc 25 true (.tuple #[])) #[.int .i64 0, .int .i64 0, .int .i64 0] 25 (by kernel_rfl)
            have hK7_g6q11 := Nat.le_trans hK7.size hge
            have hK7 := hK7.below hbb
            refine op_val (w' := W6q11) (a' := (up (tll_b106 t op a b c n g1 g3 g5 r7 sn9 g4q8 g4q9) [(8, .pointer (some ⟨g6q11, 0, none⟩))])) (.pointer (some ⟨g6q11, 0, none⟩)) rfl (by kernel_rfl) (Eq.trans (b := (do pure (Next.value (← Instr.alloc 25 true (.tuple #[]))) : Sem Next).run Try.prog W6q7) (by kernel_rfl) (st_val hr)) (by kernel_rfl) ?_
            refine ⟨hW.tail, ?_⟩
            refine wpAnyH_all (rs := [12]) (by kernel_rfl) (by simp) ?_
            refine all_cons ?_ all_nil
            obtain ⟨W6q12, hr, hW, hF⟩ := hW.storeN (P := Try.prog) (o := 0) (cs' := #[.int .i64 ((arithF op (getR t.R b 0) (getR t.R c 0)).1), .int .i64 0, .int .i64 0]) (L' := [(g6q11, 25, #[.int .i64 ((arithF op (getR t.R b 0) (getR t.R c 0)).1), .int .i64 0, .int .i64 0]), (g4q9, 25, #[.int .i64 (getR t.R b 0), .int .i64 (getR t.R b 1), .int .i64 (getR t.R b 2)]), (g4q8, 25, #[.int .i64 (getR t.R a 0), .int .i64 (getR t.R a 1), .int .i64 (getR t.R a 2)]), (g5, 32, tll_c1), (g3, 45, #[.int .i64 op, .int .i64 a, .int .i64 b, .int .i64 c, .int .i64 n]), (g1, 32, (tll_c2 t r7))]) 0 rfl #[.int .i64 ((arithF op (getR t.R b 0) (getR t.R c 0)).1), .int .i64 0, .int .i64 0] (by (try subst e7); kernel_rfl) (Nat.le_of_ble_eq_true rfl) (by kernel_rfl) rfl 25 (by kernel_rfl)
            have hK7 := hK7.store hF (.inr hK7_g6q11)
            refine op_none (w' := W6q12) (a' := (up (tll_b106 t op a b c n g1 g3 g5 r7 sn9 g4q8 g4q9) [(8, .pointer (some ⟨g6q11, 0, none⟩))])) rfl (by kernel_rfl) (Eq.trans (b := (do Instr.storeAt 25 (.pointer (some ⟨g6q11, 0, none⟩)) (.agg #[.int .i64 ((arithF op (getR t.R b 0) (getR t.R c 0)).1), .int .i64 0, .int .i64 0]); pure Next.skip : Sem Next).run Try.prog W6q11) (by kernel_rfl) (st_unit hr)) (by kernel_rfl) ?_
            refine ⟨hW.tail, ?_⟩
            refine dk (a' := (up (tll_b106 t op a b c n g1 g3 g5 r7 sn9 g4q8 g4q9) [(8, .pointer (some ⟨g6q11, 0, none⟩)), (9, .bool true)])) 13 (.bool true) hW.tail ?_
            refine wpAnyH_done (by kernel_rfl) ?_ _
            simp only [Exit.then]
            exact ⟨g6q11, rfl, hW, hK7, hK7_g6q11⟩
          refine all_cons ?_ all_nil
          obtain ⟨g6q11, W6q11, hr, hW, hbb, hge⟩ := hW.mk1 (P := Try.prog) (s := Instr.alloc 25 true (.tuple #[])) #[.int .i64 0, .int .i64 0, .int .i64 0] 25 (by kernel_rfl)
          have hK7_g6q11 := Nat.le_trans hK7.size hge
          have hK7 := hK7.below hbb
          refine op_val (w' := W6q11) (a' := (up (tll_b104 t op a b c n g1 g3 g5 r7 sn9 g4q8 g4q9) [(8, .pointer (some ⟨g6q11, 0, none⟩)), (43, .int .i64 c), (44, .agg #[.int .i64 (getR t.R c 0), .int .i64 (getR t.R c 1), .int .i64 (getR t.R c 2)])])) (.pointer (some ⟨g6q11, 0, none⟩)) rfl (by kernel_rfl) (Eq.trans (b := (do pure (Next.value (← Instr.alloc 25 true (.tuple #[]))) : Sem Next).run Try.prog W6q6) (by kernel_rfl) (st_val hr)) (by kernel_rfl) ?_
          refine ⟨hW.tail, ?_⟩
          refine wpAnyH_all (rs := [7]) (by kernel_rfl) (by simp) ?_
          refine all_cons ?_ all_nil
          refine op_call rfl (arith_is op (getR t.R b 0) (getR t.R b 1) (getR t.R b 2) (getR t.R c 0) (getR t.R c 1) (getR t.R c 2) (by omega) true har.2 W6q11) (by kernel_rfl) (by kernel_rfl) ?_
          rintro _ W6q7 ⟨rfl, hB⟩
          have hW := hW.step hB
          have hK7 := hK7.below hB
          refine ⟨_, (up (tll_b104 t op a b c n g1 g3 g5 r7 sn9 g4q8 g4q9) [(8, .pointer (some ⟨g6q11, 0, none⟩)), (43, .int .i64 c), (44, .agg #[.int .i64 (getR t.R c 0), .int .i64 (getR t.R c 1), .int .i64 (getR t.R c 2)]), (45, .tuple #[.agg #[.int .i64 ((arithF op (getR t.R b 0) (getR t.R c 0)).1), .int .i64 0, .int .i64 0], .bool true])]), rfl, by (try subst e7); kernel_rfl, ?_⟩
          refine ⟨hW.tail, ?_⟩
          refine dk (a' := (up (tll_b104 t op a b c n g1 g3 g5 r7 sn9 g4q8 g4q9) [(8, .pointer (some ⟨g6q11, 0, none⟩)), (37, .tuple #[.agg #[.int .i64 ((arithF op (getR t.R b 0) (getR t.R c 0)).1), .int .i64 0, .int .i64 0], .bool true]), (43, .int .i64 c), (44, .agg #[.int .i64 (getR t.R c 0), .int .i64 (getR t.R c 1), .int .i64 (getR t.R c 2)]), (45, .tuple #[.agg #[.int .i64 ((arithF op (getR t.R b 0) (getR t.R c 0)).1), .int .i64 0, .int .i64 0], .bool true])])) 8 (.tuple #[.agg #[.int .i64 ((arithF op (getR t.R b 0) (getR t.R c 0)).1), .int .i64 0, .int .i64 0], .bool true]) hW.tail ?_
          refine de (a' := (up (tll_b109 t op a b c n g1 g3 g5 r7 sn9 g4q8 g4q9 g6q11) [])) 9 (.agg #[.int .i64 ((arithF op (getR t.R b 0) (getR t.R c 0)).1), .int .i64 0, .int .i64 0]) rfl (fun W hH => by kernel_rfl) hW.tail ?_
          refine de (a' := (up (tll_b109 t op a b c n g1 g3 g5 r7 sn9 g4q8 g4q9 g6q11) [(47, .bool true)])) 10 (.bool true) rfl (fun W hH => by kernel_rfl) hW.tail ?_
          refine wpAnyH_all (rs := [12]) (by kernel_rfl) (by simp) ?_
          refine all_cons ?_ all_nil
          obtain ⟨W6q12, hr, hW, hF⟩ := hW.storeN (P := Try.prog) (o := 0) (cs' := #[.int .i64 ((arithF op (getR t.R b 0) (getR t.R c 0)).1), .int .i64 0, .int .i64 0]) (L' := [(g6q11, 25, #[.int .i64 ((arithF op (getR t.R b 0) (getR t.R c 0)).1), .int .i64 0, .int .i64 0]), (g4q9, 25, #[.int .i64 (getR t.R b 0), .int .i64 (getR t.R b 1), .int .i64 (getR t.R b 2)]), (g4q8, 25, #[.int .i64 (getR t.R a 0), .int .i64 (getR t.R a 1), .int .i64 (getR t.R a 2)]), (g5, 32, tll_c1), (g3, 45, #[.int .i64 op, .int .i64 a, .int .i64 b, .int .i64 c, .int .i64 n]), (g1, 32, (tll_c2 t r7))]) 0 rfl #[.int .i64 ((arithF op (getR t.R b 0) (getR t.R c 0)).1), .int .i64 0, .int .i64 0] (by (try subst e7); kernel_rfl) (Nat.le_of_ble_eq_true rfl) (by kernel_rfl) rfl 25 (by kernel_rfl)
          have hK7 := hK7.store hF (.inr hK7_g6q11)
          refine op_none (w' := W6q12) (a' := (up (tll_b109 t op a b c n g1 g3 g5 r7 sn9 g4q8 g4q9 g6q11) [(47, .bool true)])) rfl (by kernel_rfl) (Eq.trans (b := (do Instr.storeAt 25 (.pointer (some ⟨g6q11, 0, none⟩)) (.agg #[.int .i64 ((arithF op (getR t.R b 0) (getR t.R c 0)).1), .int .i64 0, .int .i64 0]); pure Next.skip : Sem Next).run Try.prog W6q7) (by kernel_rfl) (st_unit hr)) (by kernel_rfl) ?_
          refine ⟨hW.tail, ?_⟩
          refine dk (a' := (up (tll_b109 t op a b c n g1 g3 g5 r7 sn9 g4q8 g4q9 g6q11) [(9, .bool true), (47, .bool true)])) 13 (.bool true) hW.tail ?_
          refine wpAnyH_done (by kernel_rfl) ?_ _
          simp only [Exit.then]
          exact ⟨g6q11, rfl, hW, hK7, hK7_g6q11⟩
        refine all_cons ?_ all_nil
        obtain ⟨g6q11, W6q11, hr, hW, hbb, hge⟩ := hW.mk1 (P := Try.prog) (s := Instr.alloc 25 true (.tuple #[])) #[.int .i64 0, .int .i64 0, .int .i64 0] 25 (by kernel_rfl)
        have hK7_g6q11 := Nat.le_trans hK7.size hge
        have hK7 := hK7.below hbb
        refine op_val (w' := W6q11) (a' := (up (tll_b104 t op a b c n g1 g3 g5 r7 sn9 g4q8 g4q9) [(8, .pointer (some ⟨g6q11, 0, none⟩)), (43, .int .i64 c)])) (.pointer (some ⟨g6q11, 0, none⟩)) rfl (by kernel_rfl) (Eq.trans (b := (do pure (Next.value (← Instr.alloc 25 true (.tuple #[]))) : Sem Next).run Try.prog Wm4.drew) (by kernel_rfl) (st_val hr)) (by kernel_rfl) ?_
        refine ⟨hW.tail, ?_⟩
        refine wpAnyH_all (rs := [6]) (by kernel_rfl) (by simp) ?_
        refine all_cons ?_ all_nil
        refine op_call rfl (th_Get (⟨t.pc, t.fu, t.st, t.R, t.kd, t.mi, t.mn, r7.s, r7.b, r7.n, t.old⟩ : Th) c W6q11) (by kernel_rfl) (by kernel_rfl) ?_
        rintro _ W6q6 ⟨rfl, hB⟩
        have hW := hW.step hB
        have hK7 := hK7.below hB
        refine ⟨_, (up (tll_b104 t op a b c n g1 g3 g5 r7 sn9 g4q8 g4q9) [(8, .pointer (some ⟨g6q11, 0, none⟩)), (43, .int .i64 c), (44, .agg #[.int .i64 (getR t.R c 0), .int .i64 (getR t.R c 1), .int .i64 (getR t.R c 2)])]), rfl, by (try subst e7); kernel_rfl, ?_⟩
        refine ⟨hW.tail, ?_⟩
        refine wpAnyH_all (rs := [7]) (by kernel_rfl) (by simp) ?_
        refine all_cons ?_ all_nil
        refine op_call rfl (arith_is op (getR t.R b 0) (getR t.R b 1) (getR t.R b 2) (getR t.R c 0) (getR t.R c 1) (getR t.R c 2) (by omega) true har.2 W6q6) (by kernel_rfl) (by kernel_rfl) ?_
        rintro _ W6q7 ⟨rfl, hB⟩
        have hW := hW.step hB
        have hK7 := hK7.below hB
        refine ⟨_, (up (tll_b104 t op a b c n g1 g3 g5 r7 sn9 g4q8 g4q9) [(8, .pointer (some ⟨g6q11, 0, none⟩)), (43, .int .i64 c), (44, .agg #[.int .i64 (getR t.R c 0), .int .i64 (getR t.R c 1), .int .i64 (getR t.R c 2)]), (45, .tuple #[.agg #[.int .i64 ((arithF op (getR t.R b 0) (getR t.R c 0)).1), .int .i64 0, .int .i64 0], .bool true])]), rfl, by (try subst e7); kernel_rfl, ?_⟩
        refine ⟨hW.tail, ?_⟩
        refine dk (a' := (up (tll_b104 t op a b c n g1 g3 g5 r7 sn9 g4q8 g4q9) [(8, .pointer (some ⟨g6q11, 0, none⟩)), (37, .tuple #[.agg #[.int .i64 ((arithF op (getR t.R b 0) (getR t.R c 0)).1), .int .i64 0, .int .i64 0], .bool true]), (43, .int .i64 c), (44, .agg #[.int .i64 (getR t.R c 0), .int .i64 (getR t.R c 1), .int .i64 (getR t.R c 2)]), (45, .tuple #[.agg #[.int .i64 ((arithF op (getR t.R b 0) (getR t.R c 0)).1), .int .i64 0, .int .i64 0], .bool true])])) 8 (.tuple #[.agg #[.int .i64 ((arithF op (getR t.R b 0) (getR t.R c 0)).1), .int .i64 0, .int .i64 0], .bool true]) hW.tail ?_
        refine de (a' := (up (tll_b109 t op a b c n g1 g3 g5 r7 sn9 g4q8 g4q9 g6q11) [])) 9 (.agg #[.int .i64 ((arithF op (getR t.R b 0) (getR t.R c 0)).1), .int .i64 0, .int .i64 0]) rfl (fun W hH => by kernel_rfl) hW.tail ?_
        refine de (a' := (up (tll_b109 t op a b c n g1 g3 g5 r7 sn9 g4q8 g4q9 g6q11) [(47, .bool true)])) 10 (.bool true) rfl (fun W hH => by kernel_rfl) hW.tail ?_
        refine wpAnyH_all (rs := [12]) (by kernel_rfl) (by simp) ?_
        refine all_cons ?_ all_nil
        obtain ⟨W6q12, hr, hW, hF⟩ := hW.storeN (P := Try.prog) (o := 0) (cs' := #[.int .i64 ((arithF op (getR t.R b 0) (getR t.R c 0)).1), .int .i64 0, .int .i64 0]) (L' := [(g6q11, 25, #[.int .i64 ((arithF op (getR t.R b 0) (getR t.R c 0)).1), .int .i64 0, .int .i64 0]), (g4q9, 25, #[.int .i64 (getR t.R b 0), .int .i64 (getR t.R b 1), .int .i64 (getR t.R b 2)]), (g4q8, 25, #[.int .i64 (getR t.R a 0), .int .i64 (getR t.R a 1), .int .i64 (getR t.R a 2)]), (g5, 32, tll_c1), (g3, 45, #[.int .i64 op, .int .i64 a, .int .i64 b, .int .i64 c, .int .i64 n]), (g1, 32, (tll_c2 t r7))]) 0 rfl #[.int .i64 ((arithF op (getR t.R b 0) (getR t.R c 0)).1), .int .i64 0, .int .i64 0] (by (try subst e7); kernel_rfl) (Nat.le_of_ble_eq_true rfl) (by kernel_rfl) rfl 25 (by kernel_rfl)
        have hK7 := hK7.store hF (.inr hK7_g6q11)
        refine op_none (w' := W6q12) (a' := (up (tll_b109 t op a b c n g1 g3 g5 r7 sn9 g4q8 g4q9 g6q11) [(47, .bool true)])) rfl (by kernel_rfl) (Eq.trans (b := (do Instr.storeAt 25 (.pointer (some ⟨g6q11, 0, none⟩)) (.agg #[.int .i64 ((arithF op (getR t.R b 0) (getR t.R c 0)).1), .int .i64 0, .int .i64 0]); pure Next.skip : Sem Next).run Try.prog W6q7) (by kernel_rfl) (st_unit hr)) (by kernel_rfl) ?_
        refine ⟨hW.tail, ?_⟩
        refine dk (a' := (up (tll_b109 t op a b c n g1 g3 g5 r7 sn9 g4q8 g4q9 g6q11) [(9, .bool true), (47, .bool true)])) 13 (.bool true) hW.tail ?_
        refine wpAnyH_done (by kernel_rfl) ?_ _
        simp only [Exit.then]
        exact ⟨g6q11, rfl, hW, hK7, hK7_g6q11⟩
      rintro _ Wm6 ⟨g6q11, rfl, hW, hK7, hK7_g6q11⟩
      refine wp_seq ?_
      refine wp_seq ?_
      refine wp_region_list ?_
      refine skp (.bool true) ?_
      refine sk (a' := (up (tll_b109 t op a b c n g1 g3 g5 r7 sn9 g4q8 g4q9 g6q11) [(9, .bool true), (47, .bool true), (48, .bool true), (49, .bool false)])) (.bool false) ?_
      refine wpList_nil ?_
      refine wp_cond (t := false) (by kernel_rfl) ?_
      refine wp_skip ?_
      refine wp_region_list ?_
      refine sep (.agg (tll_c2 t r7)) (evA hW 5 0 Try.underlying32) ?_
      refine skp (.pointer (some ⟨g3, 1, none⟩)) ?_
      refine se (a' := (up (tll_b112 t op a b c n g1 g3 g5 r7 sn9 g4q8 g4q9 g6q11) [(53, .int .i64 a)])) (.int .i64 a) (ev1 hW 4 1 Try.underlying3) ?_
      refine se (a' := (up (tll_b112 t op a b c n g1 g3 g5 r7 sn9 g4q8 g4q9 g6q11) [(53, .int .i64 a), (54, .agg #[.int .i64 ((arithF op (getR t.R b 0) (getR t.R c 0)).1), .int .i64 0, .int .i64 0])])) (.agg #[.int .i64 ((arithF op (getR t.R b 0) (getR t.R c 0)).1), .int .i64 0, .int .i64 0]) (evA hW 0 0 Try.underlying25) ?_
      have hK11_g6q11 : g6q11 < Wm6.heap.size := blk_lt (hW.blk 0 _ _ _ rfl).1
      have hK11_g4q9 : g4q9 < Wm6.heap.size := blk_lt (hW.blk 1 _ _ _ rfl).1
      have hK11_g4q8 : g4q8 < Wm6.heap.size := blk_lt (hW.blk 2 _ _ _ rfl).1
      have hK11_g5 : g5 < Wm6.heap.size := blk_lt (hW.blk 3 _ _ _ rfl).1
      have hK11_g3 : g3 < Wm6.heap.size := blk_lt (hW.blk 4 _ _ _ rfl).1
      have hK11_g1 : g1 < Wm6.heap.size := blk_lt (hW.blk 5 _ _ _ rfl).1
      have hK11_le : w.heap.size ≤ Wm6.heap.size := hW.below.size
      refine st_call (th_Set (t := (⟨t.pc, t.fu, t.st, t.R, t.kd, t.mi, t.mn, r7.s, r7.b, r7.n, t.old⟩ : Th)) (xs := xs) (bs := bs) (ns := ns) (by subst e7; exact ⟨(hO7.keep hK7).reads.s, (hO7.keep hK7).reads.b, (hO7.keep hK7).reads.n⟩) hl a ((arithF op (getR t.R b 0) (getR t.R c 0)).1) 0 0) (by kernel_rfl) (by kernel_rfl) ?_
      rintro _ W11 ⟨As11, cs11, Ab11, cb11, An11, cn11, rfl, hO11, hB⟩
      have hW := hW.step hB
      have hK7 := hK7.below hB
      have hK11 := KeepUp.refl Wm6.heap.size W11
      obtain ⟨r11, e11⟩ : ∃ r : Rw, r = ⟨.slice As11 xs.length cs11, .slice Ab11 bs.length cb11, .slice An11 ns.length cn11⟩ := ⟨_, rfl⟩
      refine ⟨_, (up (tll_b112 t op a b c n g1 g3 g5 r7 sn9 g4q8 g4q9 g6q11) [(53, .int .i64 a), (54, .agg #[.int .i64 ((arithF op (getR t.R b 0) (getR t.R c 0)).1), .int .i64 0, .int .i64 0]), (55, .agg (tll_c7 t op a b c r11))]), rfl, by (try subst e7); (try subst e11); kernel_rfl, ?_⟩
      obtain ⟨W12, hr, hW, hF⟩ := hW.storeN (P := Try.prog) (o := 0) (cs' := (tll_c7 t op a b c r11)) (L' := [(g6q11, 25, #[.int .i64 ((arithF op (getR t.R b 0) (getR t.R c 0)).1), .int .i64 0, .int .i64 0]), (g4q9, 25, #[.int .i64 (getR t.R b 0), .int .i64 (getR t.R b 1), .int .i64 (getR t.R b 2)]), (g4q8, 25, #[.int .i64 (getR t.R a 0), .int .i64 (getR t.R a 1), .int .i64 (getR t.R a 2)]), (g5, 32, tll_c1), (g3, 45, #[.int .i64 op, .int .i64 a, .int .i64 b, .int .i64 c, .int .i64 n]), (g1, 32, (tll_c7 t op a b c r11))]) 5 rfl (tll_c7 t op a b c r11) (by (try subst e7); (try subst e11); kernel_rfl) (Nat.le_of_ble_eq_true rfl) (by kernel_rfl) rfl 32 (by kernel_rfl)
      have hK7 := hK7.store hF (.inl hK7_g1)
      have hK11 := hK11.store hF (.inl hK11_g1)
      refine st_none (w' := W12) (a' := (up (tll_b112 t op a b c n g1 g3 g5 r7 sn9 g4q8 g4q9 g6q11) [(53, .int .i64 a), (54, .agg #[.int .i64 ((arithF op (getR t.R b 0) (getR t.R c 0)).1), .int .i64 0, .int .i64 0]), (55, .agg (tll_c7 t op a b c r11))])) (by kernel_rfl) (Eq.trans (b := (do Instr.storeAt 32 (.pointer (some ⟨g1, 0, none⟩)) (.agg (tll_c7 t op a b c r11)); pure Next.skip : Sem Next).run Try.prog W11) (by kernel_rfl) (st_unit hr)) (by kernel_rfl) ?_
      refine wpList_nil ?_
      refine wp_seq ?_
      refine wp_region_list ?_
      refine se (a' := (up (tll_b112 t op a b c n g1 g3 g5 r7 sn9 g4q8 g4q9 g6q11) [(53, .int .i64 a), (54, .agg #[.int .i64 ((arithF op (getR t.R b 0) (getR t.R c 0)).1), .int .i64 0, .int .i64 0]), (55, .agg (tll_c7 t op a b c r11)), (96, .agg (tll_c7 t op a b c r11))])) (.agg (tll_c7 t op a b c r11)) (evA hW 5 0 Try.underlying32) ?_
      obtain ⟨W13, hr, hW, hF⟩ := hW.storeN (P := Try.prog) (o := 0) (cs' := (tll_c7 t op a b c r11)) (L' := [(g6q11, 25, #[.int .i64 ((arithF op (getR t.R b 0) (getR t.R c 0)).1), .int .i64 0, .int .i64 0]), (g4q9, 25, #[.int .i64 (getR t.R b 0), .int .i64 (getR t.R b 1), .int .i64 (getR t.R b 2)]), (g4q8, 25, #[.int .i64 (getR t.R a 0), .int .i64 (getR t.R a 1), .int .i64 (getR t.R a 2)]), (g5, 32, (tll_c7 t op a b c r11)), (g3, 45, #[.int .i64 op, .int .i64 a, .int .i64 b, .int .i64 c, .int .i64 n]), (g1, 32, (tll_c7 t op a b c r11))]) 3 rfl (tll_c7 t op a b c r11) (by (try subst e7); (try subst e11); kernel_rfl) (Nat.le_of_ble_eq_true rfl) (by kernel_rfl) rfl 32 (by kernel_rfl)
      have hK7 := hK7.store hF (.inl hK7_g5)
      have hK11 := hK11.store hF (.inl hK11_g5)
      refine st_none (w' := W13) (a' := (up (tll_b112 t op a b c n g1 g3 g5 r7 sn9 g4q8 g4q9 g6q11) [(53, .int .i64 a), (54, .agg #[.int .i64 ((arithF op (getR t.R b 0) (getR t.R c 0)).1), .int .i64 0, .int .i64 0]), (55, .agg (tll_c7 t op a b c r11)), (96, .agg (tll_c7 t op a b c r11))])) (by kernel_rfl) (Eq.trans (b := (do Instr.storeAt 32 (.pointer (some ⟨g5, 0, none⟩)) (.agg (tll_c7 t op a b c r11)); pure Next.skip : Sem Next).run Try.prog W12) (by kernel_rfl) (st_unit hr)) (by kernel_rfl) ?_
      refine sk (a' := (up (tll_b112 t op a b c n g1 g3 g5 r7 sn9 g4q8 g4q9 g6q11) [(5, .bool true), (53, .int .i64 a), (54, .agg #[.int .i64 ((arithF op (getR t.R b 0) (getR t.R c 0)).1), .int .i64 0, .int .i64 0]), (55, .agg (tll_c7 t op a b c r11)), (96, .agg (tll_c7 t op a b c r11))])) (.bool true) ?_
      refine wpList_nil ?_
      refine wp_ret ?_
      (try simp only [Exit.then, Exit.inBlock])
      change bodyPost Try.prog Try.f21 _ .ret _ _
      refine bodyPost_ret (results_ct rfl _ _ g5 32 _ (0, 0) _ (by kernel_rfl) (hW.blk 3 _ _ _ rfl).1 Try.underlying32 rfl (by kernel_rfl)) rfl ?_
      have hloc : localT t op a b c n = ({ t with R := setR t.R a (arithF op (getR t.R b 0) (getR t.R c 0)).1 0 0 }, true) := (by unfold localT; rw [if_neg (by omega), if_neg (by omega), if_neg (by omega), if_neg (by omega), if_neg (by omega), if_neg (by omega), if_pos (by omega), if_pos har.2])
      subst e11
      rw [hloc]
      exact ⟨As11, cs11, Ab11, cb11, An11, cn11, rfl, ⟨Kd.R_lower (hK11.R hO11.s) hK11_le, Kd.R_lower (hK11.R hO11.b) hK11_le, Kd.R_lower (hK11.R hO11.n) hK11_le⟩, hW.below⟩
end Go.Proofs.Ythcmcekjgecnhaa.Th
