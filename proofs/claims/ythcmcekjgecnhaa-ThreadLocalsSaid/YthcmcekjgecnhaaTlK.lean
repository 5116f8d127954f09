/- What the plain Local answers. No condition beside those that each theorem names. -/
import Derived.Test.YthcmcekjgecnhaaTlJ
namespace Go.Proofs.Ythcmcekjgecnhaa.Th
open Go.RowKit Go.Proofs.YthcmcekjgecnhaaW.PrintWords Go.Proofs.YthcmcekjgecnhaaW.PrintLast
open Go.Proofs.YthcmcekjgecnhaaW.HWords Go.Proofs.Ythcmcekjgecnhaa.QThreadLocals
set_option linter.unusedVariables false
set_option linter.unusedSimpArgs false
set_option maxHeartbeats 8000000 in
set_option maxRecDepth 100000 in
theorem th_rLocal {w : World} {t : Th} {xs : List Int} {bs : List S42} {ns : List Int} (h : t.reads w xs bs ns) (hl : xs.length ≤ 1000 ∧ bs.length ≤ 1000 ∧ ns.length ≤ 1000) (op a b c n : Int) : Calls Try.prog 22 #[.agg t.cells, .agg #[.int .i64 op, .int .i64 a, .int .i64 b, .int .i64 c, .int .i64 n]] w fun e w' => ∃ As cs Ab cb An cn, e = .returned (.tuple #[.agg ((localT t op a b c n).1.rows (.slice As xs.length cs) (.slice Ab bs.length cb) (.slice An ns.length cn)).cells, .bool (localT t op a b c n).2]) ∧ ((localT t op a b c n).1.rows (.slice As xs.length cs) (.slice Ab bs.length cb) (.slice An ns.length cn)).owns w' w.heap.size xs bs ns ∧ Below w.heap.size w w' := by
  have hq : op = 1 ∨ op = 2 ∨ op = 3 ∨ op = 8 ∨ (op = 9 ∧ getR t.R a 0 = 0) ∨ (op = 9 ∧ getR t.R a 0 ≠ 0) ∨ (op = 10 ∧ (getR t.R a 0 == getR t.R b 0) = true) ∨ (op = 10 ∧ (getR t.R a 0 == getR t.R b 0) = false) ∨ op = 4 ∨ op = 5 ∨ op = 6 ∨ (op = 7 ∧ (arithF 7 (getR t.R b 0) (getR t.R c 0)).2 = true) ∨ (op = 7 ∧ (arithF 7 (getR t.R b 0) (getR t.R c 0)).2 = false) ∨ (op < 1 ∨ 10 < op) := by
    rcases Bool.eq_false_or_eq_true (getR t.R a 0 == getR t.R b 0) with h1 | h1 <;> rcases Bool.eq_false_or_eq_true (arithF 7 (getR t.R b 0) (getR t.R c 0)).2 with h2 | h2 <;> simp only [h1, h2] <;> by_cases h3 : getR t.R a 0 = 0 <;> simp [h3] <;> omega
  refine calls_of_wp Try.func22 rfl ?_
  have hW := Ws.nil w
  refine wp_seq ?_
  refine wp_region_list ?_
  obtain ⟨g1, W2, hr, hW, hbb, hge⟩ := hW.mk1 (P := Try.prog) (s := Instr.box 32 (.agg (trl_c0 t))) (trl_c0 t) 32 (by kernel_rfl)
  refine se (a' := (up (trl_b4 t op a b c n g1) [])) (.pointer (some ⟨g1, 0, none⟩)) (Eq.trans (b := (do pure (Next.value (← Instr.box 32 (.agg (trl_c0 t)))) : Sem Next).run Try.prog w) (by kernel_rfl) (st_val hr)) ?_
  obtain ⟨g3, W4, hr, hW, hbb, hge⟩ := hW.mk1 (P := Try.prog) (s := Instr.box 45 (.agg #[.int .i64 op, .int .i64 a, .int .i64 b, .int .i64 c, .int .i64 n])) #[.int .i64 op, .int .i64 a, .int .i64 b, .int .i64 c, .int .i64 n] 45 (by kernel_rfl)
  refine se (a' := (up (trl_b4 t op a b c n g1) [(3, .pointer (some ⟨g3, 0, none⟩))])) (.pointer (some ⟨g3, 0, none⟩)) (Eq.trans (b := (do pure (Next.value (← Instr.box 45 (.agg #[.int .i64 op, .int .i64 a, .int .i64 b, .int .i64 c, .int .i64 n]))) : Sem Next).run Try.prog W2) (by kernel_rfl) (st_val hr)) ?_
  obtain ⟨g5, W6, hr, hW, hbb, hge⟩ := hW.mk1 (P := Try.prog) (s := Instr.alloc 32 true (.tuple #[])) trl_c1 32 (by kernel_rfl)
  refine se (a' := (up (trl_b4 t op a b c n g1) [(3, .pointer (some ⟨g3, 0, none⟩)), (4, .pointer (some ⟨g5, 0, none⟩))])) (.pointer (some ⟨g5, 0, none⟩)) (Eq.trans (b := (do pure (Next.value (← Instr.alloc 32 true (.tuple #[]))) : Sem Next).run Try.prog W4) (by kernel_rfl) (st_val hr)) ?_
  refine sk (a' := (up (trl_b4 t op a b c n g1) [(3, .pointer (some ⟨g3, 0, none⟩)), (4, .pointer (some ⟨g5, 0, none⟩)), (5, .bool false)])) (.bool false) ?_
  refine wpList_nil ?_
  refine wp_seq ?_
  have hW := hW.drew
  refine wp_mid (M := fun a' W' => ∃ g1q8 : Nat, ∃ g1q9 : Nat, a' = (up (trl_b10 t op a b c n g1 g3 g5 g1q8) [(7, .pointer (some ⟨g1q9, 0, none⟩))]) ∧ Ws w W' [(g1q9, 25, #[.int .i64 (getR t.R b 0), .int .i64 (getR t.R b 1), .int .i64 (getR t.R b 2)]), (g1q8, 25, #[.int .i64 (getR t.R a 0), .int .i64 (getR t.R a 1), .int .i64 (getR t.R a 2)]), (g5, 32, trl_c1), (g3, 45, #[.int .i64 op, .int .i64 a, .int .i64 b, .int .i64 c, .int .i64 n]), (g1, 32, (trl_c0 t))]) ?_ ?_
  · skip
    refine wp_region_held_drew (S := fun W => Ws w W [(g5, 32, trl_c1), (g3, 45, #[.int .i64 op, .int .i64 a, .int .i64 b, .int .i64 c, .int .i64 n]), (g1, 32, (trl_c0 t))]) (by kernel_rfl) hW (fun _ => ?_)
    refine de (a' := (up (trl_b4 t op a b c n g1) [(3, .pointer (some ⟨g3, 0, none⟩)), (4, .pointer (some ⟨g5, 0, none⟩)), (5, .bool false), (10, .agg (trl_c0 t))])) 0 (.agg (trl_c0 t)) rfl (fun W hH => (evA hH 2 0 Try.underlying32)) hW ?_
    refine dk (a' := (up (trl_b4 t op a b c n g1) [(3, .pointer (some ⟨g3, 0, none⟩)), (4, .pointer (some ⟨g5, 0, none⟩)), (5, .bool false), (10, .agg (trl_c0 t)), (11, .pointer (some ⟨g3, 1, none⟩))])) 1 (.pointer (some ⟨g3, 1, none⟩)) hW ?_
    refine de (a' := (up (trl_b7 t op a b c n g1 g3 g5) [])) 2 (.int .i64 a) rfl (fun W hH => (ev1 hH 1 1 Try.underlying3)) hW ?_
    refine de (a' := (up (trl_b7 t op a b c n g1 g3 g5) [(14, .agg (trl_c0 t))])) 4 (.agg (trl_c0 t)) rfl (fun W hH => (evA hH 2 0 Try.underlying32)) hW ?_
    refine dk (a' := (up (trl_b7 t op a b c n g1 g3 g5) [(14, .agg (trl_c0 t)), (15, .pointer (some ⟨g3, 2, none⟩))])) 5 (.pointer (some ⟨g3, 2, none⟩)) hW ?_
    refine de (a' := (up (trl_b7 t op a b c n g1 g3 g5) [(14, .agg (trl_c0 t)), (15, .pointer (some ⟨g3, 2, none⟩)), (16, .int .i64 b)])) 6 (.int .i64 b) rfl (fun W hH => (ev1 hH 1 2 Try.underlying3)) hW ?_
    refine wpAnyH_all (rs := [3, 8, 9]) (by kernel_rfl) (by simp) ?_
    refine all_cons ?_ ?_
    · skip
      refine op_call rfl (th_rGet (⟨t.pc, t.fu, t.st, t.R, t.kd, t.mi, t.mn, t.sv, t.bv, t.nv, t.old⟩ : Th) a W6.drew) (by kernel_rfl) (by kernel_rfl) ?_
      rintro _ W1q3 ⟨rfl, hB⟩
      have hW := hW.step hB
      refine ⟨_, (up (trl_b7 t op a b c n g1 g3 g5) [(13, .agg #[.int .i64 (getR t.R a 0), .int .i64 (getR t.R a 1), .int .i64 (getR t.R a 2)]), (14, .agg (trl_c0 t)), (15, .pointer (some ⟨g3, 2, none⟩)), (16, .int .i64 b)]), rfl, by kernel_rfl, ?_⟩
      refine ⟨hW, ?_⟩
      refine wpAnyH_all (rs := [7, 8, 9]) (by kernel_rfl) (by simp) ?_
      refine all_cons ?_ ?_
      · skip
        refine op_call rfl (th_rGet (⟨t.pc, t.fu, t.st, t.R, t.kd, t.mi, t.mn, t.sv, t.bv, t.nv, t.old⟩ : Th) b W1q3) (by kernel_rfl) (by kernel_rfl) ?_
        rintro _ W1q7 ⟨rfl, hB⟩
        have hW := hW.step hB
        refine ⟨_, (up (trl_b7 t op a b c n g1 g3 g5) [(13, .agg #[.int .i64 (getR t.R a 0), .int .i64 (getR t.R a 1), .int .i64 (getR t.R a 2)]), (14, .agg (trl_c0 t)), (15, .pointer (some ⟨g3, 2, none⟩)), (16, .int .i64 b), (17, .agg #[.int .i64 (getR t.R b 0), .int .i64 (getR t.R b 1), .int .i64 (getR t.R b 2)])]), rfl, by kernel_rfl, ?_⟩
        refine ⟨hW, ?_⟩
        refine wpAnyH_all (rs := [8, 9]) (by kernel_rfl) (by simp) ?_
        refine all_cons ?_ ?_
        · skip
          obtain ⟨g1q8, W1q8, hr, hW, hbb, hge⟩ := hW.mk1 (P := Try.prog) (s := Instr.alloc 25 true (.tuple #[])) #[.int .i64 0, .int .i64 0, .int .i64 0] 25 (by kernel_rfl)
          refine op_val (w' := W1q8) (a' := (up (trl_b10 t op a b c n g1 g3 g5 g1q8) [])) (.pointer (some ⟨g1q8, 0, none⟩)) rfl (by kernel_rfl) (Eq.trans (b := (do pure (Next.value (← Instr.alloc 25 true (.tuple #[]))) : Sem Next).run Try.prog W1q7) (by kernel_rfl) (st_val hr)) (by kernel_rfl) ?_
          refine ⟨hW.tail, ?_⟩
          refine wpAnyH_all (rs := [9]) (by kernel_rfl) (by simp) ?_
          refine all_cons ?_ all_nil
          obtain ⟨g1q9, W1q9, hr, hW, hbb, hge⟩ := hW.mk1 (P := Try.prog) (s := Instr.alloc 25 true (.tuple #[])) #[.int .i64 0, .int .i64 0, .int .i64 0] 25 (by kernel_rfl)
          refine op_val (w' := W1q9) (a' := (up (trl_b10 t op a b c n g1 g3 g5 g1q8) [(7, .pointer (some ⟨g1q9, 0, none⟩))])) (.pointer (some ⟨g1q9, 0, none⟩)) rfl (by kernel_rfl) (Eq.trans (b := (do pure (Next.value (← Instr.alloc 25 true (.tuple #[]))) : Sem Next).run Try.prog W1q8) (by kernel_rfl) (st_val hr)) (by kernel_rfl) ?_
          refine ⟨hW.tail.tail, ?_⟩
          refine wpAnyH_all (rs := [10]) (by kernel_rfl) (by simp) ?_
          refine all_cons ?_ all_nil
          obtain ⟨W1q10, hr, hW, hF⟩ := hW.storeN (P := Try.prog) (o := 0) (cs' := #[.int .i64 (getR t.R a 0), .int .i64 (getR t.R a 1), .int .i64 (getR t.R a 2)]) (L' := [(g1q9, 25, #[.int .i64 0, .int .i64 0, .int .i64 0]), (g1q8, 25, #[.int .i64 (getR t.R a 0), .int .i64 (getR t.R a 1), .int .i64 (getR t.R a 2)]), (g5, 32, trl_c1), (g3, 45, #[.int .i64 op, .int .i64 a, .int .i64 b, .int .i64 c, .int .i64 n]), (g1, 32, (trl_c0 t))]) 1 rfl #[.int .i64 (getR t.R a 0), .int .i64 (getR t.R a 1), .int .i64 (getR t.R a 2)] (by kernel_rfl) (Nat.le_of_ble_eq_true rfl) (by kernel_rfl) rfl 25 (by kernel_rfl)
          refine op_none (w' := W1q10) (a' := (up (trl_b10 t op a b c n g1 g3 g5 g1q8) [(7, .pointer (some ⟨g1q9, 0, none⟩))])) rfl (by kernel_rfl) (Eq.trans (b := (do Instr.storeAt 25 (.pointer (some ⟨g1q8, 0, none⟩)) (.agg #[.int .i64 (getR t.R a 0), .int .i64 (getR t.R a 1), .int .i64 (getR t.R a 2)]); pure Next.skip : Sem Next).run Try.prog W1q9) (by kernel_rfl) (st_unit hr)) (by kernel_rfl) ?_
          refine ⟨hW.tail.tail, ?_⟩
          refine wpAnyH_all (rs := [11]) (by kernel_rfl) (by simp) ?_
          refine all_cons ?_ all_nil
          obtain ⟨W1q11, hr, hW, hF⟩ := hW.storeN (P := Try.prog) (o := 0) (cs' := #[.int .i64 (getR t.R b 0), .int .i64 (getR t.R b 1), .int .i64 (getR t.R b 2)]) (L' := [(g1q9, 25, #[.int .i64 (getR t.R b 0), .int .i64 (getR t.R b 1), .int .i64 (getR t.R b 2)]), (g1q8, 25, #[.int .i64 (getR t.R a 0), .int .i64 (getR t.R a 1), .int .i64 (getR t.R a 2)]), (g5, 32, trl_c1), (g3, 45, #[.int .i64 op, .int .i64 a, .int .i64 b, .int .i64 c, .int .i64 n]), (g1, 32, (trl_c0 t))]) 0 rfl #[.int .i64 (getR t.R b 0), .int .i64 (getR t.R b 1), .int .i64 (getR t.R b 2)] (by kernel_rfl) (Nat.le_of_ble_eq_true rfl) (by kernel_rfl) rfl 25 (by kernel_rfl)
          refine op_none (w' := W1q11) (a' := (up (trl_b10 t op a b c n g1 g3 g5 g1q8) [(7, .pointer (some ⟨g1q9, 0, none⟩))])) rfl (by kernel_rfl) (Eq.trans (b := (do Instr.storeAt 25 (.pointer (some ⟨g1q9, 0, none⟩)) (.agg #[.int .i64 (getR t.R b 0), .int .i64 (getR t.R b 1), .int .i64 (getR t.R b 2)]); pure Next.skip : Sem Next).run Try.prog W1q10) (by kernel_rfl) (st_unit hr)) (by kernel_rfl) ?_
          refine ⟨hW.tail.tail, ?_⟩
          refine wpAnyH_done (by kernel_rfl) ?_ _
          simp only [Exit.then]
          exact ⟨g1q8, g1q9, rfl, hW⟩
        refine all_cons ?_ all_nil
        obtain ⟨g1q9, W1q9, hr, hW, hbb, hge⟩ := hW.mk1 (P := Try.prog) (s := Instr.alloc 25 true (.tuple #[])) #[.int .i64 0, .int .i64 0, .int .i64 0] 25 (by kernel_rfl)
        refine op_val (w' := W1q9) (a' := (up (trl_b12 t op a b c n g1 g3 g5 g1q9) [])) (.pointer (some ⟨g1q9, 0, none⟩)) rfl (by kernel_rfl) (Eq.trans (b := (do pure (Next.value (← Instr.alloc 25 true (.tuple #[]))) : Sem Next).run Try.prog W1q7) (by kernel_rfl) (st_val hr)) (by kernel_rfl) ?_
        refine ⟨hW.tail, ?_⟩
        refine wpAnyH_all (rs := [8]) (by kernel_rfl) (by simp) ?_
        refine all_cons ?_ all_nil
        obtain ⟨g1q8, W1q8, hr, hW, hbb, hge⟩ := hW.mk1 (P := Try.prog) (s := Instr.alloc 25 true (.tuple #[])) #[.int .i64 0, .int .i64 0, .int .i64 0] 25 (by kernel_rfl)
        refine op_val (w' := W1q8) (a' := (up (trl_b12 t op a b c n g1 g3 g5 g1q9) [(6, .pointer (some ⟨g1q8, 0, none⟩))])) (.pointer (some ⟨g1q8, 0, none⟩)) rfl (by kernel_rfl) (Eq.trans (b := (do pure (Next.value (← Instr.alloc 25 true (.tuple #[]))) : Sem Next).run Try.prog W1q9) (by kernel_rfl) (st_val hr)) (by kernel_rfl) ?_
        refine ⟨hW.tail.tail, ?_⟩
        refine wpAnyH_all (rs := [10]) (by kernel_rfl) (by simp) ?_
        refine all_cons ?_ all_nil
        obtain ⟨W1q10, hr, hW, hF⟩ := hW.storeN (P := Try.prog) (o := 0) (cs' := #[.int .i64 (getR t.R a 0), .int .i64 (getR t.R a 1), .int .i64 (getR t.R a 2)]) (L' := [(g1q8, 25, #[.int .i64 (getR t.R a 0), .int .i64 (getR t.R a 1), .int .i64 (getR t.R a 2)]), (g1q9, 25, #[.int .i64 0, .int .i64 0, .int .i64 0]), (g5, 32, trl_c1), (g3, 45, #[.int .i64 op, .int .i64 a, .int .i64 b, .int .i64 c, .int .i64 n]), (g1, 32, (trl_c0 t))]) 0 rfl #[.int .i64 (getR t.R a 0), .int .i64 (getR t.R a 1), .int .i64 (getR t.R a 2)] (by kernel_rfl) (Nat.le_of_ble_eq_true rfl) (by kernel_rfl) rfl 25 (by kernel_rfl)
        refine op_none (w' := W1q10) (a' := (up (trl_b12 t op a b c n g1 g3 g5 g1q9) [(6, .pointer (some ⟨g1q8, 0, none⟩))])) rfl (by kernel_rfl) (Eq.trans (b := (do Instr.storeAt 25 (.pointer (some ⟨g1q8, 0, none⟩)) (.agg #[.int .i64 (getR t.R a 0), .int .i64 (getR t.R a 1), .int .i64 (getR t.R a 2)]); pure Next.skip : Sem Next).run Try.prog W1q8) (by kernel_rfl) (st_unit hr)) (by kernel_rfl) ?_
        refine ⟨hW.tail.tail, ?_⟩
        refine wpAnyH_all (rs := [11]) (by kernel_rfl) (by simp) ?_
        refine all_cons ?_ all_nil
        obtain ⟨W1q11, hr, hW, hF⟩ := hW.storeN (P := Try.prog) (o := 0) (cs' := #[.int .i64 (getR t.R b 0), .int .i64 (getR t.R b 1), .int .i64 (getR t.R b 2)]) (L' := [(g1q8, 25, #[.int .i64 (getR t.R a 0), .int .i64 (getR t.R a 1), .int .i64 (getR t.R a 2)]), (g1q9, 25, #[.int .i64 (getR t.R b 0), .int .i64 (getR t.R b 1), .int .i64 (getR t.R b 2)]), (g5, 32, trl_c1), (g3, 45, #[.int .i64 op, .int .i64 a, .int .i64 b, .int .i64 c, .int .i64 n]), (g1, 32, (trl_c0 t))]) 1 rfl #[.int .i64 (getR t.R b 0), .int .i64 (getR t.R b 1), .int .i64 (getR t.R b 2)] (by kernel_rfl) (Nat.le_of_ble_eq_true rfl) (by kernel_rfl) rfl 25 (by kernel_rfl)
        refine op_none (w' := W1q11) (a' := (up (trl_b12 t op a b c n g1 g3 g5 g1q9) [(6, .pointer (some ⟨g1q8, 0, none⟩))])) rfl (by kernel_rfl) (Eq.trans (b := (do Instr.storeAt 25 (.pointer (some ⟨g1q9, 0, none⟩)) (.agg #[.int .i64 (getR t.R b 0), .int .i64 (getR t.R b 1), .int .i64 (getR t.R b 2)]); pure Next.skip : Sem Next).run Try.prog W1q10) (by kernel_rfl) (st_unit hr)) (by kernel_rfl) ?_
        refine ⟨hW.tail.tail, ?_⟩
        refine wpAnyH_done (by kernel_rfl) ?_ _
        have hW := hW.swap
        simp only [Exit.then]
        exact ⟨g1q8, g1q9, rfl, hW⟩
      refine all_cons ?_ ?_
      · skip
        obtain ⟨g1q8, W1q8, hr, hW, hbb, hge⟩ := hW.mk1 (P := Try.prog) (s := Instr.alloc 25 true (.tuple #[])) #[.int .i64 0, .int .i64 0, .int .i64 0] 25 (by kernel_rfl)
        refine op_val (w' := W1q8) (a' := (up (trl_b7 t op a b c n g1 g3 g5) [(6, .pointer (some ⟨g1q8, 0, none⟩)), (13, .agg #[.int .i64 (getR t.R a 0), .int .i64 (getR t.R a 1), .int .i64 (getR t.R a 2)]), (14, .agg (trl_c0 t)), (15, .pointer (some ⟨g3, 2, none⟩)), (16, .int .i64 b)])) (.pointer (some ⟨g1q8, 0, none⟩)) rfl (by kernel_rfl) (Eq.trans (b := (do pure (Next.value (← Instr.alloc 25 true (.tuple #[]))) : Sem Next).run Try.prog W1q3) (by kernel_rfl) (st_val hr)) (by kernel_rfl) ?_
        refine ⟨hW.tail, ?_⟩
        refine wpAnyH_all (rs := [7, 9]) (by kernel_rfl) (by simp) ?_
        refine all_cons ?_ ?_
        · skip
          refine op_call rfl (th_rGet (⟨t.pc, t.fu, t.st, t.R, t.kd, t.mi, t.mn, t.sv, t.bv, t.nv, t.old⟩ : Th) b W1q8) (by kernel_rfl) (by kernel_rfl) ?_
          rintro _ W1q7 ⟨rfl, hB⟩
          have hW := hW.step hB
          refine ⟨_, (up (trl_b10 t op a b c n g1 g3 g5 g1q8) []), rfl, by kernel_rfl, ?_⟩
          refine ⟨hW.tail, ?_⟩
          refine wpAnyH_all (rs := [9]) (by kernel_rfl) (by simp) ?_
          refine all_cons ?_ all_nil
          obtain ⟨g1q9, W1q9, hr, hW, hbb, hge⟩ := hW.mk1 (P := Try.prog) (s := Instr.alloc 25 true (.tuple #[])) #[.int .i64 0, .int .i64 0, .int .i64 0] 25 (by kernel_rfl)
          refine op_val (w' := W1q9) (a' := (up (trl_b10 t op a b c n g1 g3 g5 g1q8) [(7, .pointer (some ⟨g1q9, 0, none⟩))])) (.pointer (some ⟨g1q9, 0, none⟩)) rfl (by kernel_rfl) (Eq.trans (b := (do pure (Next.value (← Instr.alloc 25 true (.tuple #[]))) : Sem Next).run Try.prog W1q7) (by kernel_rfl) (st_val hr)) (by kernel_rfl) ?_
          refine ⟨hW.tail.tail, ?_⟩
          refine wpAnyH_all (rs := [10]) (by kernel_rfl) (by simp) ?_
          refine all_cons ?_ all_nil
          obtain ⟨W1q10, hr, hW, hF⟩ := hW.storeN (P := Try.prog) (o := 0) (cs' := #[.int .i64 (getR t.R a 0), .int .i64 (getR t.R a 1), .int .i64 (getR t.R a 2)]) (L' := [(g1q9, 25, #[.int .i64 0, .int .i64 0, .int .i64 0]), (g1q8, 25, #[.int .i64 (getR t.R a 0), .int .i64 (getR t.R a 1), .int .i64 (getR t.R a 2)]), (g5, 32, trl_c1), (g3, 45, #[.int .i64 op, .int .i64 a, .int .i64 b, .int .i64 c, .int .i64 n]), (g1, 32, (trl_c0 t))]) 1 rfl #[.int .i64 (getR t.R a 0), .int .i64 (getR t.R a 1), .int .i64 (getR t.R a 2)] (by kernel_rfl) (Nat.le_of_ble_eq_true rfl) (by kernel_rfl) rfl 25 (by kernel_rfl)
          refine op_none (w' := W1q10) (a' := (up (trl_b10 t op a b c n g1 g3 g5 g1q8) [(7, .pointer (some ⟨g1q9, 0, none⟩))])) rfl (by kernel_rfl) (Eq.trans (b := (do Instr.storeAt 25 (.pointer (some ⟨g1q8, 0, none⟩)) (.agg #[.int .i64 (getR t.R a 0), .int .i64 (getR t.R a 1), .int .i64 (getR t.R a 2)]); pure Next.skip : Sem Next).run Try.prog W1q9) (by kernel_rfl) (st_unit hr)) (by kernel_rfl) ?_
          refine ⟨hW.tail.tail, ?_⟩
          refine wpAnyH_all (rs := [11]) (by kernel_rfl) (by simp) ?_
          refine all_cons ?_ all_nil
          obtain ⟨W1q11, hr, hW, hF⟩ := hW.storeN (P := Try.prog) (o := 0) (cs' := #[.int .i64 (getR t.R b 0), .int .i64 (getR t.R b 1), .int .i64 (getR t.R b 2)]) (L' := [(g1q9, 25, #[.int .i64 (getR t.R b 0), .int .i64 (getR t.R b 1), .int .i64 (getR t.R b 2)]), (g1q8, 25, #[.int .i64 (getR t.R a 0), .int .i64 (getR t.R a 1), .int .i64 (getR t.R a 2)]), (g5, 32, trl_c1), (g3, 45, #[.int .i64 op, .int .i64 a, .int .i64 b, .int .i64 c, .int .i64 n]), (g1, 32, (trl_c0 t))]) 0 rfl #[.int .i64 (getR t.R b 0), .int .i64 (getR t.R b 1), .int .i64 (getR t.R b 2)] (by kernel_rfl) (Nat.le_of_ble_eq_true rfl) (by kernel_rfl) rfl 25 (by kernel_rfl)
          refine op_none (w' := W1q11) (a' := (up (trl_b10 t op a b c n g1 g3 g5 g1q8) [(7, .pointer (some ⟨g1q9, 0, none⟩))])) rfl (by kernel_rfl) (Eq.trans (b := (do Instr.storeAt 25 (.pointer (some ⟨g1q9, 0, none⟩)) (.agg #[.int .i64 (getR t.R b 0), .int .i64 (getR t.R b 1), .int .i64 (getR t.R b 2)]); pure Next.skip : Sem Next).run Try.prog W1q10) (by kernel_rfl) (st_unit hr)) (by kernel_rfl) ?_
          refine ⟨hW.tail.tail, ?_⟩
          refine wpAnyH_done (by kernel_rfl) ?_ _
          simp only [Exit.then]
          exact ⟨g1q8, g1q9, rfl, hW⟩
        refine all_cons ?_ all_nil
        obtain ⟨g1q9, W1q9, hr, hW, hbb, hge⟩ := hW.mk1 (P := Try.prog) (s := Instr.alloc 25 true (.tuple #[])) #[.int .i64 0, .int .i64 0, .int .i64 0] 25 (by kernel_rfl)
        refine op_val (w' := W1q9) (a' := (up (trl_b15 t op a b c n g1 g3 g5 g1q8 g1q9) [])) (.pointer (some ⟨g1q9, 0, none⟩)) rfl (by kernel_rfl) (Eq.trans (b := (do pure (Next.value (← Instr.alloc 25 true (.tuple #[]))) : Sem Next).run Try.prog W1q8) (by kernel_rfl) (st_val hr)) (by kernel_rfl) ?_
        refine ⟨hW.tail.tail, ?_⟩
        refine wpAnyH_all (rs := [7]) (by kernel_rfl) (by simp) ?_
        refine all_cons ?_ all_nil
        refine op_call rfl (th_rGet (⟨t.pc, t.fu, t.st, t.R, t.kd, t.mi, t.mn, t.sv, t.bv, t.nv, t.old⟩ : Th) b W1q9) (by kernel_rfl) (by kernel_rfl) ?_
        rintro _ W1q7 ⟨rfl, hB⟩
        have hW := hW.step hB
        refine ⟨_, (up (trl_b15 t op a b c n g1 g3 g5 g1q8 g1q9) [(17, .agg #[.int .i64 (getR t.R b 0), .int .i64 (getR t.R b 1), .int .i64 (getR t.R b 2)])]), rfl, by kernel_rfl, ?_⟩
        refine ⟨hW.tail.tail, ?_⟩
        refine wpAnyH_all (rs := [10]) (by kernel_rfl) (by simp) ?_
        refine all_cons ?_ all_nil
        obtain ⟨W1q10, hr, hW, hF⟩ := hW.storeN (P := Try.prog) (o := 0) (cs' := #[.int .i64 (getR t.R a 0), .int .i64 (getR t.R a 1), .int .i64 (getR t.R a 2)]) (L' := [(g1q9, 25, #[.int .i64 0, .int .i64 0, .int .i64 0]), (g1q8, 25, #[.int .i64 (getR t.R a 0), .int .i64 (getR t.R a 1), .int .i64 (getR t.R a 2)]), (g5, 32, trl_c1), (g3, 45, #[.int .i64 op, .int .i64 a, .int .i64 b, .int .i64 c, .int .i64 n]), (g1, 32, (trl_c0 t))]) 1 rfl #[.int .i64 (getR t.R a 0), .int .i64 (getR t.R a 1), .int .i64 (getR t.R a 2)] (by kernel_rfl) (Nat.le_of_ble_eq_true rfl) (by kernel_rfl) rfl 25 (by kernel_rfl)
        refine op_none (w' := W1q10) (a' := (up (trl_b15 t op a b c n g1 g3 g5 g1q8 g1q9) [(17, .agg #[.int .i64 (getR t.R b 0), .int .i64 (getR t.R b 1), .int .i64 (getR t.R b 2)])])) rfl (by kernel_rfl) (Eq.trans (b := (do Instr.storeAt 25 (.pointer (some ⟨g1q8, 0, none⟩)) (.agg #[.int .i64 (getR t.R a 0), .int .i64 (getR t.R a 1), .int .i64 (getR t.R a 2)]); pure Next.skip : Sem Next).run Try.prog W1q7) (by kernel_rfl) (st_unit hr)) (by kernel_rfl) ?_
        refine ⟨hW.tail.tail, ?_⟩
        refine wpAnyH_all (rs := [11]) (by kernel_rfl) (by simp) ?_
        refine all_cons ?_ all_nil
        obtain ⟨W1q11, hr, hW, hF⟩ := hW.storeN (P := Try.prog) (o := 0) (cs' := #[.int .i64 (getR t.R b 0), .int .i64 (getR t.R b 1), .int .i64 (getR t.R b 2)]) (L' := [(g1q9, 25, #[.int .i64 (getR t.R b 0), .int .i64 (getR t.R b 1), .int .i64 (getR t.R b 2)]), (g1q8, 25, #[.int .i64 (getR t.R a 0), .int .i64 (getR t.R a 1), .int .i64 (getR t.R a 2)]), (g5, 32, trl_c1), (g3, 45, #[.int .i64 op, .int .i64 a, .int .i64 b, .int .i64 c, .int .i64 n]), (g1, 32, (trl_c0 t))]) 0 rfl #[.int .i64 (getR t.R b 0), .int .i64 (getR t.R b 1), .int .i64 (getR t.R b 2)] (by kernel_rfl) (Nat.le_of_ble_eq_true rfl) (by kernel_rfl) rfl 25 (by kernel_rfl)
        refine op_none (w' := W1q11) (a' := (up (trl_b15 t op a b c n g1 g3 g5 g1q8 g1q9) [(17, .agg #[.int .i64 (getR t.R b 0), .int .i64 (getR t.R b 1), .int .i64 (getR t.R b 2)])])) rfl (by kernel_rfl) (Eq.trans (b := (do Instr.storeAt 25 (.pointer (some ⟨g1q9, 0, none⟩)) (.agg #[.int .i64 (getR t.R b 0), .int .i64 (getR t.R b 1), .int .i64 (getR t.R b 2)]); pure Next.skip : Sem Next).run Try.prog W1q10) (by kernel_rfl) (st_unit hr)) (by kernel_rfl) ?_
        refine ⟨hW.tail.tail, ?_⟩
        refine wpAnyH_done (by kernel_rfl) ?_ _
        simp only [Exit.then]
        exact ⟨g1q8, g1q9, rfl, hW⟩
      refine all_cons ?_ all_nil
      obtain ⟨g1q9, W1q9, hr, hW, hbb, hge⟩ := hW.mk1 (P := Try.prog) (s := Instr.alloc 25 true (.tuple #[])) #[.int .i64 0, .int .i64 0, .int .i64 0] 25 (by kernel_rfl)
      refine op_val (w' := W1q9) (a' := (up (trl_b7 t op a b c n g1 g3 g5) [(7, .pointer (some ⟨g1q9, 0, none⟩)), (13, .agg #[.int .i64 (getR t.R a 0), .int .i64 (getR t.R a 1), .int .i64 (getR t.R a 2)]), (14, .agg (trl_c0 t)), (15, .pointer (some ⟨g3, 2, none⟩)), (16, .int .i64 b)])) (.pointer (some ⟨g1q9, 0, none⟩)) rfl (by kernel_rfl) (Eq.trans (b := (do pure (Next.value (← Instr.alloc 25 true (.tuple #[]))) : Sem Next).run Try.prog W1q3) (by kernel_rfl) (st_val hr)) (by kernel_rfl) ?_
      refine ⟨hW.tail, ?_⟩
      refine wpAnyH_all (rs := [7, 8]) (by kernel_rfl) (by simp) ?_
      refine all_cons ?_ ?_
      · skip
        refine op_call rfl (th_rGet (⟨t.pc, t.fu, t.st, t.R, t.kd, t.mi, t.mn, t.sv, t.bv, t.nv, t.old⟩ : Th) b W1q9) (by kernel_rfl) (by kernel_rfl) ?_
        rintro _ W1q7 ⟨rfl, hB⟩
        have hW := hW.step hB
        refine ⟨_, (up (trl_b12 t op a b c n g1 g3 g5 g1q9) []), rfl, by kernel_rfl, ?_⟩
        refine ⟨hW.tail, ?_⟩
        refine wpAnyH_all (rs := [8]) (by kernel_rfl) (by simp) ?_
        refine all_cons ?_ all_nil
        obtain ⟨g1q8, W1q8, hr, hW, hbb, hge⟩ := hW.mk1 (P := Try.prog) (s := Instr.alloc 25 true (.tuple #[])) #[.int .i64 0, .int .i64 0, .int .i64 0] 25 (by kernel_rfl)
        refine op_val (w' := W1q8) (a' := (up (trl_b12 t op a b c n g1 g3 g5 g1q9) [(6, .pointer (some ⟨g1q8, 0, none⟩))])) (.pointer (some ⟨g1q8, 0, none⟩)) rfl (by kernel_rfl) (Eq.trans (b := (do pure (Next.value (← Instr.alloc 25 true (.tuple #[]))) : Sem Next).run Try.prog W1q7) (by kernel_rfl) (st_val hr)) (by kernel_rfl) ?_
        refine ⟨hW.tail.tail, ?_⟩
        refine wpAnyH_all (rs := [10]) (by kernel_rfl) (by simp) ?_
        refine all_cons ?_ all_nil
        obtain ⟨W1q10, hr, hW, hF⟩ := hW.storeN (P := Try.prog) (o := 0) (cs' := #[.int .i64 (getR t.R a 0), .int .i64 (getR t.R a 1), .int .i64 (getR t.R a 2)]) (L' := [(g1q8, 25, #[.int .i64 (getR t.R a 0), .int .i64 (getR t.R a 1), .int .i64 (getR t.R a 2)]), (g1q9, 25, #[.int .i64 0, .int .i64 0, .int .i64 0]), (g5, 32, trl_c1), (g3, 45, #[.int .i64 op, .int .i64 a, .int .i64 b, .int .i64 c, .int .i64 n]), (g1, 32, (trl_c0 t))]) 0 rfl #[.int .i64 (getR t.R a 0), .int .i64 (getR t.R a 1), .int .i64 (getR t.R a 2)] (by kernel_rfl) (Nat.le_of_ble_eq_true rfl) (by kernel_rfl) rfl 25 (by kernel_rfl)
        refine op_none (w' := W1q10) (a' := (up (trl_b12 t op a b c n g1 g3 g5 g1q9) [(6, .pointer (some ⟨g1q8, 0, none⟩))])) rfl (by kernel_rfl) (Eq.trans (b := (do Instr.storeAt 25 (.pointer (some ⟨g1q8, 0, none⟩)) (.agg #[.int .i64 (getR t.R a 0), .int .i64 (getR t.R a 1), .int .i64 (getR t.R a 2)]); pure Next.skip : Sem Next).run Try.prog W1q8) (by kernel_rfl) (st_unit hr)) (by kernel_rfl) ?_
        refine ⟨hW.tail.tail, ?_⟩
        refine wpAnyH_all (rs := [11]) (by kernel_rfl) (by simp) ?_
        refine all_cons ?_ all_nil
        obtain ⟨W1q11, hr, hW, hF⟩ := hW.storeN (P := Try.prog) (o := 0) (cs' := #[.int .i64 (getR t.R b 0), .int .i64 (getR t.R b 1), .int .i64 (getR t.R b 2)]) (L' := [(g1q8, 25, #[.int .i64 (getR t.R a 0), .int .i64 (getR t.R a 1), .int .i64 (getR t.R a 2)]), (g1q9, 25, #[.int .i64 (getR t.R b 0), .int .i64 (getR t.R b 1), .int .i64 (getR t.R b 2)]), (g5, 32, trl_c1), (g3, 45, #[.int .i64 op, .int .i64 a, .int .i64 b, .int .i64 c, .int .i64 n]), (g1, 32, (trl_c0 t))]) 1 rfl #[.int .i64 (getR t.R b 0), .int .i64 (getR t.R b 1), .int .i64 (getR t.R b 2)] (by kernel_rfl) (Nat.le_of_ble_eq_true rfl) (by kernel_rfl) rfl 25 (by kernel_rfl)
        refine op_none (w' := W1q11) (a' := (up (trl_b12 t op a b c n g1 g3 g5 g1q9) [(6, .pointer (some ⟨g1q8, 0, none⟩))])) rfl (by kernel_rfl) (Eq.trans (b := (do Instr.storeAt 25 (.pointer (some ⟨g1q9, 0, none⟩)) (.agg #[.int .i64 (getR t.R b 0), .int .i64 (getR t.R b 1), .int .i64 (getR t.R b 2)]); pure Next.skip : Sem Next).run Try.prog W1q10) (by kernel_rfl) (st_unit hr)) (by kernel_rfl) ?_
        refine ⟨hW.tail.tail, ?_⟩
        refine wpAnyH_done (by kernel_rfl) ?_ _
        have hW := hW.swap
        simp only [Exit.then]
        exact ⟨g1q8, g1q9, rfl, hW⟩
      refine all_cons ?_ all_nil
      obtain ⟨g1q8, W1q8, hr, hW, hbb, hge⟩ := hW.mk1 (P := Try.prog) (s := Instr.alloc 25 true (.tuple #[])) #[.int .i64 0, .int .i64 0, .int .i64 0] 25 (by kernel_rfl)
      refine op_val (w' := W1q8) (a' := (up (trl_b17 t op a b c n g1 g3 g5 g1q9 g1q8) [])) (.pointer (some ⟨g1q8, 0, none⟩)) rfl (by kernel_rfl) (Eq.trans (b := (do pure (Next.value (← Instr.alloc 25 true (.tuple #[]))) : Sem Next).run Try.prog W1q9) (by kernel_rfl) (st_val hr)) (by kernel_rfl) ?_
      refine ⟨hW.tail.tail, ?_⟩
      refine wpAnyH_all (rs := [7]) (by kernel_rfl) (by simp) ?_
      refine all_cons ?_ all_nil
      refine op_call rfl (th_rGet (⟨t.pc, t.fu, t.st, t.R, t.kd, t.mi, t.mn, t.sv, t.bv, t.nv, t.old⟩ : Th) b W1q8) (by kernel_rfl) (by kernel_rfl) ?_
      rintro _ W1q7 ⟨rfl, hB⟩
      have hW := hW.step hB
      refine ⟨_, (up (trl_b17 t op a b c n g1 g3 g5 g1q9 g1q8) [(17, .agg #[.int .i64 (getR t.R b 0), .int .i64 (getR t.R b 1), .int .i64 (getR t.R b 2)])]), rfl, by kernel_rfl, ?_⟩
      refine ⟨hW.tail.tail, ?_⟩
      refine wpAnyH_all (rs := [10]) (by kernel_rfl) (by simp) ?_
      refine all_cons ?_ all_nil
      obtain ⟨W1q10, hr, hW, hF⟩ := hW.storeN (P := Try.prog) (o := 0) (cs' := #[.int .i64 (getR t.R a 0), .int .i64 (getR t.R a 1), .int .i64 (getR t.R a 2)]) (L' := [(g1q8, 25, #[.int .i64 (getR t.R a 0), .int .i64 (getR t.R a 1), .int .i64 (getR t.R a 2)]), (g1q9, 25, #[.int .i64 0, .int .i64 0, .int .i64 0]), (g5, 32, trl_c1), (g3, 45, #[.int .i64 op, .int .i64 a, .int .i64 b, .int .i64 c, .int .i64 n]), (g1, 32, (trl_c0 t))]) 0 rfl #[.int .i64 (getR t.R a 0), .int .i64 (getR t.R a 1), .int .i64 (getR t.R a 2)] (by kernel_rfl) (Nat.le_of_ble_eq_true rfl) (by kernel_rfl) rfl 25 (by kernel_rfl)
      refine op_none (w' := W1q10) (a' := (up (trl_b17 t op a b c n g1 g3 g5 g1q9 g1q8) [(17, .agg #[.int .i64 (getR t.R b 0), .int .i64 (getR t.R b 1), .int .i64 (getR t.R b 2)])])) rfl (by kernel_rfl) (Eq.trans (b := (do Instr.storeAt 25 (.pointer (some ⟨g1q8, 0, none⟩)) (.agg #[.int .i64 (getR t.R a 0), .int .i64 (getR t.R a 1), .int .i64 (getR t.R a 2)]); pure Next.skip : Sem Next).run Try.prog W1q7) (by kernel_rfl) (st_unit hr)) (by kernel_rfl) ?_
      refine ⟨hW.tail.tail, ?_⟩
      refine wpAnyH_all (rs := [11]) (by kernel_rfl) (by simp) ?_
      refine all_cons ?_ all_nil
      obtain ⟨W1q11, hr, hW, hF⟩ := hW.storeN (P := Try.prog) (o := 0) (cs' := #[.int .i64 (getR t.R b 0), .int .i64 (getR t.R b 1), .int .i64 (getR t.R b 2)]) (L' := [(g1q8, 25, #[.int .i64 (getR t.R a 0), .int .i64 (getR t.R a 1), .int .i64 (getR t.R a 2)]), (g1q9, 25, #[.int .i64 (getR t.R b 0), .int .i64 (getR t.R b 1), .int .i64 (getR t.R b 2)]), (g5, 32, trl_c1), (g3, 45, #[.int .i64 op, .int .i64 a, .int .i64 b, .int .i64 c, .int .i64 n]), (g1, 32, (trl_c0 t))]) 1 rfl #[.int .i64 (getR t.R b 0), .int .i64 (getR t.R b 1), .int .i64 (getR t.R b 2)] (by kernel_rfl) (Nat.le_of_ble_eq_true rfl) (by kernel_rfl) rfl 25 (by kernel_rfl)
      refine op_none (w' := W1q11) (a' := (up (trl_b17 t op a b c n g1 g3 g5 g1q9 g1q8) [(17, .agg #[.int .i64 (getR t.R b 0), .int .i64 (getR t.R b 1), .int .i64 (getR t.R b 2)])])) rfl (by kernel_rfl) (Eq.trans (b := (do Instr.storeAt 25 (.pointer (some ⟨g1q9, 0, none⟩)) (.agg #[.int .i64 (getR t.R b 0), .int .i64 (getR t.R b 1), .int .i64 (getR t.R b 2)]); pure Next.skip : Sem Next).run Try.prog W1q10) (by kernel_rfl) (st_unit hr)) (by kernel_rfl) ?_
      refine ⟨hW.tail.tail, ?_⟩
      refine wpAnyH_done (by kernel_rfl) ?_ _
      have hW := hW.swap
      simp only [Exit.then]
      exact ⟨g1q8, g1q9, rfl, hW⟩
    refine all_cons ?_ ?_
    · skip
      obtain ⟨g1q8, W1q8, hr, hW, hbb, hge⟩ := hW.mk1 (P := Try.prog) (s := Instr.alloc 25 true (.tuple #[])) #[.int .i64 0, .int .i64 0, .int .i64 0] 25 (by kernel_rfl)
      refine op_val (w' := W1q8) (a' := (up (trl_b7 t op a b c n g1 g3 g5) [(6, .pointer (some ⟨g1q8, 0, none⟩)), (14, .agg (trl_c0 t)), (15, .pointer (some ⟨g3, 2, none⟩)), (16, .int .i64 b)])) (.pointer (some ⟨g1q8, 0, none⟩)) rfl (by kernel_rfl) (Eq.trans (b := (do pure (Next.value (← Instr.alloc 25 true (.tuple #[]))) : Sem Next).run Try.prog W6.drew) (by kernel_rfl) (st_val hr)) (by kernel_rfl) ?_
      refine ⟨hW.tail, ?_⟩
      refine wpAnyH_all (rs := [3, 9]) (by kernel_rfl) (by simp) ?_
      refine all_cons ?_ ?_
      · skip
        refine op_call rfl (th_rGet (⟨t.pc, t.fu, t.st, t.R, t.kd, t.mi, t.mn, t.sv, t.bv, t.nv, t.old⟩ : Th) a W1q8) (by kernel_rfl) (by kernel_rfl) ?_
        rintro _ W1q3 ⟨rfl, hB⟩
        have hW := hW.step hB
        refine ⟨_, (up (trl_b7 t op a b c n g1 g3 g5) [(6, .pointer (some ⟨g1q8, 0, none⟩)), (13, .agg #[.int .i64 (getR t.R a 0), .int .i64 (getR t.R a 1), .int .i64 (getR t.R a 2)]), (14, .agg (trl_c0 t)), (15, .pointer (some ⟨g3, 2, none⟩)), (16, .int .i64 b)]), rfl, by kernel_rfl, ?_⟩
        refine ⟨hW.tail, ?_⟩
        refine wpAnyH_all (rs := [7, 9]) (by kernel_rfl) (by simp) ?_
        refine all_cons ?_ ?_
        · skip
          refine op_call rfl (th_rGet (⟨t.pc, t.fu, t.st, t.R, t.kd, t.mi, t.mn, t.sv, t.bv, t.nv, t.old⟩ : Th) b W1q3) (by kernel_rfl) (by kernel_rfl) ?_
          rintro _ W1q7 ⟨rfl, hB⟩
          have hW := hW.step hB
          refine ⟨_, (up (trl_b10 t op a b c n g1 g3 g5 g1q8) []), rfl, by kernel_rfl, ?_⟩
          refine ⟨hW.tail, ?_⟩
          refine wpAnyH_all (rs := [9]) (by kernel_rfl) (by simp) ?_
          refine all_cons ?_ all_nil
          obtain ⟨g1q9, W1q9, hr, hW, hbb, hge⟩ := hW.mk1 (P := Try.prog) (s := Instr.alloc 25 true (.tuple #[])) #[.int .i64 0, .int .i64 0, .int .i64 0] 25 (by kernel_rfl)
          refine op_val (w' := W1q9) (a' := (up (trl_b10 t op a b c n g1 g3 g5 g1q8) [(7, .pointer (some ⟨g1q9, 0, none⟩))])) (.pointer (some ⟨g1q9, 0, none⟩)) rfl (by kernel_rfl) (Eq.trans (b := (do pure (Next.value (← Instr.alloc 25 true (.tuple #[]))) : Sem Next).run Try.prog W1q7) (by kernel_rfl) (st_val hr)) (by kernel_rfl) ?_
          refine ⟨hW.tail.tail, ?_⟩
          refine wpAnyH_all (rs := [10]) (by kernel_rfl) (by simp) ?_
          refine all_cons ?_ all_nil
          obtain ⟨W1q10, hr, hW, hF⟩ := hW.storeN (P := Try.prog) (o := 0) (cs' := #[.int .i64 (getR t.R a 0), .int .i64 (getR t.R a 1), .int .i64 (getR t.R a 2)]) (L' := [(g1q9, 25, #[.int .i64 0, .int .i64 0, .int .i64 0]), (g1q8, 25, #[.int .i64 (getR t.R a 0), .int .i64 (getR t.R a 1), .int .i64 (getR t.R a 2)]), (g5, 32, trl_c1), (g3, 45, #[.int .i64 op, .int .i64 a, .int .i64 b, .int .i64 c, .int .i64 n]), (g1, 32, (trl_c0 t))]) 1 rfl #[.int .i64 (getR t.R a 0), .int .i64 (getR t.R a 1), .int .i64 (getR t.R a 2)] (by kernel_rfl) (Nat.le_of_ble_eq_true rfl) (by kernel_rfl) rfl 25 (by kernel_rfl)
          refine op_none (w' := W1q10) (a' := (up (trl_b10 t op a b c n g1 g3 g5 g1q8) [(7, .pointer (some ⟨g1q9, 0, none⟩))])) rfl (by kernel_rfl) (Eq.trans (b := (do Instr.storeAt 25 (.pointer (some ⟨g1q8, 0, none⟩)) (.agg #[.int .i64 (getR t.R a 0), .int .i64 (getR t.R a 1), .int .i64 (getR t.R a 2)]); pure Next.skip : Sem Next).run Try.prog W1q9) (by kernel_rfl) (st_unit hr)) (by kernel_rfl) ?_
          refine ⟨hW.tail.tail, ?_⟩
          refine wpAnyH_all (rs := [11]) (by kernel_rfl) (by simp) ?_
          refine all_cons ?_ all_nil
          obtain ⟨W1q11, hr, hW, hF⟩ := hW.storeN (P := Try.prog) (o := 0) (cs' := #[.int .i64 (getR t.R b 0), .int .i64 (getR t.R b 1), .int .i64 (getR t.R b 2)]) (L' := [(g1q9, 25, #[.int .i64 (getR t.R b 0), .int .i64 (getR t.R b 1), .int .i64 (getR t.R b 2)]), (g1q8, 25, #[.int .i64 (getR t.R a 0), .int .i64 (getR t.R a 1), .int .i64 (getR t.R a 2)]), (g5, 32, trl_c1), (g3, 45, #[.int .i64 op, .int .i64 a, .int .i64 b, .int .i64 c, .int .i64 n]), (g1, 32, (trl_c0 t))]) 0 rfl #[.int .i64 (getR t.R b 0), .int .i64 (getR t.R b 1), .int .i64 (getR t.R b 2)] (by kernel_rfl) (Nat.le_of_ble_eq_true rfl) (by kernel_rfl) rfl 25 (by kernel_rfl)
          refine op_none (w' := W1q11) (a' := (up (trl_b10 t op a b c n g1 g3 g5 g1q8) [(7, .pointer (some ⟨g1q9, 0, none⟩))])) rfl (by kernel_rfl) (Eq.trans (b := (do Instr.storeAt 25 (.pointer (some ⟨g1q9, 0, none⟩)) (.agg #[.int .i64 (getR t.R b 0), .int .i64 (getR t.R b 1), .int .i64 (getR t.R b 2)]); pure Next.skip : Sem Next).run Try.prog W1q10) (by kernel_rfl) (st_unit hr)) (by kernel_rfl) ?_
          refine ⟨hW.tail.tail, ?_⟩
          refine wpAnyH_done (by kernel_rfl) ?_ _
          simp only [Exit.then]
          exact ⟨g1q8, g1q9, rfl, hW⟩
        refine all_cons ?_ all_nil
        obtain ⟨g1q9, W1q9, hr, hW, hbb, hge⟩ := hW.mk1 (P := Try.prog) (s := Instr.alloc 25 true (.tuple #[])) #[.int .i64 0, .int .i64 0, .int .i64 0] 25 (by kernel_rfl)
        refine op_val (w' := W1q9) (a' := (up (trl_b15 t op a b c n g1 g3 g5 g1q8 g1q9) [])) (.pointer (some ⟨g1q9, 0, none⟩)) rfl (by kernel_rfl) (Eq.trans (b := (do pure (Next.value (← Instr.alloc 25 true (.tuple #[]))) : Sem Next).run Try.prog W1q3) (by kernel_rfl) (st_val hr)) (by kernel_rfl) ?_
        refine ⟨hW.tail.tail, ?_⟩
        refine wpAnyH_all (rs := [7]) (by kernel_rfl) (by simp) ?_
        refine all_cons ?_ all_nil
        refine op_call rfl (th_rGet (⟨t.pc, t.fu, t.st, t.R, t.kd, t.mi, t.mn, t.sv, t.bv, t.nv, t.old⟩ : Th) b W1q9) (by kernel_rfl) (by kernel_rfl) ?_
        rintro _ W1q7 ⟨rfl, hB⟩
        have hW := hW.step hB
        refine ⟨_, (up (trl_b15 t op a b c n g1 g3 g5 g1q8 g1q9) [(17, .agg #[.int .i64 (getR t.R b 0), .int .i64 (getR t.R b 1), .int .i64 (getR t.R b 2)])]), rfl, by kernel_rfl, ?_⟩
        refine ⟨hW.tail.tail, ?_⟩
        refine wpAnyH_all (rs := [10]) (by kernel_rfl) (by simp) ?_
        refine all_cons ?_ all_nil
        obtain ⟨W1q10, hr, hW, hF⟩ := hW.storeN (P := Try.prog) (o := 0) (cs' := #[.int .i64 (getR t.R a 0), .int .i64 (getR t.R a 1), .int .i64 (getR t.R a 2)]) (L' := [(g1q9, 25, #[.int .i64 0, .int .i64 0, .int .i64 0]), (g1q8, 25, #[.int .i64 (getR t.R a 0), .int .i64 (getR t.R a 1), .int .i64 (getR t.R a 2)]), (g5, 32, trl_c1), (g3, 45, #[.int .i64 op, .int .i64 a, .int .i64 b, .int .i64 c, .int .i64 n]), (g1, 32, (trl_c0 t))]) 1 rfl #[.int .i64 (getR t.R a 0), .int .i64 (getR t.R a 1), .int .i64 (getR t.R a 2)] (by kernel_rfl) (Nat.le_of_ble_eq_true rfl) (by kernel_rfl) rfl 25 (by kernel_rfl)
        refine op_none (w' := W1q10) (a' := (up (trl_b15 t op a b c n g1 g3 g5 g1q8 g1q9) [(17, .agg #[.int .i64 (getR t.R b 0), .int .i64 (getR t.R b 1), .int .i64 (getR t.R b 2)])])) rfl (by kernel_rfl) (Eq.trans (b := (do Instr.storeAt 25 (.pointer (some ⟨g1q8, 0, none⟩)) (.agg #[.int .i64 (getR t.R a 0), .int .i64 (getR t.R a 1), .int .i64 (getR t.R a 2)]); pure Next.skip : Sem Next).run Try.prog W1q7) (by kernel_rfl) (st_unit hr)) (by kernel_rfl) ?_
        refine ⟨hW.tail.tail, ?_⟩
        refine wpAnyH_all (rs := [11]) (by kernel_rfl) (by simp) ?_
        refine all_cons ?_ all_nil
        obtain ⟨W1q11, hr, hW, hF⟩ := hW.storeN (P := Try.prog) (o := 0) (cs' := #[.int .i64 (getR t.R b 0), .int .i64 (getR t.R b 1), .int .i64 (getR t.R b 2)]) (L' := [(g1q9, 25, #[.int .i64 (getR t.R b 0), .int .i64 (getR t.R b 1), .int .i64 (getR t.R b 2)]), (g1q8, 25, #[.int .i64 (getR t.R a 0), .int .i64 (getR t.R a 1), .int .i64 (getR t.R a 2)]), (g5, 32, trl_c1), (g3, 45, #[.int .i64 op, .int .i64 a, .int .i64 b, .int .i64 c, .int .i64 n]), (g1, 32, (trl_c0 t))]) 0 rfl #[.int .i64 (getR t.R b 0), .int .i64 (getR t.R b 1), .int .i64 (getR t.R b 2)] (by kernel_rfl) (Nat.le_of_ble_eq_true rfl) (by kernel_rfl) rfl 25 (by kernel_rfl)
        refine op_none (w' := W1q11) (a' := (up (trl_b15 t op a b c n g1 g3 g5 g1q8 g1q9) [(17, .agg #[.int .i64 (getR t.R b 0), .int .i64 (getR t.R b 1), .int .i64 (getR t.R b 2)])])) rfl (by kernel_rfl) (Eq.trans (b := (do Instr.storeAt 25 (.pointer (some ⟨g1q9, 0, none⟩)) (.agg #[.int .i64 (getR t.R b 0), .int .i64 (getR t.R b 1), .int .i64 (getR t.R b 2)]); pure Next.skip : Sem Next).run Try.prog W1q10) (by kernel_rfl) (st_unit hr)) (by kernel_rfl) ?_
        refine ⟨hW.tail.tail, ?_⟩
        refine wpAnyH_done (by kernel_rfl) ?_ _
        simp only [Exit.then]
        exact ⟨g1q8, g1q9, rfl, hW⟩
      refine all_cons ?_ all_nil
      obtain ⟨g1q9, W1q9, hr, hW, hbb, hge⟩ := hW.mk1 (P := Try.prog) (s := Instr.alloc 25 true (.tuple #[])) #[.int .i64 0, .int .i64 0, .int .i64 0] 25 (by kernel_rfl)
      refine op_val (w' := W1q9) (a' := (up (trl_b7 t op a b c n g1 g3 g5) [(6, .pointer (some ⟨g1q8, 0, none⟩)), (7, .pointer (some ⟨g1q9, 0, none⟩)), (14, .agg (trl_c0 t)), (15, .pointer (some ⟨g3, 2, none⟩)), (16, .int .i64 b)])) (.pointer (some ⟨g1q9, 0, none⟩)) rfl (by kernel_rfl) (Eq.trans (b := (do pure (Next.value (← Instr.alloc 25 true (.tuple #[]))) : Sem Next).run Try.prog W1q8) (by kernel_rfl) (st_val hr)) (by kernel_rfl) ?_
      refine ⟨hW.tail.tail, ?_⟩
      refine wpAnyH_all (rs := [3]) (by kernel_rfl) (by simp) ?_
      refine all_cons ?_ all_nil
      refine op_call rfl (th_rGet (⟨t.pc, t.fu, t.st, t.R, t.kd, t.mi, t.mn, t.sv, t.bv, t.nv, t.old⟩ : Th) a W1q9) (by kernel_rfl) (by kernel_rfl) ?_
      rintro _ W1q3 ⟨rfl, hB⟩
      have hW := hW.step hB
      refine ⟨_, (up (trl_b15 t op a b c n g1 g3 g5 g1q8 g1q9) []), rfl, by kernel_rfl, ?_⟩
      refine ⟨hW.tail.tail, ?_⟩
      refine wpAnyH_all (rs := [7]) (by kernel_rfl) (by simp) ?_
      refine all_cons ?_ all_nil
      refine op_call rfl (th_rGet (⟨t.pc, t.fu, t.st, t.R, t.kd, t.mi, t.mn, t.sv, t.bv, t.nv, t.old⟩ : Th) b W1q3) (by kernel_rfl) (by kernel_rfl) ?_
      rintro _ W1q7 ⟨rfl, hB⟩
      have hW := hW.step hB
      refine ⟨_, (up (trl_b15 t op a b c n g1 g3 g5 g1q8 g1q9) [(17, .agg #[.int .i64 (getR t.R b 0), .int .i64 (getR t.R b 1), .int .i64 (getR t.R b 2)])]), rfl, by kernel_rfl, ?_⟩
      refine ⟨hW.tail.tail, ?_⟩
      refine wpAnyH_all (rs := [10]) (by kernel_rfl) (by simp) ?_
      refine all_cons ?_ all_nil
      obtain ⟨W1q10, hr, hW, hF⟩ := hW.storeN (P := Try.prog) (o := 0) (cs' := #[.int .i64 (getR t.R a 0), .int .i64 (getR t.R a 1), .int .i64 (getR t.R a 2)]) (L' := [(g1q9, 25, #[.int .i64 0, .int .i64 0, .int .i64 0]), (g1q8, 25, #[.int .i64 (getR t.R a 0), .int .i64 (getR t.R a 1), .int .i64 (getR t.R a 2)]), (g5, 32, trl_c1), (g3, 45, #[.int .i64 op, .int .i64 a, .int .i64 b, .int .i64 c, .int .i64 n]), (g1, 32, (trl_c0 t))]) 1 rfl #[.int .i64 (getR t.R a 0), .int .i64 (getR t.R a 1), .int .i64 (getR t.R a 2)] (by kernel_rfl) (Nat.le_of_ble_eq_true rfl) (by kernel_rfl) rfl 25 (by kernel_rfl)
      refine op_none (w' := W1q10) (a' := (up (trl_b15 t op a b c n g1 g3 g5 g1q8 g1q9) [(17, .agg #[.int .i64 (getR t.R b 0), .int .i64 (getR t.R b 1), .int .i64 (getR t.R b 2)])])) rfl (by kernel_rfl) (Eq.trans (b := (do Instr.storeAt 25 (.pointer (some ⟨g1q8, 0, none⟩)) (.agg #[.int .i64 (getR t.R a 0), .int .i64 (getR t.R a 1), .int .i64 (getR t.R a 2)]); pure Next.skip : Sem Next).run Try.prog W1q7) (by kernel_rfl) (st_unit hr)) (by kernel_rfl) ?_
      refine ⟨hW.tail.tail, ?_⟩
      refine wpAnyH_all (rs := [11]) (by kernel_rfl) (by simp) ?_
      refine all_cons ?_ all_nil
      obtain ⟨W1q11, hr, hW, hF⟩ := hW.storeN (P := Try.prog) (o := 0) (cs' := #[.int .i64 (getR t.R b 0), .int .i64 (getR t.R b 1), .int .i64 (getR t.R b 2)]) (L' := [(g1q9, 25, #[.int .i64 (getR t.R b 0), .int .i64 (getR t.R b 1), .int .i64 (getR t.R b 2)]), (g1q8, 25, #[.int .i64 (getR t.R a 0), .int .i64 (getR t.R a 1), .int .i64 (getR t.R a 2)]), (g5, 32, trl_c1), (g3, 45, #[.int .i64 op, .int .i64 a, .int .i64 b, .int .i64 c, .int .i64 n]), (g1, 32, (trl_c0 t))]) 0 rfl #[.int .i64 (getR t.R b 0), .int .i64 (getR t.R b 1), .int .i64 (getR t.R b 2)] (by kernel_rfl) (Nat.le_of_ble_eq_true rfl) (by kernel_rfl) rfl 25 (by kernel_rfl)
      refine op_none (w' := W1q11) (a' := (up (trl_b15 t op a b c n g1 g3 g5 g1q8 g1q9) [(17, .agg #[.int .i64 (getR t.R b 0), .int .i64 (getR t.R b 1), .int .i64 (getR t.R b 2)])])) rfl (by kernel_rfl) (Eq.trans (b := (do Instr.storeAt 25 (.pointer (some ⟨g1q9, 0, none⟩)) (.agg #[.int .i64 (getR t.R b 0), .int .i64 (getR t.R b 1), .int .i64 (getR t.R b 2)]); pure Next.skip : Sem Next).run Try.prog W1q10) (by kernel_rfl) (st_unit hr)) (by kernel_rfl) ?_
      refine ⟨hW.tail.tail, ?_⟩
      refine wpAnyH_done (by kernel_rfl) ?_ _
      simp only [Exit.then]
      exact ⟨g1q8, g1q9, rfl, hW⟩
    refine all_cons ?_ all_nil
    obtain ⟨g1q9, W1q9, hr, hW, hbb, hge⟩ := hW.mk1 (P := Try.prog) (s := Instr.alloc 25 true (.tuple #[])) #[.int .i64 0, .int .i64 0, .int .i64 0] 25 (by kernel_rfl)
    refine op_val (w' := W1q9) (a' := (up (trl_b7 t op a b c n g1 g3 g5) [(7, .pointer (some ⟨g1q9, 0, none⟩)), (14, .agg (trl_c0 t)), (15, .pointer (some ⟨g3, 2, none⟩)), (16, .int .i64 b)])) (.pointer (some ⟨g1q9, 0, none⟩)) rfl (by kernel_rfl) (Eq.trans (b := (do pure (Next.value (← Instr.alloc 25 true (.tuple #[]))) : Sem Next).run Try.prog W6.drew) (by kernel_rfl) (st_val hr)) (by kernel_rfl) ?_
    refine ⟨hW.tail, ?_⟩
    refine wpAnyH_all (rs := [3, 8]) (by kernel_rfl) (by simp) ?_
    refine all_cons ?_ ?_
    · skip
      refine op_call rfl (th_rGet (⟨t.pc, t.fu, t.st, t.R, t.kd, t.mi, t.mn, t.sv, t.bv, t.nv, t.old⟩ : Th) a W1q9) (by kernel_rfl) (by kernel_rfl) ?_
      rintro _ W1q3 ⟨rfl, hB⟩
      have hW := hW.step hB
      refine ⟨_, (up (trl_b7 t op a b c n g1 g3 g5) [(7, .pointer (some ⟨g1q9, 0, none⟩)), (13, .agg #[.int .i64 (getR t.R a 0), .int .i64 (getR t.R a 1), .int .i64 (getR t.R a 2)]), (14, .agg (trl_c0 t)), (15, .pointer (some ⟨g3, 2, none⟩)), (16, .int .i64 b)]), rfl, by kernel_rfl, ?_⟩
      refine ⟨hW.tail, ?_⟩
      refine wpAnyH_all (rs := [7, 8]) (by kernel_rfl) (by simp) ?_
      refine all_cons ?_ ?_
      · skip
        refine op_call rfl (th_rGet (⟨t.pc, t.fu, t.st, t.R, t.kd, t.mi, t.mn, t.sv, t.bv, t.nv, t.old⟩ : Th) b W1q3) (by kernel_rfl) (by kernel_rfl) ?_
        rintro _ W1q7 ⟨rfl, hB⟩
        have hW := hW.step hB
        refine ⟨_, (up (trl_b12 t op a b c n g1 g3 g5 g1q9) []), rfl, by kernel_rfl, ?_⟩
        refine ⟨hW.tail, ?_⟩
        refine wpAnyH_all (rs := [8]) (by kernel_rfl) (by simp) ?_
        refine all_cons ?_ all_nil
        obtain ⟨g1q8, W1q8, hr, hW, hbb, hge⟩ := hW.mk1 (P := Try.prog) (s := Instr.alloc 25 true (.tuple #[])) #[.int .i64 0, .int .i64 0, .int .i64 0] 25 (by kernel_rfl)
        refine op_val (w' := W1q8) (a' := (up (trl_b12 t op a b c n g1 g3 g5 g1q9) [(6, .pointer (some ⟨g1q8, 0, none⟩))])) (.pointer (some ⟨g1q8, 0, none⟩)) rfl (by kernel_rfl) (Eq.trans (b := (do pure (Next.value (← Instr.alloc 25 true (.tuple #[]))) : Sem Next).run Try.prog W1q7) (by kernel_rfl) (st_val hr)) (by kernel_rfl) ?_
        refine ⟨hW.tail.tail, ?_⟩
        refine wpAnyH_all (rs := [10]) (by kernel_rfl) (by simp) ?_
        refine all_cons ?_ all_nil
        obtain ⟨W1q10, hr, hW, hF⟩ := hW.storeN (P := Try.prog) (o := 0) (cs' := #[.int .i64 (getR t.R a 0), .int .i64 (getR t.R a 1), .int .i64 (getR t.R a 2)]) (L' := [(g1q8, 25, #[.int .i64 (getR t.R a 0), .int .i64 (getR t.R a 1), .int .i64 (getR t.R a 2)]), (g1q9, 25, #[.int .i64 0, .int .i64 0, .int .i64 0]), (g5, 32, trl_c1), (g3, 45, #[.int .i64 op, .int .i64 a, .int .i64 b, .int .i64 c, .int .i64 n]), (g1, 32, (trl_c0 t))]) 0 rfl #[.int .i64 (getR t.R a 0), .int .i64 (getR t.R a 1), .int .i64 (getR t.R a 2)] (by kernel_rfl) (Nat.le_of_ble_eq_true rfl) (by kernel_rfl) rfl 25 (by kernel_rfl)
        refine op_none (w' := W1q10) (a' := (up (trl_b12 t op a b c n g1 g3 g5 g1q9) [(6, .pointer (some ⟨g1q8, 0, none⟩))])) rfl (by kernel_rfl) (Eq.trans (b := (do Instr.storeAt 25 (.pointer (some ⟨g1q8, 0, none⟩)) (.agg #[.int .i64 (getR t.R a 0), .int .i64 (getR t.R a 1), .int .i64 (getR t.R a 2)]); pure Next.skip : Sem Next).run Try.prog W1q8) (by kernel_rfl) (st_unit hr)) (by kernel_rfl) ?_
        refine ⟨hW.tail.tail, ?_⟩
        refine wpAnyH_all (rs := [11]) (by kernel_rfl) (by simp) ?_
        refine all_cons ?_ all_nil
        obtain ⟨W1q11, hr, hW, hF⟩ := hW.storeN (P := Try.prog) (o := 0) (cs' := #[.int .i64 (getR t.R b 0), .int .i64 (getR t.R b 1), .int .i64 (getR t.R b 2)]) (L' := [(g1q8, 25, #[.int .i64 (getR t.R a 0), .int .i64 (getR t.R a 1), .int .i64 (getR t.R a 2)]), (g1q9, 25, #[.int .i64 (getR t.R b 0), .int .i64 (getR t.R b 1), .int .i64 (getR t.R b 2)]), (g5, 32, trl_c1), (g3, 45, #[.int .i64 op, .int .i64 a, .int .i64 b, .int .i64 c, .int .i64 n]), (g1, 32, (trl_c0 t))]) 1 rfl #[.int .i64 (getR t.R b 0), .int .i64 (getR t.R b 1), .int .i64 (getR t.R b 2)] (by kernel_rfl) (Nat.le_of_ble_eq_true rfl) (by kernel_rfl) rfl 25 (by kernel_rfl)
        refine op_none (w' := W1q11) (a' := (up (trl_b12 t op a b c n g1 g3 g5 g1q9) [(6, .pointer (some ⟨g1q8, 0, none⟩))])) rfl (by kernel_rfl) (Eq.trans (b := (do Instr.storeAt 25 (.pointer (some ⟨g1q9, 0, none⟩)) (.agg #[.int .i64 (getR t.R b 0), .int .i64 (getR t.R b 1), .int .i64 (getR t.R b 2)]); pure Next.skip : Sem Next).run Try.prog W1q10) (by kernel_rfl) (st_unit hr)) (by kernel_rfl) ?_
        refine ⟨hW.tail.tail, ?_⟩
        refine wpAnyH_done (by kernel_rfl) ?_ _
        have hW := hW.swap
        simp only [Exit.then]
        exact ⟨g1q8, g1q9, rfl, hW⟩
      refine all_cons ?_ all_nil
      obtain ⟨g1q8, W1q8, hr, hW, hbb, hge⟩ := hW.mk1 (P := Try.prog) (s := Instr.alloc 25 true (.tuple #[])) #[.int .i64 0, .int .i64 0, .int .i64 0] 25 (by kernel_rfl)
      refine op_val (w' := W1q8) (a' := (up (trl_b17 t op a b c n g1 g3 g5 g1q9 g1q8) [])) (.pointer (some ⟨g1q8, 0, none⟩)) rfl (by kernel_rfl) (Eq.trans (b := (do pure (Next.value (← Instr.alloc 25 true (.tuple #[]))) : Sem Next).run Try.prog W1q3) (by kernel_rfl) (st_val hr)) (by kernel_rfl) ?_
      refine ⟨hW.tail.tail, ?_⟩
      refine wpAnyH_all (rs := [7]) (by kernel_rfl) (by simp) ?_
      refine all_cons ?_ all_nil
      refine op_call rfl (th_rGet (⟨t.pc, t.fu, t.st, t.R, t.kd, t.mi, t.mn, t.sv, t.bv, t.nv, t.old⟩ : Th) b W1q8) (by kernel_rfl) (by kernel_rfl) ?_
      rintro _ W1q7 ⟨rfl, hB⟩
      have hW := hW.step hB
      refine ⟨_, (up (trl_b17 t op a b c n g1 g3 g5 g1q9 g1q8) [(17, .agg #[.int .i64 (getR t.R b 0), .int .i64 (getR t.R b 1), .int .i64 (getR t.R b 2)])]), rfl, by kernel_rfl, ?_⟩
      refine ⟨hW.tail.tail, ?_⟩
      refine wpAnyH_all (rs := [10]) (by kernel_rfl) (by simp) ?_
      refine all_cons ?_ all_nil
      obtain ⟨W1q10, hr, hW, hF⟩ := hW.storeN (P := Try.prog) (o := 0) (cs' := #[.int .i64 (getR t.R a 0), .int .i64 (getR t.R a 1), .int .i64 (getR t.R a 2)]) (L' := [(g1q8, 25, #[.int .i64 (getR t.R a 0), .int .i64 (getR t.R a 1), .int .i64 (getR t.R a 2)]), (g1q9, 25, #[.int .i64 0, .int .i64 0, .int .i64 0]), (g5, 32, trl_c1), (g3, 45, #[.int .i64 op, .int .i64 a, .int .i64 b, .int .i64 c, .int .i64 n]), (g1, 32, (trl_c0 t))]) 0 rfl #[.int .i64 (getR t.R a 0), .int .i64 (getR t.R a 1), .int .i64 (getR t.R a 2)] (by kernel_rfl) (Nat.le_of_ble_eq_true rfl) (by kernel_rfl) rfl 25 (by kernel_rfl)
      refine op_none (w' := W1q10) (a' := (up (trl_b17 t op a b c n g1 g3 g5 g1q9 g1q8) [(17, .agg #[.int .i64 (getR t.R b 0), .int .i64 (getR t.R b 1), .int .i64 (getR t.R b 2)])])) rfl (by kernel_rfl) (Eq.trans (b := (do Instr.storeAt 25 (.pointer (some ⟨g1q8, 0, none⟩)) (.agg #[.int .i64 (getR t.R a 0), .int .i64 (getR t.R a 1), .int .i64 (getR t.R a 2)]); pure Next.skip : Sem Next).run Try.prog W1q7) (by kernel_rfl) (st_unit hr)) (by kernel_rfl) ?_
      refine ⟨hW.tail.tail, ?_⟩
      refine wpAnyH_all (rs := [11]) (by kernel_rfl) (by simp) ?_
      refine all_cons ?_ all_nil
      obtain ⟨W1q11, hr, hW, hF⟩ := hW.storeN (P := Try.prog) (o := 0) (cs' := #[.int .i64 (getR t.R b 0), .int .i64 (getR t.R b 1), .int .i64 (getR t.R b 2)]) (L' := [(g1q8, 25, #[.int .i64 (getR t.R a 0), .int .i64 (getR t.R a 1), .int .i64 (getR t.R a 2)]), (g1q9, 25, #[.int .i64 (getR t.R b 0), .int .i64 (getR t.R b 1), .int .i64 (getR t.R b 2)]), (g5, 32, trl_c1), (g3, 45, #[.int .i64 op, .int .i64 a, .int .i64 b, .int .i64 c, .int .i64 n]), (g1, 32, (trl_c0 t))]) 1 rfl #[.int .i64 (getR t.R b 0), .int .i64 (getR t.R b 1), .int .i64 (getR t.R b 2)] (by kernel_rfl) (Nat.le_of_ble_eq_true rfl) (by kernel_rfl) rfl 25 (by kernel_rfl)
      refine op_none (w' := W1q11) (a' := (up (trl_b17 t op a b c n g1 g3 g5 g1q9 g1q8) [(17, .agg #[.int .i64 (getR t.R b 0), .int .i64 (getR t.R b 1), .int .i64 (getR t.R b 2)])])) rfl (by kernel_rfl) (Eq.trans (b := (do Instr.storeAt 25 (.pointer (some ⟨g1q9, 0, none⟩)) (.agg #[.int .i64 (getR t.R b 0), .int .i64 (getR t.R b 1), .int .i64 (getR t.R b 2)]); pure Next.skip : Sem Next).run Try.prog W1q10) (by kernel_rfl) (st_unit hr)) (by kernel_rfl) ?_
      refine ⟨hW.tail.tail, ?_⟩
      refine wpAnyH_done (by kernel_rfl) ?_ _
      have hW := hW.swap
      simp only [Exit.then]
      exact ⟨g1q8, g1q9, rfl, hW⟩
    refine all_cons ?_ all_nil
    obtain ⟨g1q8, W1q8, hr, hW, hbb, hge⟩ := hW.mk1 (P := Try.prog) (s := Instr.alloc 25 true (.tuple #[])) #[.int .i64 0, .int .i64 0, .int .i64 0] 25 (by kernel_rfl)
    refine op_val (w' := W1q8) (a' := (up (trl_b7 t op a b c n g1 g3 g5) [(6, .pointer (some ⟨g1q8, 0, none⟩)), (7, .pointer (some ⟨g1q9, 0, none⟩)), (14, .agg (trl_c0 t)), (15, .pointer (some ⟨g3, 2, none⟩)), (16, .int .i64 b)])) (.pointer (some ⟨g1q8, 0, none⟩)) rfl (by kernel_rfl) (Eq.trans (b := (do pure (Next.value (← Instr.alloc 25 true (.tuple #[]))) : Sem Next).run Try.prog W1q9) (by kernel_rfl) (st_val hr)) (by kernel_rfl) ?_
    refine ⟨hW.tail.tail, ?_⟩
    refine wpAnyH_all (rs := [3]) (by kernel_rfl) (by simp) ?_
    refine all_cons ?_ all_nil
    refine op_call rfl (th_rGet (⟨t.pc, t.fu, t.st, t.R, t.kd, t.mi, t.mn, t.sv, t.bv, t.nv, t.old⟩ : Th) a W1q8) (by kernel_rfl) (by kernel_rfl) ?_
    rintro _ W1q3 ⟨rfl, hB⟩
    have hW := hW.step hB
    refine ⟨_, (up (trl_b17 t op a b c n g1 g3 g5 g1q9 g1q8) []), rfl, by kernel_rfl, ?_⟩
    refine ⟨hW.tail.tail, ?_⟩
    refine wpAnyH_all (rs := [7]) (by kernel_rfl) (by simp) ?_
    refine all_cons ?_ all_nil
    refine op_call rfl (th_rGet (⟨t.pc, t.fu, t.st, t.R, t.kd, t.mi, t.mn, t.sv, t.bv, t.nv, t.old⟩ : Th) b W1q3) (by kernel_rfl) (by kernel_rfl) ?_
    rintro _ W1q7 ⟨rfl, hB⟩
    have hW := hW.step hB
    refine ⟨_, (up (trl_b17 t op a b c n g1 g3 g5 g1q9 g1q8) [(17, .agg #[.int .i64 (getR t.R b 0), .int .i64 (getR t.R b 1), .int .i64 (getR t.R b 2)])]), rfl, by kernel_rfl, ?_⟩
    refine ⟨hW.tail.tail, ?_⟩
    refine wpAnyH_all (rs := [10]) (by kernel_rfl) (by simp) ?_
    refine all_cons ?_ all_nil
    obtain ⟨W1q10, hr, hW, hF⟩ := hW.storeN (P := Try.prog) (o := 0) (cs' := #[.int .i64 (getR t.R a 0), .int .i64 (getR t.R a 1), .int .i64 (getR t.R a 2)]) (L' := [(g1q8, 25, #[.int .i64 (getR t.R a 0), .int .i64 (getR t.R a 1), .int .i64 (getR t.R a 2)]), (g1q9, 25, #[.int .i64 0, .int .i64 0, .int .i64 0]), (g5, 32, trl_c1), (g3, 45, #[.int .i64 op, .int .i64 a, .int .i64 b, .int .i64 c, .int .i64 n]), (g1, 32, (trl_c0 t))]) 0 rfl #[.int .i64 (getR t.R a 0), .int .i64 (getR t.R a 1), .int .i64 (getR t.R a 2)] (by kernel_rfl) (Nat.le_of_ble_eq_true rfl) (by kernel_rfl) rfl 25 (by kernel_rfl)
    refine op_none (w' := W1q10) (a' := (up (trl_b17 t op a b c n g1 g3 g5 g1q9 g1q8) [(17, .agg #[.int .i64 (getR t.R b 0), .int .i64 (getR t.R b 1), .int .i64 (getR t.R b 2)])])) rfl (by kernel_rfl) (Eq.trans (b := (do Instr.storeAt 25 (.pointer (some ⟨g1q8, 0, none⟩)) (.agg #[.int .i64 (getR t.R a 0), .int .i64 (getR t.R a 1), .int .i64 (getR t.R a 2)]); pure Next.skip : Sem Next).run Try.prog W1q7) (by kernel_rfl) (st_unit hr)) (by kernel_rfl) ?_
    refine ⟨hW.tail.tail, ?_⟩
    refine wpAnyH_all (rs := [11]) (by kernel_rfl) (by simp) ?_
    refine all_cons ?_ all_nil
    obtain ⟨W1q11, hr, hW, hF⟩ := hW.storeN (P := Try.prog) (o := 0) (cs' := #[.int .i64 (getR t.R b 0), .int .i64 (getR t.R b 1), .int .i64 (getR t.R b 2)]) (L' := [(g1q8, 25, #[.int .i64 (getR t.R a 0), .int .i64 (getR t.R a 1), .int .i64 (getR t.R a 2)]), (g1q9, 25, #[.int .i64 (getR t.R b 0), .int .i64 (getR t.R b 1), .int .i64 (getR t.R b 2)]), (g5, 32, trl_c1), (g3, 45, #[.int .i64 op, .int .i64 a, .int .i64 b, .int .i64 c, .int .i64 n]), (g1, 32, (trl_c0 t))]) 1 rfl #[.int .i64 (getR t.R b 0), .int .i64 (getR t.R b 1), .int .i64 (getR t.R b 2)] (by kernel_rfl) (Nat.le_of_ble_eq_true rfl) (by kernel_rfl) rfl 25 (by kernel_rfl)
    refine op_none (w' := W1q11) (a' := (up (trl_b17 t op a b c n g1 g3 g5 g1q9 g1q8) [(17, .agg #[.int .i64 (getR t.R b 0), .int .i64 (getR t.R b 1), .int .i64 (getR t.R b 2)])])) rfl (by kernel_rfl) (Eq.trans (b := (do Instr.storeAt 25 (.pointer (some ⟨g1q9, 0, none⟩)) (.agg #[.int .i64 (getR t.R b 0), .int .i64 (getR t.R b 1), .int .i64 (getR t.R b 2)]); pure Next.skip : Sem Next).run Try.prog W1q10) (by kernel_rfl) (st_unit hr)) (by kernel_rfl) ?_
    refine ⟨hW.tail.tail, ?_⟩
    refine wpAnyH_done (by kernel_rfl) ?_ _
    have hW := hW.swap
    simp only [Exit.then]
    exact ⟨g1q8, g1q9, rfl, hW⟩
  rintro _ Wm1 ⟨g1q8, g1q9, rfl, hW⟩
  refine wp_seq ?_
  refine wp_seq ?_
  refine wp_region_list ?_
  refine skp (.pointer (some ⟨g3, 0, none⟩)) ?_
  refine se (a' := (up (trl_b17 t op a b c n g1 g3 g5 g1q9 g1q8) [(17, .agg #[.int .i64 (getR t.R b 0), .int .i64 (getR t.R b 1), .int .i64 (getR t.R b 2)]), (18, .pointer (some ⟨g3, 0, none⟩)), (19, .int .i64 op)])) (.int .i64 op) (ev1 hW 3 0 Try.underlying3) ?_
  refine wpList_nil ?_
  refine wp_block ?_
  refine wp_seq ?_
  rcases hq with rfl | rfl | rfl | rfl | ⟨rfl, hz⟩ | ⟨rfl, hz⟩ | ⟨rfl, hz⟩ | ⟨rfl, hz⟩ | rfl | rfl | rfl | ⟨rfl, hz⟩ | ⟨rfl, hz⟩ | hop
  · skip
    refine wp_region_list ?_
    refine skp (.bool true) ?_
    refine sk (a' := (up (trl_b20 t a b c n g1 g3 g5 g1q8 g1q9) [(22, .bool true)])) (.bool true) ?_
    refine wpList_nil ?_
    refine wp_cond (t := true) (by kernel_rfl) ?_
    refine wp_region_list ?_
    refine sk (a' := (up (trl_b20 t a b c n g1 g3 g5 g1q8 g1q9) [(22, .bool true), (24, .pointer (some ⟨g1, 2, none⟩))])) (.pointer (some ⟨g1, 2, none⟩)) ?_
    obtain ⟨W7, hr, hW, hF⟩ := hW.store1 (P := Try.prog) (o := 2) (cs' := (trl_c2 t)) (L' := [(g1q9, 25, #[.int .i64 (getR t.R b 0), .int .i64 (getR t.R b 1), .int .i64 (getR t.R b 2)]), (g1q8, 25, #[.int .i64 (getR t.R a 0), .int .i64 (getR t.R a 1), .int .i64 (getR t.R a 2)]), (g5, 32, trl_c1), (g3, 45, #[.int .i64 1, .int .i64 a, .int .i64 b, .int .i64 c, .int .i64 n]), (g1, 32, (trl_c2 t))]) 4 rfl (.int .i64 1) rfl (Nat.le_of_ble_eq_true rfl) (by rfl) rfl 3 (by kernel_rfl)
    refine st_none (w' := W7) (a' := (up (trl_b20 t a b c n g1 g3 g5 g1q8 g1q9) [(22, .bool true), (24, .pointer (some ⟨g1, 2, none⟩))])) (by kernel_rfl) (Eq.trans (b := (do Instr.storeAt 3 (.pointer (some ⟨g1, 2, none⟩)) (.int .i64 1); pure Next.skip : Sem Next).run Try.prog Wm1) (by kernel_rfl) (st_unit hr)) (by kernel_rfl) ?_
    refine wpList_nil ?_
    refine wp_seq ?_
    refine wp_region_list ?_
    refine se (a' := (up (trl_b20 t a b c n g1 g3 g5 g1q8 g1q9) [(22, .bool true), (24, .pointer (some ⟨g1, 2, none⟩)), (99, .agg (trl_c2 t))])) (.agg (trl_c2 t)) (evA hW 4 0 Try.underlying32) ?_
    have hK8_g1q9 : g1q9 < W7.heap.size := blk_lt (hW.blk 0 _ _ _ rfl).1
    have hK8_g1q8 : g1q8 < W7.heap.size := blk_lt (hW.blk 1 _ _ _ rfl).1
    have hK8_g5 : g5 < W7.heap.size := blk_lt (hW.blk 2 _ _ _ rfl).1
    have hK8_g3 : g3 < W7.heap.size := blk_lt (hW.blk 3 _ _ _ rfl).1
    have hK8_g1 : g1 < W7.heap.size := blk_lt (hW.blk 4 _ _ _ rfl).1
    have hK8_le : w.heap.size ≤ W7.heap.size := hW.below.size
    refine st_call (th_Copy (t := (⟨t.pc, t.fu, 1, t.R, t.kd, t.mi, t.mn, t.sv, t.bv, t.nv, t.old⟩ : Th)) (xs := xs) (bs := bs) (ns := ns) ⟨h.s.below hW.below, h.b.below hW.below, h.n.below hW.below⟩ hl) (by kernel_rfl) (by kernel_rfl) ?_
    rintro _ W8 ⟨As8, cs8, Ab8, cb8, An8, cn8, rfl, hO8, hB⟩
    have hW := hW.step hB
    have hK8 := KeepUp.refl W7.heap.size W8
    obtain ⟨r8, e8⟩ : ∃ r : Rw, r = ⟨.slice As8 xs.length cs8, .slice Ab8 bs.length cb8, .slice An8 ns.length cn8⟩ := ⟨_, rfl⟩
    refine ⟨_, (up (trl_b20 t a b c n g1 g3 g5 g1q8 g1q9) [(22, .bool true), (24, .pointer (some ⟨g1, 2, none⟩)), (99, .agg (trl_c2 t)), (100, .agg (trl_c3 t r8))]), rfl, by (try subst e8); kernel_rfl, ?_⟩
    obtain ⟨W9, hr, hW, hF⟩ := hW.storeN (P := Try.prog) (o := 0) (cs' := (trl_c3 t r8)) (L' := [(g1q9, 25, #[.int .i64 (getR t.R b 0), .int .i64 (getR t.R b 1), .int .i64 (getR t.R b 2)]), (g1q8, 25, #[.int .i64 (getR t.R a 0), .int .i64 (getR t.R a 1), .int .i64 (getR t.R a 2)]), (g5, 32, (trl_c3 t r8)), (g3, 45, #[.int .i64 1, .int .i64 a, .int .i64 b, .int .i64 c, .int .i64 n]), (g1, 32, (trl_c2 t))]) 2 rfl (trl_c3 t r8) (by (try subst e8); kernel_rfl) (Nat.le_of_ble_eq_true rfl) (by kernel_rfl) rfl 32 (by kernel_rfl)
    have hK8 := hK8.store hF (.inl hK8_g5)
    refine st_none (w' := W9) (a' := (up (trl_b20 t a b c n g1 g3 g5 g1q8 g1q9) [(22, .bool true), (24, .pointer (some ⟨g1, 2, none⟩)), (99, .agg (trl_c2 t)), (100, .agg (trl_c3 t r8))])) (by kernel_rfl) (Eq.trans (b := (do Instr.storeAt 32 (.pointer (some ⟨g5, 0, none⟩)) (.agg (trl_c3 t r8)); pure Next.skip : Sem Next).run Try.prog W8) (by kernel_rfl) (st_unit hr)) (by kernel_rfl) ?_
    refine sk (a' := (up (trl_b20 t a b c n g1 g3 g5 g1q8 g1q9) [(5, .bool true), (22, .bool true), (24, .pointer (some ⟨g1, 2, none⟩)), (99, .agg (trl_c2 t)), (100, .agg (trl_c3 t r8))])) (.bool true) ?_
    refine wpList_nil ?_
    refine wp_ret ?_
    (try simp only [Exit.then, Exit.inBlock])
    change bodyPost Try.prog Try.f22 _ .ret _ _
    refine bodyPost_ret (results_ct rfl _ _ g5 32 _ (0, 0) _ (by kernel_rfl) (hW.blk 2 _ _ _ rfl).1 Try.underlying32 rfl (by kernel_rfl)) rfl ?_
    have hloc : localT t 1 a b c n = ({ t with st := 1 }, true) := (by kernel_rfl)
    subst e8
    rw [hloc]
    exact ⟨As8, cs8, Ab8, cb8, An8, cn8, rfl, ⟨Kd.R_lower (hK8.R hO8.s) hK8_le, Kd.R_lower (hK8.R hO8.b) hK8_le, Kd.R_lower (hK8.R hO8.n) hK8_le⟩, hW.below⟩
  · skip
    refine wp_region_list ?_
    refine skp (.bool false) ?_
    refine sk (a' := (up (trl_b25 t a b c n g1 g3 g5 g1q8 g1q9) [(22, .bool false)])) (.bool false) ?_
    refine wpList_nil ?_
    refine wp_cond (t := false) (by kernel_rfl) ?_
    refine wp_seq ?_
    refine wp_region_list ?_
    refine skp (.bool true) ?_
    refine sk (a' := (up (trl_b25 t a b c n g1 g3 g5 g1q8 g1q9) [(22, .bool false), (25, .bool true), (26, .bool true)])) (.bool true) ?_
    refine wpList_nil ?_
    refine wp_cond (t := true) (by kernel_rfl) ?_
    refine wp_region_list ?_
    refine sep (.agg (trl_c0 t)) (evA hW 4 0 Try.underlying32) ?_
    refine skp (.pointer (some ⟨g3, 1, none⟩)) ?_
    refine se (a' := (up (trl_b27 t a b c n g1 g3 g5 g1q8 g1q9) [])) (.int .i64 a) (ev1 hW 3 1 Try.underlying3) ?_
    refine skp (.pointer (some ⟨g3, 4, none⟩)) ?_
    refine sep (.int .i64 n) (ev1 hW 3 4 Try.underlying2) ?_
    refine sk (a' := (up (trl_b27 t a b c n g1 g3 g5 g1q8 g1q9) [(30, .pointer (some ⟨g3, 4, none⟩)), (31, .int .i64 n), (32, .agg #[.int .i64 n, .int .i64 0, .int .i64 0])])) (.agg #[.int .i64 n, .int .i64 0, .int .i64 0]) ?_
    have hK7_g1q9 : g1q9 < Wm1.heap.size := blk_lt (hW.blk 0 _ _ _ rfl).1
    have hK7_g1q8 : g1q8 < Wm1.heap.size := blk_lt (hW.blk 1 _ _ _ rfl).1
    have hK7_g5 : g5 < Wm1.heap.size := blk_lt (hW.blk 2 _ _ _ rfl).1
    have hK7_g3 : g3 < Wm1.heap.size := blk_lt (hW.blk 3 _ _ _ rfl).1
    have hK7_g1 : g1 < Wm1.heap.size := blk_lt (hW.blk 4 _ _ _ rfl).1
    have hK7_le : w.heap.size ≤ Wm1.heap.size := hW.below.size
    refine st_call (th_rSet (t := (⟨t.pc, t.fu, t.st, t.R, t.kd, t.mi, t.mn, t.sv, t.bv, t.nv, t.old⟩ : Th)) (xs := xs) (bs := bs) (ns := ns) ⟨h.s.below hW.below, h.b.below hW.below, h.n.below hW.below⟩ hl a n 0 0) (by kernel_rfl) (by kernel_rfl) ?_
    rintro _ W7 ⟨As7, cs7, Ab7, cb7, An7, cn7, rfl, hO7, hB⟩
    have hW := hW.step hB
    have hK7 := KeepUp.refl Wm1.heap.size W7
    obtain ⟨r7, e7⟩ : ∃ r : Rw, r = ⟨.slice As7 xs.length cs7, .slice Ab7 bs.length cb7, .slice An7 ns.length cn7⟩ := ⟨_, rfl⟩
    refine ⟨_, (up (trl_b27 t a b c n g1 g3 g5 g1q8 g1q9) [(30, .pointer (some ⟨g3, 4, none⟩)), (31, .int .i64 n), (32, .agg #[.int .i64 n, .int .i64 0, .int .i64 0]), (33, .agg (trl_c4 t a n r7))]), rfl, by (try subst e7); kernel_rfl, ?_⟩
    obtain ⟨W8, hr, hW, hF⟩ := hW.storeN (P := Try.prog) (o := 0) (cs' := (trl_c4 t a n r7)) (L' := [(g1q9, 25, #[.int .i64 (getR t.R b 0), .int .i64 (getR t.R b 1), .int .i64 (getR t.R b 2)]), (g1q8, 25, #[.int .i64 (getR t.R a 0), .int .i64 (getR t.R a 1), .int .i64 (getR t.R a 2)]), (g5, 32, trl_c1), (g3, 45, #[.int .i64 2, .int .i64 a, .int .i64 b, .int .i64 c, .int .i64 n]), (g1, 32, (trl_c4 t a n r7))]) 4 rfl (trl_c4 t a n r7) (by (try subst e7); kernel_rfl) (Nat.le_of_ble_eq_true rfl) (by kernel_rfl) rfl 32 (by kernel_rfl)
    have hK7 := hK7.store hF (.inl hK7_g1)
    refine st_none (w' := W8) (a' := (up (trl_b27 t a b c n g1 g3 g5 g1q8 g1q9) [(30, .pointer (some ⟨g3, 4, none⟩)), (31, .int .i64 n), (32, .agg #[.int .i64 n, .int .i64 0, .int .i64 0]), (33, .agg (trl_c4 t a n r7))])) (by kernel_rfl) (Eq.trans (b := (do Instr.storeAt 32 (.pointer (some ⟨g1, 0, none⟩)) (.agg (trl_c4 t a n r7)); pure Next.skip : Sem Next).run Try.prog W7) (by kernel_rfl) (st_unit hr)) (by kernel_rfl) ?_
    refine wpList_nil ?_
    refine wp_seq ?_
    refine wp_region_list ?_
    refine se (a' := (up (trl_b27 t a b c n g1 g3 g5 g1q8 g1q9) [(30, .pointer (some ⟨g3, 4, none⟩)), (31, .int .i64 n), (32, .agg #[.int .i64 n, .int .i64 0, .int .i64 0]), (33, .agg (trl_c4 t a n r7)), (99, .agg (trl_c4 t a n r7))])) (.agg (trl_c4 t a n r7)) (evA hW 4 0 Try.underlying32) ?_
    have hK9_g1q9 : g1q9 < W8.heap.size := blk_lt (hW.blk 0 _ _ _ rfl).1
    have hK9_g1q8 : g1q8 < W8.heap.size := blk_lt (hW.blk 1 _ _ _ rfl).1
    have hK9_g5 : g5 < W8.heap.size := blk_lt (hW.blk 2 _ _ _ rfl).1
    have hK9_g3 : g3 < W8.heap.size := blk_lt (hW.blk 3 _ _ _ rfl).1
    have hK9_g1 : g1 < W8.heap.size := blk_lt (hW.blk 4 _ _ _ rfl).1
    have hK9_le : w.heap.size ≤ W8.heap.size := hW.below.size
    refine st_call (th_Copy (t := (⟨t.pc, t.fu, t.st, (setR t.R a n 0 0), t.kd, t.mi, t.mn, r7.s, r7.b, r7.n, t.old⟩ : Th)) (xs := xs) (bs := bs) (ns := ns) (by subst e7; exact ⟨(hO7.keep hK7).reads.s, (hO7.keep hK7).reads.b, (hO7.keep hK7).reads.n⟩) hl) (by kernel_rfl) (by kernel_rfl) ?_
    rintro _ W9 ⟨As9, cs9, Ab9, cb9, An9, cn9, rfl, hO9, hB⟩
    have hW := hW.step hB
    have hK7 := hK7.below hB
    have hK9 := KeepUp.refl W8.heap.size W9
    obtain ⟨r9, e9⟩ : ∃ r : Rw, r = ⟨.slice As9 xs.length cs9, .slice Ab9 bs.length cb9, .slice An9 ns.length cn9⟩ := ⟨_, rfl⟩
    refine ⟨_, (up (trl_b33 t a b c n g1 g3 g5 g1q8 g1q9 r7 r9) []), rfl, by (try subst e7); (try subst e9); kernel_rfl, ?_⟩
    obtain ⟨W10, hr, hW, hF⟩ := hW.storeN (P := Try.prog) (o := 0) (cs' := (trl_c5 t a n r9)) (L' := [(g1q9, 25, #[.int .i64 (getR t.R b 0), .int .i64 (getR t.R b 1), .int .i64 (getR t.R b 2)]), (g1q8, 25, #[.int .i64 (getR t.R a 0), .int .i64 (getR t.R a 1), .int .i64 (getR t.R a 2)]), (g5, 32, (trl_c5 t a n r9)), (g3, 45, #[.int .i64 2, .int .i64 a, .int .i64 b, .int .i64 c, .int .i64 n]), (g1, 32, (trl_c4 t a n r7))]) 2 rfl (trl_c5 t a n r9) (by (try subst e7); (try subst e9); kernel_rfl) (Nat.le_of_ble_eq_true rfl) (by kernel_rfl) rfl 32 (by kernel_rfl)
    have hK7 := hK7.store hF (.inl hK7_g5)
    have hK9 := hK9.store hF (.inl hK9_g5)
    refine st_none (w' := W10) (a' := (up (trl_b33 t a b c n g1 g3 g5 g1q8 g1q9 r7 r9) [])) (by kernel_rfl) (Eq.trans (b := (do Instr.storeAt 32 (.pointer (some ⟨g5, 0, none⟩)) (.agg (trl_c5 t a n r9)); pure Next.skip : Sem Next).run Try.prog W9) (by kernel_rfl) (st_unit hr)) (by kernel_rfl) ?_
    refine sk (a' := (up (trl_b33 t a b c n g1 g3 g5 g1q8 g1q9 r7 r9) [(5, .bool true)])) (.bool true) ?_
    refine wpList_nil ?_
    refine wp_ret ?_
    (try simp only [Exit.then, Exit.inBlock])
    change bodyPost Try.prog Try.f22 _ .ret _ _
    refine bodyPost_ret (results_ct rfl _ _ g5 32 _ (0, 0) _ (by kernel_rfl) (hW.blk 2 _ _ _ rfl).1 Try.underlying32 rfl (by kernel_rfl)) rfl ?_
    have hloc : localT t 2 a b c n = ({ t with R := setR t.R a n 0 0 }, true) := (by kernel_rfl)
    subst e9
    rw [hloc]
    exact ⟨As9, cs9, Ab9, cb9, An9, cn9, rfl, ⟨Kd.R_lower (hK9.R hO9.s) hK9_le, Kd.R_lower (hK9.R hO9.b) hK9_le, Kd.R_lower (hK9.R hO9.n) hK9_le⟩, hW.below⟩
  · skip
    refine wp_region_list ?_
    refine skp (.bool false) ?_
    refine sk (a' := (up (trl_b36 t a b c n g1 g3 g5 g1q8 g1q9) [(22, .bool false)])) (.bool false) ?_
    refine wpList_nil ?_
    refine wp_cond (t := false) (by kernel_rfl) ?_
    refine wp_seq ?_
    refine wp_region_list ?_
    refine skp (.bool false) ?_
    refine sk (a' := (up (trl_b36 t a b c n g1 g3 g5 g1q8 g1q9) [(22, .bool false), (25, .bool false), (26, .bool false)])) (.bool false) ?_
    refine wpList_nil ?_
    refine wp_cond (t := false) (by kernel_rfl) ?_
    refine wp_seq ?_
    refine wp_region_list ?_
    refine skp (.bool true) ?_
    refine sk (a' := (up (trl_b36 t a b c n g1 g3 g5 g1q8 g1q9) [(22, .bool false), (25, .bool false), (26, .bool false), (34, .bool true), (35, .bool true)])) (.bool true) ?_
    refine wpList_nil ?_
    refine wp_cond (t := true) (by kernel_rfl) ?_
    refine wp_region_list ?_
    refine sep (.agg (trl_c0 t)) (evA hW 4 0 Try.underlying32) ?_
    refine skp (.pointer (some ⟨g3, 1, none⟩)) ?_
    refine se (a' := (up (trl_b39 t a b c n g1 g3 g5 g1q8 g1q9) [(37, .pointer (some ⟨g3, 1, none⟩)), (38, .int .i64 a)])) (.int .i64 a) (ev1 hW 3 1 Try.underlying3) ?_
    refine se (a' := (up (trl_b39 t a b c n g1 g3 g5 g1q8 g1q9) [(37, .pointer (some ⟨g3, 1, none⟩)), (38, .int .i64 a), (39, .agg #[.int .i64 (getR t.R b 0), .int .i64 (getR t.R b 1), .int .i64 (getR t.R b 2)])])) (.agg #[.int .i64 (getR t.R b 0), .int .i64 (getR t.R b 1), .int .i64 (getR t.R b 2)]) (evA hW 0 0 Try.underlying25) ?_
    have hK7_g1q9 : g1q9 < Wm1.heap.size := blk_lt (hW.blk 0 _ _ _ rfl).1
    have hK7_g1q8 : g1q8 < Wm1.heap.size := blk_lt (hW.blk 1 _ _ _ rfl).1
    have hK7_g5 : g5 < Wm1.heap.size := blk_lt (hW.blk 2 _ _ _ rfl).1
    have hK7_g3 : g3 < Wm1.heap.size := blk_lt (hW.blk 3 _ _ _ rfl).1
    have hK7_g1 : g1 < Wm1.heap.size := blk_lt (hW.blk 4 _ _ _ rfl).1
    have hK7_le : w.heap.size ≤ Wm1.heap.size := hW.below.size
    refine st_call (th_rSet (t := (⟨t.pc, t.fu, t.st, t.R, t.kd, t.mi, t.mn, t.sv, t.bv, t.nv, t.old⟩ : Th)) (xs := xs) (bs := bs) (ns := ns) ⟨h.s.below hW.below, h.b.below hW.below, h.n.below hW.below⟩ hl a (getR t.R b 0) (getR t.R b 1) (getR t.R b 2)) (by kernel_rfl) (by kernel_rfl) ?_
    rintro _ W7 ⟨As7, cs7, Ab7, cb7, An7, cn7, rfl, hO7, hB⟩
    have hW := hW.step hB
    have hK7 := KeepUp.refl Wm1.heap.size W7
    obtain ⟨r7, e7⟩ : ∃ r : Rw, r = ⟨.slice As7 xs.length cs7, .slice Ab7 bs.length cb7, .slice An7 ns.length cn7⟩ := ⟨_, rfl⟩
    refine ⟨_, (up (trl_b39 t a b c n g1 g3 g5 g1q8 g1q9) [(37, .pointer (some ⟨g3, 1, none⟩)), (38, .int .i64 a), (39, .agg #[.int .i64 (getR t.R b 0), .int .i64 (getR t.R b 1), .int .i64 (getR t.R b 2)]), (40, .agg (trl_c6 t a b r7))]), rfl, by (try subst e7); kernel_rfl, ?_⟩
    obtain ⟨W8, hr, hW, hF⟩ := hW.storeN (P := Try.prog) (o := 0) (cs' := (trl_c6 t a b r7)) (L' := [(g1q9, 25, #[.int .i64 (getR t.R b 0), .int .i64 (getR t.R b 1), .int .i64 (getR t.R b 2)]), (g1q8, 25, #[.int .i64 (getR t.R a 0), .int .i64 (getR t.R a 1), .int .i64 (getR t.R a 2)]), (g5, 32, trl_c1), (g3, 45, #[.int .i64 3, .int .i64 a, .int .i64 b, .int .i64 c, .int .i64 n]), (g1, 32, (trl_c6 t a b r7))]) 4 rfl (trl_c6 t a b r7) (by (try subst e7); kernel_rfl) (Nat.le_of_ble_eq_true rfl) (by kernel_rfl) rfl 32 (by kernel_rfl)
    have hK7 := hK7.store hF (.inl hK7_g1)
    refine st_none (w' := W8) (a' := (up (trl_b39 t a b c n g1 g3 g5 g1q8 g1q9) [(37, .pointer (some ⟨g3, 1, none⟩)), (38, .int .i64 a), (39, .agg #[.int .i64 (getR t.R b 0), .int .i64 (getR t.R b 1), .int .i64 (getR t.R b 2)]), (40, .agg (trl_c6 t a b r7))])) (by kernel_rfl) (Eq.trans (b := (do Instr.storeAt 32 (.pointer (some ⟨g1, 0, none⟩)) (.agg (trl_c6 t a b r7)); pure Next.skip : Sem Next).run Try.prog W7) (by kernel_rfl) (st_unit hr)) (by kernel_rfl) ?_
    refine wpList_nil ?_
    refine wp_seq ?_
    refine wp_region_list ?_
    refine se (a' := (up (trl_b39 t a b c n g1 g3 g5 g1q8 g1q9) [(37, .pointer (some ⟨g3, 1, none⟩)), (38, .int .i64 a), (39, .agg #[.int .i64 (getR t.R b 0), .int .i64 (getR t.R b 1), .int .i64 (getR t.R b 2)]), (40, .agg (trl_c6 t a b r7)), (99, .agg (trl_c6 t a b r7))])) (.agg (trl_c6 t a b r7)) (evA hW 4 0 Try.underlying32) ?_
    have hK9_g1q9 : g1q9 < W8.heap.size := blk_lt (hW.blk 0 _ _ _ rfl).1
    have hK9_g1q8 : g1q8 < W8.heap.size := blk_lt (hW.blk 1 _ _ _ rfl).1
    have hK9_g5 : g5 < W8.heap.size := blk_lt (hW.blk 2 _ _ _ rfl).1
    have hK9_g3 : g3 < W8.heap.size := blk_lt (hW.blk 3 _ _ _ rfl).1
    have hK9_g1 : g1 < W8.heap.size := blk_lt (hW.blk 4 _ _ _ rfl).1
    have hK9_le : w.heap.size ≤ W8.heap.size := hW.below.size
    refine st_call (th_Copy (t := (⟨t.pc, t.fu, t.st, (setR t.R a (getR t.R b 0) (getR t.R b 1) (getR t.R b 2)), t.kd, t.mi, t.mn, r7.s, r7.b, r7.n, t.old⟩ : Th)) (xs := xs) (bs := bs) (ns := ns) (by subst e7; exact ⟨(hO7.keep hK7).reads.s, (hO7.keep hK7).reads.b, (hO7.keep hK7).reads.n⟩) hl) (by kernel_rfl) (by kernel_rfl) ?_
    rintro _ W9 ⟨As9, cs9, Ab9, cb9, An9, cn9, rfl, hO9, hB⟩
    have hW := hW.step hB
    have hK7 := hK7.below hB
    have hK9 := KeepUp.refl W8.heap.size W9
    obtain ⟨r9, e9⟩ : ∃ r : Rw, r = ⟨.slice As9 xs.length cs9, .slice Ab9 bs.length cb9, .slice An9 ns.length cn9⟩ := ⟨_, rfl⟩
    refine ⟨_, (up (trl_b44 t a b c n g1 g3 g5 g1q8 g1q9 r7 r9) []), rfl, by (try subst e7); (try subst e9); kernel_rfl, ?_⟩
    obtain ⟨W10, hr, hW, hF⟩ := hW.storeN (P := Try.prog) (o := 0) (cs' := (trl_c7 t a b r9)) (L' := [(g1q9, 25, #[.int .i64 (getR t.R b 0), .int .i64 (getR t.R b 1), .int .i64 (getR t.R b 2)]), (g1q8, 25, #[.int .i64 (getR t.R a 0), .int .i64 (getR t.R a 1), .int .i64 (getR t.R a 2)]), (g5, 32, (trl_c7 t a b r9)), (g3, 45, #[.int .i64 3, .int .i64 a, .int .i64 b, .int .i64 c, .int .i64 n]), (g1, 32, (trl_c6 t a b r7))]) 2 rfl (trl_c7 t a b r9) (by (try subst e7); (try subst e9); kernel_rfl) (Nat.le_of_ble_eq_true rfl) (by kernel_rfl) rfl 32 (by kernel_rfl)
    have hK7 := hK7.store hF (.inl hK7_g5)
    have hK9 := hK9.store hF (.inl hK9_g5)
    refine st_none (w' := W10) (a' := (up (trl_b44 t a b c n g1 g3 g5 g1q8 g1q9 r7 r9) [])) (by kernel_rfl) (Eq.trans (b := (do Instr.storeAt 32 (.pointer (some ⟨g5, 0, none⟩)) (.agg (trl_c7 t a b r9)); pure Next.skip : Sem Next).run Try.prog W9) (by kernel_rfl) (st_unit hr)) (by kernel_rfl) ?_
    refine sk (a' := (up (trl_b44 t a b c n g1 g3 g5 g1q8 g1q9 r7 r9) [(5, .bool true)])) (.bool true) ?_
    refine wpList_nil ?_
    refine wp_ret ?_
    (try simp only [Exit.then, Exit.inBlock])
    change bodyPost Try.prog Try.f22 _ .ret _ _
    refine bodyPost_ret (results_ct rfl _ _ g5 32 _ (0, 0) _ (by kernel_rfl) (hW.blk 2 _ _ _ rfl).1 Try.underlying32 rfl (by kernel_rfl)) rfl ?_
    have hloc : localT t 3 a b c n = ({ t with R := setR t.R a (getR t.R b 0) (getR t.R b 1) (getR t.R b 2) }, true) := (by kernel_rfl)
    subst e9
    rw [hloc]
    exact ⟨As9, cs9, Ab9, cb9, An9, cn9, rfl, ⟨Kd.R_lower (hK9.R hO9.s) hK9_le, Kd.R_lower (hK9.R hO9.b) hK9_le, Kd.R_lower (hK9.R hO9.n) hK9_le⟩, hW.below⟩
  · skip
    refine wp_region_list ?_
    refine skp (.bool false) ?_
    refine sk (a' := (up (trl_b47 t a b c n g1 g3 g5 g1q8 g1q9) [(22, .bool false)])) (.bool false) ?_
    refine wpList_nil ?_
    refine wp_cond (t := false) (by kernel_rfl) ?_
    refine wp_seq ?_
    refine wp_region_list ?_
    refine skp (.bool false) ?_
    refine sk (a' := (up (trl_b47 t a b c n g1 g3 g5 g1q8 g1q9) [(22, .bool false), (25, .bool false), (26, .bool false)])) (.bool false) ?_
    refine wpList_nil ?_
    refine wp_cond (t := false) (by kernel_rfl) ?_
    refine wp_seq ?_
    refine wp_region_list ?_
    refine skp (.bool false) ?_
    refine sk (a' := (up (trl_b47 t a b c n g1 g3 g5 g1q8 g1q9) [(22, .bool false), (25, .bool false), (26, .bool false), (34, .bool false), (35, .bool false)])) (.bool false) ?_
    refine wpList_nil ?_
    refine wp_cond (t := false) (by kernel_rfl) ?_
    refine wp_seq ?_
    refine wp_seq ?_
    refine wp_region_list ?_
    refine skp (.bool false) ?_
    refine sk (a' := (up (trl_b50 t a b c n g1 g3 g5 g1q8 g1q9) [(41, .bool false)])) (.bool false) ?_
    refine wpList_nil ?_
    refine wp_cond (t := false) (by kernel_rfl) ?_
    refine wp_seq ?_
    refine wp_region_list ?_
    refine skp (.bool false) ?_
    refine sk (a' := (up (trl_b50 t a b c n g1 g3 g5 g1q8 g1q9) [(41, .bool false), (43, .bool false)])) (.bool false) ?_
    refine wpList_nil ?_
    refine wp_cond (t := false) (by kernel_rfl) ?_
    refine wp_seq ?_
    refine wp_region_list ?_
    refine skp (.bool false) ?_
    refine sk (a' := (up (trl_b50 t a b c n g1 g3 g5 g1q8 g1q9) [(41, .bool false), (43, .bool false), (44, .bool false)])) (.bool false) ?_
    refine wpList_nil ?_
    refine wp_cond (t := false) (by kernel_rfl) ?_
    refine wp_region_list ?_
    refine skp (.bool false) ?_
    refine sk (a' := (up (trl_b50 t a b c n g1 g3 g5 g1q8 g1q9) [(41, .bool false), (43, .bool false), (44, .bool false), (45, .bool false)])) (.bool false) ?_
    refine wpList_nil ?_
    refine wp_cond (t := false) (by kernel_rfl) ?_
    refine wp_seq ?_
    refine wp_seq ?_
    refine wp_region_list ?_
    refine skp (.bool true) ?_
    refine sk (a' := (up (trl_b53 t a b c n g1 g3 g5 g1q8 g1q9) [])) (.bool true) ?_
    refine wpList_nil ?_
    refine wp_cond (t := true) (by kernel_rfl) ?_
    refine wp_skip ?_
    refine wp_cond (t := true) (by kernel_rfl) ?_
    refine wp_seq ?_
    refine wp_region_list ?_
    refine skp (.pointer (some ⟨g3, 0, none⟩)) ?_
    refine sep (.int .i64 8) (ev1 hW 3 0 Try.underlying3) ?_
    refine sk (a' := (up (trl_b53 t a b c n g1 g3 g5 g1q8 g1q9) [(71, .pointer (some ⟨g3, 0, none⟩)), (72, .int .i64 8), (73, .bool true)])) (.bool true) ?_
    refine st_ones (w' := Wm1) (a' := (up (trl_b53 t a b c n g1 g3 g5 g1q8 g1q9) [(71, .pointer (some ⟨g3, 0, none⟩)), (72, .int .i64 8), (73, .bool true), (74, .bool true)])) (a2 := (up (trl_b53 t a b c n g1 g3 g5 g1q8 g1q9) [(71, .pointer (some ⟨g3, 0, none⟩)), (72, .int .i64 8), (73, .bool true), (74, .bool true)])) 8 (.bool true) (by kernel_rfl) (by kernel_rfl) (by kernel_rfl) (by kernel_rfl) (by kernel_rfl) ?_
    refine skp (.bool true) ?_
    refine st_ones (w' := Wm1) (a' := (up (trl_b55 t a b c n g1 g3 g5 g1q8 g1q9) [])) (a2 := (up (trl_b55 t a b c n g1 g3 g5 g1q8 g1q9) [])) 10 (.bool true) (by kernel_rfl) (by kernel_rfl) (by kernel_rfl) (by kernel_rfl) (by kernel_rfl) ?_
    refine sk (a' := (up (trl_b55 t a b c n g1 g3 g5 g1q8 g1q9) [(95, .bool true)])) (.bool true) ?_
    refine wpList_nil ?_
    refine wp_cond (t := true) (by kernel_rfl) ?_
    refine wp_region_list ?_
    refine skp (.pointer (some ⟨g3, 4, none⟩)) ?_
    refine sep (.int .i64 n) (ev1 hW 3 4 Try.underlying2) ?_
    refine sk (a' := (up (trl_b55 t a b c n g1 g3 g5 g1q8 g1q9) [(95, .bool true), (96, .pointer (some ⟨g3, 4, none⟩)), (97, .int .i64 n), (98, .pointer (some ⟨g1, 0, none⟩))])) (.pointer (some ⟨g1, 0, none⟩)) ?_
    obtain ⟨W7, hr, hW, hF⟩ := hW.store1 (P := Try.prog) (o := 0) (cs' := (trl_c8 t n)) (L' := [(g1q9, 25, #[.int .i64 (getR t.R b 0), .int .i64 (getR t.R b 1), .int .i64 (getR t.R b 2)]), (g1q8, 25, #[.int .i64 (getR t.R a 0), .int .i64 (getR t.R a 1), .int .i64 (getR t.R a 2)]), (g5, 32, trl_c1), (g3, 45, #[.int .i64 8, .int .i64 a, .int .i64 b, .int .i64 c, .int .i64 n]), (g1, 32, (trl_c8 t n))]) 4 rfl (.int .i64 n) rfl (Nat.le_of_ble_eq_true rfl) (by rfl) rfl 3 (by kernel_rfl)
    refine st_none (w' := W7) (a' := (up (trl_b55 t a b c n g1 g3 g5 g1q8 g1q9) [(95, .bool true), (96, .pointer (some ⟨g3, 4, none⟩)), (97, .int .i64 n), (98, .pointer (some ⟨g1, 0, none⟩))])) (by kernel_rfl) (Eq.trans (b := (do Instr.storeAt 3 (.pointer (some ⟨g1, 0, none⟩)) (.int .i64 n); pure Next.skip : Sem Next).run Try.prog Wm1) (by kernel_rfl) (st_unit hr)) (by kernel_rfl) ?_
    refine wpList_nil ?_
    refine wp_seq ?_
    refine wp_region_list ?_
    refine se (a' := (up (trl_b55 t a b c n g1 g3 g5 g1q8 g1q9) [(95, .bool true), (96, .pointer (some ⟨g3, 4, none⟩)), (97, .int .i64 n), (98, .pointer (some ⟨g1, 0, none⟩)), (99, .agg (trl_c8 t n))])) (.agg (trl_c8 t n)) (evA hW 4 0 Try.underlying32) ?_
    have hK8_g1q9 : g1q9 < W7.heap.size := blk_lt (hW.blk 0 _ _ _ rfl).1
    have hK8_g1q8 : g1q8 < W7.heap.size := blk_lt (hW.blk 1 _ _ _ rfl).1
    have hK8_g5 : g5 < W7.heap.size := blk_lt (hW.blk 2 _ _ _ rfl).1
    have hK8_g3 : g3 < W7.heap.size := blk_lt (hW.blk 3 _ _ _ rfl).1
    have hK8_g1 : g1 < W7.heap.size := blk_lt (hW.blk 4 _ _ _ rfl).1
    have hK8_le : w.heap.size ≤ W7.heap.size := hW.below.size
    refine st_call (th_Copy (t := (⟨n, t.fu, t.st, t.R, t.kd, t.mi, t.mn, t.sv, t.bv, t.nv, t.old⟩ : Th)) (xs := xs) (bs := bs) (ns := ns) ⟨h.s.below hW.below, h.b.below hW.below, h.n.below hW.below⟩ hl) (by kernel_rfl) (by kernel_rfl) ?_
    rintro _ W8 ⟨As8, cs8, Ab8, cb8, An8, cn8, rfl, hO8, hB⟩
    have hW := hW.step hB
    have hK8 := KeepUp.refl W7.heap.size W8
    obtain ⟨r8, e8⟩ : ∃ r : Rw, r = ⟨.slice As8 xs.length cs8, .slice Ab8 bs.length cb8, .slice An8 ns.length cn8⟩ := ⟨_, rfl⟩
    refine ⟨_, (up (trl_b60 t a b c n g1 g3 g5 g1q8 g1q9 r8) []), rfl, by (try subst e8); kernel_rfl, ?_⟩
    obtain ⟨W9, hr, hW, hF⟩ := hW.storeN (P := Try.prog) (o := 0) (cs' := (trl_c9 t n r8)) (L' := [(g1q9, 25, #[.int .i64 (getR t.R b 0), .int .i64 (getR t.R b 1), .int .i64 (getR t.R b 2)]), (g1q8, 25, #[.int .i64 (getR t.R a 0), .int .i64 (getR t.R a 1), .int .i64 (getR t.R a 2)]), (g5, 32, (trl_c9 t n r8)), (g3, 45, #[.int .i64 8, .int .i64 a, .int .i64 b, .int .i64 c, .int .i64 n]), (g1, 32, (trl_c8 t n))]) 2 rfl (trl_c9 t n r8) (by (try subst e8); kernel_rfl) (Nat.le_of_ble_eq_true rfl) (by kernel_rfl) rfl 32 (by kernel_rfl)
    have hK8 := hK8.store hF (.inl hK8_g5)
    refine st_none (w' := W9) (a' := (up (trl_b60 t a b c n g1 g3 g5 g1q8 g1q9 r8) [])) (by kernel_rfl) (Eq.trans (b := (do Instr.storeAt 32 (.pointer (some ⟨g5, 0, none⟩)) (.agg (trl_c9 t n r8)); pure Next.skip : Sem Next).run Try.prog W8) (by kernel_rfl) (st_unit hr)) (by kernel_rfl) ?_
    refine sk (a' := (up (trl_b60 t a b c n g1 g3 g5 g1q8 g1q9 r8) [(5, .bool true)])) (.bool true) ?_
    refine wpList_nil ?_
    refine wp_ret ?_
    (try simp only [Exit.then, Exit.inBlock])
    change bodyPost Try.prog Try.f22 _ .ret _ _
    refine bodyPost_ret (results_ct rfl _ _ g5 32 _ (0, 0) _ (by kernel_rfl) (hW.blk 2 _ _ _ rfl).1 Try.underlying32 rfl (by kernel_rfl)) rfl ?_
    have hloc : localT t 8 a b c n = ({ t with pc := n }, true) := (by kernel_rfl)
    subst e8
    rw [hloc]
    exact ⟨As8, cs8, Ab8, cb8, An8, cn8, rfl, ⟨Kd.R_lower (hK8.R hO8.s) hK8_le, Kd.R_lower (hK8.R hO8.b) hK8_le, Kd.R_lower (hK8.R hO8.n) hK8_le⟩, hW.below⟩
  · skip
    refine wp_region_list ?_
    refine skp (.bool false) ?_
    refine sk (a' := (up (trl_b63 t a b c n g1 g3 g5 g1q8 g1q9) [(22, .bool false)])) (.bool false) ?_
    refine wpList_nil ?_
    refine wp_cond (t := false) (by kernel_rfl) ?_
    refine wp_seq ?_
    refine wp_region_list ?_
    refine skp (.bool false) ?_
    refine sk (a' := (up (trl_b63 t a b c n g1 g3 g5 g1q8 g1q9) [(22, .bool false), (25, .bool false), (26, .bool false)])) (.bool false) ?_
    refine wpList_nil ?_
    refine wp_cond (t := false) (by kernel_rfl) ?_
    refine wp_seq ?_
    refine wp_region_list ?_
    refine skp (.bool false) ?_
    refine sk (a' := (up (trl_b63 t a b c n g1 g3 g5 g1q8 g1q9) [(22, .bool false), (25, .bool false), (26, .bool false), (34, .bool false), (35, .bool false)])) (.bool false) ?_
    refine wpList_nil ?_
    refine wp_cond (t := false) (by kernel_rfl) ?_
    refine wp_seq ?_
    refine wp_seq ?_
    refine wp_region_list ?_
    refine skp (.bool false) ?_
    refine sk (a' := (up (trl_b65 t a b c n g1 g3 g5 g1q8 g1q9) [(41, .bool false)])) (.bool false) ?_
    refine wpList_nil ?_
    refine wp_cond (t := false) (by kernel_rfl) ?_
    refine wp_seq ?_
    refine wp_region_list ?_
    refine skp (.bool false) ?_
    refine sk (a' := (up (trl_b65 t a b c n g1 g3 g5 g1q8 g1q9) [(41, .bool false), (43, .bool false)])) (.bool false) ?_
    refine wpList_nil ?_
    refine wp_cond (t := false) (by kernel_rfl) ?_
    refine wp_seq ?_
    refine wp_region_list ?_
    refine skp (.bool false) ?_
    refine sk (a' := (up (trl_b65 t a b c n g1 g3 g5 g1q8 g1q9) [(41, .bool false), (43, .bool false), (44, .bool false)])) (.bool false) ?_
    refine wpList_nil ?_
    refine wp_cond (t := false) (by kernel_rfl) ?_
    refine wp_region_list ?_
    refine skp (.bool false) ?_
    refine sk (a' := (up (trl_b65 t a b c n g1 g3 g5 g1q8 g1q9) [(41, .bool false), (43, .bool false), (44, .bool false), (45, .bool false)])) (.bool false) ?_
    refine wpList_nil ?_
    refine wp_cond (t := false) (by kernel_rfl) ?_
    refine wp_seq ?_
    refine wp_seq ?_
    refine wp_region_list ?_
    refine skp (.bool false) ?_
    refine sk (a' := (up (trl_b67 t a b c n g1 g3 g5 g1q8 g1q9) [])) (.bool false) ?_
    refine wpList_nil ?_
    refine wp_cond (t := false) (by kernel_rfl) ?_
    refine wp_seq ?_
    refine wp_region_list ?_
    refine skp (.bool true) ?_
    refine sk (a' := (up (trl_b67 t a b c n g1 g3 g5 g1q8 g1q9) [(67, .bool true), (69, .bool true)])) (.bool true) ?_
    refine wpList_nil ?_
    refine wp_cond (t := true) (by kernel_rfl) ?_
    refine wp_skip ?_
    refine wp_cond (t := true) (by kernel_rfl) ?_
    refine wp_seq ?_
    refine wp_region_list ?_
    refine skp (.pointer (some ⟨g3, 0, none⟩)) ?_
    refine sep (.int .i64 9) (ev1 hW 3 0 Try.underlying3) ?_
    refine sk (a' := (up (trl_b67 t a b c n g1 g3 g5 g1q8 g1q9) [(67, .bool true), (69, .bool true), (71, .pointer (some ⟨g3, 0, none⟩)), (72, .int .i64 9), (73, .bool false)])) (.bool false) ?_
    refine sk (a' := (up (trl_b69 t a b c n g1 g3 g5 g1q8 g1q9) [])) (.bool false) ?_
    refine sk (a' := (up (trl_b69 t a b c n g1 g3 g5 g1q8 g1q9) [(75, .pointer (some ⟨g3, 0, none⟩))])) (.pointer (some ⟨g3, 0, none⟩)) ?_
    refine se (a' := (up (trl_b69 t a b c n g1 g3 g5 g1q8 g1q9) [(75, .pointer (some ⟨g3, 0, none⟩)), (76, .int .i64 9)])) (.int .i64 9) (ev1 hW 3 0 Try.underlying3) ?_
    refine sk (a' := (up (trl_b69 t a b c n g1 g3 g5 g1q8 g1q9) [(75, .pointer (some ⟨g3, 0, none⟩)), (76, .int .i64 9), (77, .bool true)])) (.bool true) ?_
    refine sk (a' := (up (trl_b69 t a b c n g1 g3 g5 g1q8 g1q9) [(75, .pointer (some ⟨g3, 0, none⟩)), (76, .int .i64 9), (77, .bool true), (78, .bool true)])) (.bool true) ?_
    refine sk (a' := (up (trl_b69 t a b c n g1 g3 g5 g1q8 g1q9) [(75, .pointer (some ⟨g3, 0, none⟩)), (76, .int .i64 9), (77, .bool true), (78, .bool true), (79, .pointer (some ⟨g1q8, 0, none⟩))])) (.pointer (some ⟨g1q8, 0, none⟩)) ?_
    refine se (a' := (up (trl_b72 t a b c n g1 g3 g5 g1q8 g1q9) [])) (.int .i64 (getR t.R a 0)) (ev1 hW 1 0 Try.underlying2) ?_
    refine se (a' := (up (trl_b72 t a b c n g1 g3 g5 g1q8 g1q9) [(81, .bool true)])) (.bool true) (Eq.trans (b := .ok (.value (.bool (((getR t.R a 0) : Int) == 0))) Wm1) (by kernel_rfl) (st_ok (beq_iff_eq.2 (by omega)))) ?_
    refine skp (.bool true) ?_
    refine skp (.bool true) ?_
    refine st_ones (w' := Wm1) (a' := (up (trl_b72 t a b c n g1 g3 g5 g1q8 g1q9) [(81, .bool true), (82, .bool true), (83, .bool true), (84, .bool true)])) (a2 := (up (trl_b72 t a b c n g1 g3 g5 g1q8 g1q9) [(81, .bool true), (82, .bool true), (83, .bool true), (84, .bool true)])) 10 (.bool true) (by kernel_rfl) (by kernel_rfl) (by kernel_rfl) (by kernel_rfl) (by kernel_rfl) ?_
    refine sk (a' := (up (trl_b72 t a b c n g1 g3 g5 g1q8 g1q9) [(81, .bool true), (82, .bool true), (83, .bool true), (84, .bool true), (95, .bool true)])) (.bool true) ?_
    refine wpList_nil ?_
    refine wp_cond (t := true) (by kernel_rfl) ?_
    refine wp_region_list ?_
    refine skp (.pointer (some ⟨g3, 4, none⟩)) ?_
    refine sep (.int .i64 n) (ev1 hW 3 4 Try.underlying2) ?_
    refine sk (a' := (up (trl_b75 t a b c n g1 g3 g5 g1q8 g1q9) [(97, .int .i64 n), (98, .pointer (some ⟨g1, 0, none⟩))])) (.pointer (some ⟨g1, 0, none⟩)) ?_
    obtain ⟨W7, hr, hW, hF⟩ := hW.store1 (P := Try.prog) (o := 0) (cs' := (trl_c8 t n)) (L' := [(g1q9, 25, #[.int .i64 (getR t.R b 0), .int .i64 (getR t.R b 1), .int .i64 (getR t.R b 2)]), (g1q8, 25, #[.int .i64 (getR t.R a 0), .int .i64 (getR t.R a 1), .int .i64 (getR t.R a 2)]), (g5, 32, trl_c1), (g3, 45, #[.int .i64 9, .int .i64 a, .int .i64 b, .int .i64 c, .int .i64 n]), (g1, 32, (trl_c8 t n))]) 4 rfl (.int .i64 n) rfl (Nat.le_of_ble_eq_true rfl) (by rfl) rfl 3 (by kernel_rfl)
    refine st_none (w' := W7) (a' := (up (trl_b75 t a b c n g1 g3 g5 g1q8 g1q9) [(97, .int .i64 n), (98, .pointer (some ⟨g1, 0, none⟩))])) (by kernel_rfl) (Eq.trans (b := (do Instr.storeAt 3 (.pointer (some ⟨g1, 0, none⟩)) (.int .i64 n); pure Next.skip : Sem Next).run Try.prog Wm1) (by kernel_rfl) (st_unit hr)) (by kernel_rfl) ?_
    refine wpList_nil ?_
    refine wp_seq ?_
    refine wp_region_list ?_
    refine se (a' := (up (trl_b75 t a b c n g1 g3 g5 g1q8 g1q9) [(97, .int .i64 n), (98, .pointer (some ⟨g1, 0, none⟩)), (99, .agg (trl_c8 t n))])) (.agg (trl_c8 t n)) (evA hW 4 0 Try.underlying32) ?_
    have hK8_g1q9 : g1q9 < W7.heap.size := blk_lt (hW.blk 0 _ _ _ rfl).1
    have hK8_g1q8 : g1q8 < W7.heap.size := blk_lt (hW.blk 1 _ _ _ rfl).1
    have hK8_g5 : g5 < W7.heap.size := blk_lt (hW.blk 2 _ _ _ rfl).1
    have hK8_g3 : g3 < W7.heap.size := blk_lt (hW.blk 3 _ _ _ rfl).1
    have hK8_g1 : g1 < W7.heap.size := blk_lt (hW.blk 4 _ _ _ rfl).1
    have hK8_le : w.heap.size ≤ W7.heap.size := hW.below.size
    refine st_call (th_Copy (t := (⟨n, t.fu, t.st, t.R, t.kd, t.mi, t.mn, t.sv, t.bv, t.nv, t.old⟩ : Th)) (xs := xs) (bs := bs) (ns := ns) ⟨h.s.below hW.below, h.b.below hW.below, h.n.below hW.below⟩ hl) (by kernel_rfl) (by kernel_rfl) ?_
    rintro _ W8 ⟨As8, cs8, Ab8, cb8, An8, cn8, rfl, hO8, hB⟩
    have hW := hW.step hB
    have hK8 := KeepUp.refl W7.heap.size W8
    obtain ⟨r8, e8⟩ : ∃ r : Rw, r = ⟨.slice As8 xs.length cs8, .slice Ab8 bs.length cb8, .slice An8 ns.length cn8⟩ := ⟨_, rfl⟩
    refine ⟨_, (up (trl_b75 t a b c n g1 g3 g5 g1q8 g1q9) [(97, .int .i64 n), (98, .pointer (some ⟨g1, 0, none⟩)), (99, .agg (trl_c8 t n)), (100, .agg (trl_c9 t n r8))]), rfl, by (try subst e8); kernel_rfl, ?_⟩
    obtain ⟨W9, hr, hW, hF⟩ := hW.storeN (P := Try.prog) (o := 0) (cs' := (trl_c9 t n r8)) (L' := [(g1q9, 25, #[.int .i64 (getR t.R b 0), .int .i64 (getR t.R b 1), .int .i64 (getR t.R b 2)]), (g1q8, 25, #[.int .i64 (getR t.R a 0), .int .i64 (getR t.R a 1), .int .i64 (getR t.R a 2)]), (g5, 32, (trl_c9 t n r8)), (g3, 45, #[.int .i64 9, .int .i64 a, .int .i64 b, .int .i64 c, .int .i64 n]), (g1, 32, (trl_c8 t n))]) 2 rfl (trl_c9 t n r8) (by (try subst e8); kernel_rfl) (Nat.le_of_ble_eq_true rfl) (by kernel_rfl) rfl 32 (by kernel_rfl)
    have hK8 := hK8.store hF (.inl hK8_g5)
    refine st_none (w' := W9) (a' := (up (trl_b75 t a b c n g1 g3 g5 g1q8 g1q9) [(97, .int .i64 n), (98, .pointer (some ⟨g1, 0, none⟩)), (99, .agg (trl_c8 t n)), (100, .agg (trl_c9 t n r8))])) (by kernel_rfl) (Eq.trans (b := (do Instr.storeAt 32 (.pointer (some ⟨g5, 0, none⟩)) (.agg (trl_c9 t n r8)); pure Next.skip : Sem Next).run Try.prog W8) (by kernel_rfl) (st_unit hr)) (by kernel_rfl) ?_
    refine sk (a' := (up (trl_b75 t a b c n g1 g3 g5 g1q8 g1q9) [(5, .bool true), (97, .int .i64 n), (98, .pointer (some ⟨g1, 0, none⟩)), (99, .agg (trl_c8 t n)), (100, .agg (trl_c9 t n r8))])) (.bool true) ?_
    refine wpList_nil ?_
    refine wp_ret ?_
    (try simp only [Exit.then, Exit.inBlock])
    change bodyPost Try.prog Try.f22 _ .ret _ _
    refine bodyPost_ret (results_ct rfl _ _ g5 32 _ (0, 0) _ (by kernel_rfl) (hW.blk 2 _ _ _ rfl).1 Try.underlying32 rfl (by kernel_rfl)) rfl ?_
    have hloc : localT t 9 a b c n = ({ t with pc := n }, true) := (Eq.trans (b := ((if getR t.R a 0 = 0 then { t with pc := n } else t : Th), true)) (by kernel_rfl) (by rw [if_pos hz]))
    subst e8
    rw [hloc]
    exact ⟨As8, cs8, Ab8, cb8, An8, cn8, rfl, ⟨Kd.R_lower (hK8.R hO8.s) hK8_le, Kd.R_lower (hK8.R hO8.b) hK8_le, Kd.R_lower (hK8.R hO8.n) hK8_le⟩, hW.below⟩
  · skip
    refine wp_region_list ?_
    refine skp (.bool false) ?_
    refine sk (a' := (up (trl_b63 t a b c n g1 g3 g5 g1q8 g1q9) [(22, .bool false)])) (.bool false) ?_
    refine wpList_nil ?_
    refine wp_cond (t := false) (by kernel_rfl) ?_
    refine wp_seq ?_
    refine wp_region_list ?_
    refine skp (.bool false) ?_
    refine sk (a' := (up (trl_b63 t a b c n g1 g3 g5 g1q8 g1q9) [(22, .bool false), (25, .bool false), (26, .bool false)])) (.bool false) ?_
    refine wpList_nil ?_
    refine wp_cond (t := false) (by kernel_rfl) ?_
    refine wp_seq ?_
    refine wp_region_list ?_
    refine skp (.bool false) ?_
    refine sk (a' := (up (trl_b63 t a b c n g1 g3 g5 g1q8 g1q9) [(22, .bool false), (25, .bool false), (26, .bool false), (34, .bool false), (35, .bool false)])) (.bool false) ?_
    refine wpList_nil ?_
    refine wp_cond (t := false) (by kernel_rfl) ?_
    refine wp_seq ?_
    refine wp_seq ?_
    refine wp_region_list ?_
    refine skp (.bool false) ?_
    refine sk (a' := (up (trl_b65 t a b c n g1 g3 g5 g1q8 g1q9) [(41, .bool false)])) (.bool false) ?_
    refine wpList_nil ?_
    refine wp_cond (t := false) (by kernel_rfl) ?_
    refine wp_seq ?_
    refine wp_region_list ?_
    refine skp (.bool false) ?_
    refine sk (a' := (up (trl_b65 t a b c n g1 g3 g5 g1q8 g1q9) [(41, .bool false), (43, .bool false)])) (.bool false) ?_
    refine wpList_nil ?_
    refine wp_cond (t := false) (by kernel_rfl) ?_
    refine wp_seq ?_
    refine wp_region_list ?_
    refine skp (.bool false) ?_
    refine sk (a' := (up (trl_b65 t a b c n g1 g3 g5 g1q8 g1q9) [(41, .bool false), (43, .bool false), (44, .bool false)])) (.bool false) ?_
    refine wpList_nil ?_
    refine wp_cond (t := false) (by kernel_rfl) ?_
    refine wp_region_list ?_
    refine skp (.bool false) ?_
    refine sk (a' := (up (trl_b65 t a b c n g1 g3 g5 g1q8 g1q9) [(41, .bool false), (43, .bool false), (44, .bool false), (45, .bool false)])) (.bool false) ?_
    refine wpList_nil ?_
    refine wp_cond (t := false) (by kernel_rfl) ?_
    refine wp_seq ?_
    refine wp_seq ?_
    refine wp_region_list ?_
    refine skp (.bool false) ?_
    refine sk (a' := (up (trl_b67 t a b c n g1 g3 g5 g1q8 g1q9) [])) (.bool false) ?_
    refine wpList_nil ?_
    refine wp_cond (t := false) (by kernel_rfl) ?_
    refine wp_seq ?_
    refine wp_region_list ?_
    refine skp (.bool true) ?_
    refine sk (a' := (up (trl_b67 t a b c n g1 g3 g5 g1q8 g1q9) [(67, .bool true), (69, .bool true)])) (.bool true) ?_
    refine wpList_nil ?_
    refine wp_cond (t := true) (by kernel_rfl) ?_
    refine wp_skip ?_
    refine wp_cond (t := true) (by kernel_rfl) ?_
    refine wp_seq ?_
    refine wp_region_list ?_
    refine skp (.pointer (some ⟨g3, 0, none⟩)) ?_
    refine sep (.int .i64 9) (ev1 hW 3 0 Try.underlying3) ?_
    refine sk (a' := (up (trl_b67 t a b c n g1 g3 g5 g1q8 g1q9) [(67, .bool true), (69, .bool true), (71, .pointer (some ⟨g3, 0, none⟩)), (72, .int .i64 9), (73, .bool false)])) (.bool false) ?_
    refine sk (a' := (up (trl_b69 t a b c n g1 g3 g5 g1q8 g1q9) [])) (.bool false) ?_
    refine sk (a' := (up (trl_b69 t a b c n g1 g3 g5 g1q8 g1q9) [(75, .pointer (some ⟨g3, 0, none⟩))])) (.pointer (some ⟨g3, 0, none⟩)) ?_
    refine se (a' := (up (trl_b69 t a b c n g1 g3 g5 g1q8 g1q9) [(75, .pointer (some ⟨g3, 0, none⟩)), (76, .int .i64 9)])) (.int .i64 9) (ev1 hW 3 0 Try.underlying3) ?_
    refine sk (a' := (up (trl_b69 t a b c n g1 g3 g5 g1q8 g1q9) [(75, .pointer (some ⟨g3, 0, none⟩)), (76, .int .i64 9), (77, .bool true)])) (.bool true) ?_
    refine sk (a' := (up (trl_b69 t a b c n g1 g3 g5 g1q8 g1q9) [(75, .pointer (some ⟨g3, 0, none⟩)), (76, .int .i64 9), (77, .bool true), (78, .bool true)])) (.bool true) ?_
    refine sk (a' := (up (trl_b69 t a b c n g1 g3 g5 g1q8 g1q9) [(75, .pointer (some ⟨g3, 0, none⟩)), (76, .int .i64 9), (77, .bool true), (78, .bool true), (79, .pointer (some ⟨g1q8, 0, none⟩))])) (.pointer (some ⟨g1q8, 0, none⟩)) ?_
    refine se (a' := (up (trl_b72 t a b c n g1 g3 g5 g1q8 g1q9) [])) (.int .i64 (getR t.R a 0)) (ev1 hW 1 0 Try.underlying2) ?_
    refine se (a' := (up (trl_b72 t a b c n g1 g3 g5 g1q8 g1q9) [(81, .bool false)])) (.bool false) (Eq.trans (b := .ok (.value (.bool (((getR t.R a 0) : Int) == 0))) Wm1) (by kernel_rfl) (st_ok (beq_eq_false_iff_ne.2 (by omega)))) ?_
    refine skp (.bool false) ?_
    refine skp (.bool false) ?_
    refine sk (a' := (up (trl_b72 t a b c n g1 g3 g5 g1q8 g1q9) [(81, .bool false), (82, .bool false), (83, .bool false), (84, .bool false)])) (.bool false) ?_
    refine sk (a' := (up (trl_b72 t a b c n g1 g3 g5 g1q8 g1q9) [(81, .bool false), (82, .bool false), (83, .bool false), (84, .bool false), (85, .pointer (some ⟨g3, 0, none⟩))])) (.pointer (some ⟨g3, 0, none⟩)) ?_
    refine se (a' := (up (trl_b77 t a b c n g1 g3 g5 g1q8 g1q9) [])) (.int .i64 9) (ev1 hW 3 0 Try.underlying3) ?_
    refine sk (a' := (up (trl_b77 t a b c n g1 g3 g5 g1q8 g1q9) [(87, .bool false)])) (.bool false) ?_
    refine st_ones (w' := Wm1) (a' := (up (trl_b77 t a b c n g1 g3 g5 g1q8 g1q9) [(87, .bool false), (88, .bool false)])) (a2 := (up (trl_b77 t a b c n g1 g3 g5 g1q8 g1q9) [(87, .bool false), (88, .bool false)])) 5 (.bool false) (by kernel_rfl) (by kernel_rfl) (by kernel_rfl) (by kernel_rfl) (by kernel_rfl) ?_
    refine skp (.bool false) ?_
    refine sk (a' := (up (trl_b77 t a b c n g1 g3 g5 g1q8 g1q9) [(87, .bool false), (88, .bool false), (94, .bool false), (95, .bool false)])) (.bool false) ?_
    refine wpList_nil ?_
    refine wp_cond (t := false) (by kernel_rfl) ?_
    refine wp_skip ?_
    refine wp_seq ?_
    refine wp_region_list ?_
    refine se (a' := (up (trl_b77 t a b c n g1 g3 g5 g1q8 g1q9) [(87, .bool false), (88, .bool false), (94, .bool false), (95, .bool false), (99, .agg (trl_c0 t))])) (.agg (trl_c0 t)) (evA hW 4 0 Try.underlying32) ?_
    have hK7_g1q9 : g1q9 < Wm1.heap.size := blk_lt (hW.blk 0 _ _ _ rfl).1
    have hK7_g1q8 : g1q8 < Wm1.heap.size := blk_lt (hW.blk 1 _ _ _ rfl).1
    have hK7_g5 : g5 < Wm1.heap.size := blk_lt (hW.blk 2 _ _ _ rfl).1
    have hK7_g3 : g3 < Wm1.heap.size := blk_lt (hW.blk 3 _ _ _ rfl).1
    have hK7_g1 : g1 < Wm1.heap.size := blk_lt (hW.blk 4 _ _ _ rfl).1
    have hK7_le : w.heap.size ≤ Wm1.heap.size := hW.below.size
    refine st_call (th_Copy (t := (⟨t.pc, t.fu, t.st, t.R, t.kd, t.mi, t.mn, t.sv, t.bv, t.nv, t.old⟩ : Th)) (xs := xs) (bs := bs) (ns := ns) ⟨h.s.below hW.below, h.b.below hW.below, h.n.below hW.below⟩ hl) (by kernel_rfl) (by kernel_rfl) ?_
    rintro _ W7 ⟨As7, cs7, Ab7, cb7, An7, cn7, rfl, hO7, hB⟩
    have hW := hW.step hB
    have hK7 := KeepUp.refl Wm1.heap.size W7
    obtain ⟨r7, e7⟩ : ∃ r : Rw, r = ⟨.slice As7 xs.length cs7, .slice Ab7 bs.length cb7, .slice An7 ns.length cn7⟩ := ⟨_, rfl⟩
    refine ⟨_, (up (trl_b81 t a b c n g1 g3 g5 g1q8 g1q9 r7) []), rfl, by (try subst e7); kernel_rfl, ?_⟩
    obtain ⟨W8, hr, hW, hF⟩ := hW.storeN (P := Try.prog) (o := 0) (cs' := (trl_c10 t r7)) (L' := [(g1q9, 25, #[.int .i64 (getR t.R b 0), .int .i64 (getR t.R b 1), .int .i64 (getR t.R b 2)]), (g1q8, 25, #[.int .i64 (getR t.R a 0), .int .i64 (getR t.R a 1), .int .i64 (getR t.R a 2)]), (g5, 32, (trl_c10 t r7)), (g3, 45, #[.int .i64 9, .int .i64 a, .int .i64 b, .int .i64 c, .int .i64 n]), (g1, 32, (trl_c0 t))]) 2 rfl (trl_c10 t r7) (by (try subst e7); kernel_rfl) (Nat.le_of_ble_eq_true rfl) (by kernel_rfl) rfl 32 (by kernel_rfl)
    have hK7 := hK7.store hF (.inl hK7_g5)
    refine st_none (w' := W8) (a' := (up (trl_b81 t a b c n g1 g3 g5 g1q8 g1q9 r7) [])) (by kernel_rfl) (Eq.trans (b := (do Instr.storeAt 32 (.pointer (some ⟨g5, 0, none⟩)) (.agg (trl_c10 t r7)); pure Next.skip : Sem Next).run Try.prog W7) (by kernel_rfl) (st_unit hr)) (by kernel_rfl) ?_
    refine sk (a' := (up (trl_b81 t a b c n g1 g3 g5 g1q8 g1q9 r7) [(5, .bool true)])) (.bool true) ?_
    refine wpList_nil ?_
    refine wp_ret ?_
    (try simp only [Exit.then, Exit.inBlock])
    change bodyPost Try.prog Try.f22 _ .ret _ _
    refine bodyPost_ret (results_ct rfl _ _ g5 32 _ (0, 0) _ (by kernel_rfl) (hW.blk 2 _ _ _ rfl).1 Try.underlying32 rfl (by kernel_rfl)) rfl ?_
    have hloc : localT t 9 a b c n = (t, true) := (Eq.trans (b := ((if getR t.R a 0 = 0 then { t with pc := n } else t : Th), true)) (by kernel_rfl) (by rw [if_neg hz]))
    subst e7
    rw [hloc]
    exact ⟨As7, cs7, Ab7, cb7, An7, cn7, rfl, ⟨Kd.R_lower (hK7.R hO7.s) hK7_le, Kd.R_lower (hK7.R hO7.b) hK7_le, Kd.R_lower (hK7.R hO7.n) hK7_le⟩, hW.below⟩
  · skip
    refine wp_region_list ?_
    refine skp (.bool false) ?_
    refine sk (a' := (up (trl_b84 t a b c n g1 g3 g5 g1q8 g1q9) [(22, .bool false)])) (.bool false) ?_
    refine wpList_nil ?_
    refine wp_cond (t := false) (by kernel_rfl) ?_
    refine wp_seq ?_
    refine wp_region_list ?_
    refine skp (.bool false) ?_
    refine sk (a' := (up (trl_b84 t a b c n g1 g3 g5 g1q8 g1q9) [(22, .bool false), (25, .bool false), (26, .bool false)])) (.bool false) ?_
    refine wpList_nil ?_
    refine wp_cond (t := false) (by kernel_rfl) ?_
    refine wp_seq ?_
    refine wp_region_list ?_
    refine skp (.bool false) ?_
    refine sk (a' := (up (trl_b84 t a b c n g1 g3 g5 g1q8 g1q9) [(22, .bool false), (25, .bool false), (26, .bool false), (34, .bool false), (35, .bool false)])) (.bool false) ?_
    refine wpList_nil ?_
    refine wp_cond (t := false) (by kernel_rfl) ?_
    refine wp_seq ?_
    refine wp_seq ?_
    refine wp_region_list ?_
    refine skp (.bool false) ?_
    refine sk (a' := (up (trl_b86 t a b c n g1 g3 g5 g1q8 g1q9) [(41, .bool false)])) (.bool false) ?_
    refine wpList_nil ?_
    refine wp_cond (t := false) (by kernel_rfl) ?_
    refine wp_seq ?_
    refine wp_region_list ?_
    refine skp (.bool false) ?_
    refine sk (a' := (up (trl_b86 t a b c n g1 g3 g5 g1q8 g1q9) [(41, .bool false), (43, .bool false)])) (.bool false) ?_
    refine wpList_nil ?_
    refine wp_cond (t := false) (by kernel_rfl) ?_
    refine wp_seq ?_
    refine wp_region_list ?_
    refine skp (.bool false) ?_
    refine sk (a' := (up (trl_b86 t a b c n g1 g3 g5 g1q8 g1q9) [(41, .bool false), (43, .bool false), (44, .bool false)])) (.bool false) ?_
    refine wpList_nil ?_
    refine wp_cond (t := false) (by kernel_rfl) ?_
    refine wp_region_list ?_
    refine skp (.bool false) ?_
    refine sk (a' := (up (trl_b86 t a b c n g1 g3 g5 g1q8 g1q9) [(41, .bool false), (43, .bool false), (44, .bool false), (45, .bool false)])) (.bool false) ?_
    refine wpList_nil ?_
    refine wp_cond (t := false) (by kernel_rfl) ?_
    refine wp_seq ?_
    refine wp_seq ?_
    refine wp_region_list ?_
    refine skp (.bool false) ?_
    refine sk (a' := (up (trl_b87 t a b c n g1 g3 g5 g1q8 g1q9) [])) (.bool false) ?_
    refine wpList_nil ?_
    refine wp_cond (t := false) (by kernel_rfl) ?_
    refine wp_seq ?_
    refine wp_region_list ?_
    refine skp (.bool false) ?_
    refine sk (a' := (up (trl_b87 t a b c n g1 g3 g5 g1q8 g1q9) [(69, .bool false)])) (.bool false) ?_
    refine wpList_nil ?_
    refine wp_cond (t := false) (by kernel_rfl) ?_
    refine wp_region_list ?_
    refine skp (.bool true) ?_
    refine sk (a' := (up (trl_b87 t a b c n g1 g3 g5 g1q8 g1q9) [(67, .bool true), (69, .bool false), (70, .bool true)])) (.bool true) ?_
    refine wpList_nil ?_
    refine wp_cond (t := true) (by kernel_rfl) ?_
    refine wp_seq ?_
    refine wp_region_list ?_
    refine skp (.pointer (some ⟨g3, 0, none⟩)) ?_
    refine sep (.int .i64 10) (ev1 hW 3 0 Try.underlying3) ?_
    refine sk (a' := (up (trl_b89 t a b c n g1 g3 g5 g1q8 g1q9) [])) (.bool false) ?_
    refine sk (a' := (up (trl_b89 t a b c n g1 g3 g5 g1q8 g1q9) [(74, .bool false)])) (.bool false) ?_
    refine sk (a' := (up (trl_b89 t a b c n g1 g3 g5 g1q8 g1q9) [(74, .bool false), (75, .pointer (some ⟨g3, 0, none⟩))])) (.pointer (some ⟨g3, 0, none⟩)) ?_
    refine se (a' := (up (trl_b89 t a b c n g1 g3 g5 g1q8 g1q9) [(74, .bool false), (75, .pointer (some ⟨g3, 0, none⟩)), (76, .int .i64 10)])) (.int .i64 10) (ev1 hW 3 0 Try.underlying3) ?_
    refine sk (a' := (up (trl_b89 t a b c n g1 g3 g5 g1q8 g1q9) [(74, .bool false), (75, .pointer (some ⟨g3, 0, none⟩)), (76, .int .i64 10), (77, .bool false)])) (.bool false) ?_
    refine st_ones (w' := Wm1) (a' := (up (trl_b89 t a b c n g1 g3 g5 g1q8 g1q9) [(74, .bool false), (75, .pointer (some ⟨g3, 0, none⟩)), (76, .int .i64 10), (77, .bool false), (78, .bool false)])) (a2 := (up (trl_b89 t a b c n g1 g3 g5 g1q8 g1q9) [(74, .bool false), (75, .pointer (some ⟨g3, 0, none⟩)), (76, .int .i64 10), (77, .bool false), (78, .bool false)])) 3 (.bool false) (by kernel_rfl) (by kernel_rfl) (by kernel_rfl) (by kernel_rfl) (by kernel_rfl) ?_
    refine skp (.bool false) ?_
    refine skp (.bool false) ?_
    refine sk (a' := (up (trl_b92 t a b c n g1 g3 g5 g1q8 g1q9) [(83, .bool false), (84, .bool false)])) (.bool false) ?_
    refine sk (a' := (up (trl_b92 t a b c n g1 g3 g5 g1q8 g1q9) [(83, .bool false), (84, .bool false), (85, .pointer (some ⟨g3, 0, none⟩))])) (.pointer (some ⟨g3, 0, none⟩)) ?_
    refine se (a' := (up (trl_b92 t a b c n g1 g3 g5 g1q8 g1q9) [(83, .bool false), (84, .bool false), (85, .pointer (some ⟨g3, 0, none⟩)), (86, .int .i64 10)])) (.int .i64 10) (ev1 hW 3 0 Try.underlying3) ?_
    refine sk (a' := (up (trl_b92 t a b c n g1 g3 g5 g1q8 g1q9) [(83, .bool false), (84, .bool false), (85, .pointer (some ⟨g3, 0, none⟩)), (86, .int .i64 10), (87, .bool true)])) (.bool true) ?_
    refine sk (a' := (up (trl_b94 t a b c n g1 g3 g5 g1q8 g1q9) [])) (.bool true) ?_
    refine sk (a' := (up (trl_b94 t a b c n g1 g3 g5 g1q8 g1q9) [(89, .pointer (some ⟨g1q8, 0, none⟩))])) (.pointer (some ⟨g1q8, 0, none⟩)) ?_
    refine se (a' := (up (trl_b94 t a b c n g1 g3 g5 g1q8 g1q9) [(89, .pointer (some ⟨g1q8, 0, none⟩)), (90, .int .i64 (getR t.R a 0))])) (.int .i64 (getR t.R a 0)) (ev1 hW 1 0 Try.underlying2) ?_
    refine sk (a' := (up (trl_b94 t a b c n g1 g3 g5 g1q8 g1q9) [(89, .pointer (some ⟨g1q8, 0, none⟩)), (90, .int .i64 (getR t.R a 0)), (91, .pointer (some ⟨g1q9, 0, none⟩))])) (.pointer (some ⟨g1q9, 0, none⟩)) ?_
    refine se (a' := (up (trl_b94 t a b c n g1 g3 g5 g1q8 g1q9) [(89, .pointer (some ⟨g1q8, 0, none⟩)), (90, .int .i64 (getR t.R a 0)), (91, .pointer (some ⟨g1q9, 0, none⟩)), (92, .int .i64 (getR t.R b 0))])) (.int .i64 (getR t.R b 0)) (ev1 hW 0 0 Try.underlying2) ?_
    refine se (a' := (up (trl_b94 t a b c n g1 g3 g5 g1q8 g1q9) [(89, .pointer (some ⟨g1q8, 0, none⟩)), (90, .int .i64 (getR t.R a 0)), (91, .pointer (some ⟨g1q9, 0, none⟩)), (92, .int .i64 (getR t.R b 0)), (93, .bool true)])) (.bool true) (Eq.trans (b := .ok (.value (.bool (((getR t.R a 0) : Int) == (getR t.R b 0)))) Wm1) (by kernel_rfl) (st_ok hz)) ?_
    refine skp (.bool true) ?_
    refine sk (a' := (up (trl_b96 t a b c n g1 g3 g5 g1q8 g1q9) [(95, .bool true)])) (.bool true) ?_
    refine wpList_nil ?_
    refine wp_cond (t := true) (by kernel_rfl) ?_
    refine wp_region_list ?_
    refine skp (.pointer (some ⟨g3, 4, none⟩)) ?_
    refine sep (.int .i64 n) (ev1 hW 3 4 Try.underlying2) ?_
    refine sk (a' := (up (trl_b96 t a b c n g1 g3 g5 g1q8 g1q9) [(95, .bool true), (96, .pointer (some ⟨g3, 4, none⟩)), (97, .int .i64 n), (98, .pointer (some ⟨g1, 0, none⟩))])) (.pointer (some ⟨g1, 0, none⟩)) ?_
    obtain ⟨W7, hr, hW, hF⟩ := hW.store1 (P := Try.prog) (o := 0) (cs' := (trl_c8 t n)) (L' := [(g1q9, 25, #[.int .i64 (getR t.R b 0), .int .i64 (getR t.R b 1), .int .i64 (getR t.R b 2)]), (g1q8, 25, #[.int .i64 (getR t.R a 0), .int .i64 (getR t.R a 1), .int .i64 (getR t.R a 2)]), (g5, 32, trl_c1), (g3, 45, #[.int .i64 10, .int .i64 a, .int .i64 b, .int .i64 c, .int .i64 n]), (g1, 32, (trl_c8 t n))]) 4 rfl (.int .i64 n) rfl (Nat.le_of_ble_eq_true rfl) (by rfl) rfl 3 (by kernel_rfl)
    refine st_none (w' := W7) (a' := (up (trl_b96 t a b c n g1 g3 g5 g1q8 g1q9) [(95, .bool true), (96, .pointer (some ⟨g3, 4, none⟩)), (97, .int .i64 n), (98, .pointer (some ⟨g1, 0, none⟩))])) (by kernel_rfl) (Eq.trans (b := (do Instr.storeAt 3 (.pointer (some ⟨g1, 0, none⟩)) (.int .i64 n); pure Next.skip : Sem Next).run Try.prog Wm1) (by kernel_rfl) (st_unit hr)) (by kernel_rfl) ?_
    refine wpList_nil ?_
    refine wp_seq ?_
    refine wp_region_list ?_
    refine se (a' := (up (trl_b96 t a b c n g1 g3 g5 g1q8 g1q9) [(95, .bool true), (96, .pointer (some ⟨g3, 4, none⟩)), (97, .int .i64 n), (98, .pointer (some ⟨g1, 0, none⟩)), (99, .agg (trl_c8 t n))])) (.agg (trl_c8 t n)) (evA hW 4 0 Try.underlying32) ?_
    have hK8_g1q9 : g1q9 < W7.heap.size := blk_lt (hW.blk 0 _ _ _ rfl).1
    have hK8_g1q8 : g1q8 < W7.heap.size := blk_lt (hW.blk 1 _ _ _ rfl).1
    have hK8_g5 : g5 < W7.heap.size := blk_lt (hW.blk 2 _ _ _ rfl).1
    have hK8_g3 : g3 < W7.heap.size := blk_lt (hW.blk 3 _ _ _ rfl).1
    have hK8_g1 : g1 < W7.heap.size := blk_lt (hW.blk 4 _ _ _ rfl).1
    have hK8_le : w.heap.size ≤ W7.heap.size := hW.below.size
    refine st_call (th_Copy (t := (⟨n, t.fu, t.st, t.R, t.kd, t.mi, t.mn, t.sv, t.bv, t.nv, t.old⟩ : Th)) (xs := xs) (bs := bs) (ns := ns) ⟨h.s.below hW.below, h.b.below hW.below, h.n.below hW.below⟩ hl) (by kernel_rfl) (by kernel_rfl) ?_
    rintro _ W8 ⟨As8, cs8, Ab8, cb8, An8, cn8, rfl, hO8, hB⟩
    have hW := hW.step hB
    have hK8 := KeepUp.refl W7.heap.size W8
    obtain ⟨r8, e8⟩ : ∃ r : Rw, r = ⟨.slice As8 xs.length cs8, .slice Ab8 bs.length cb8, .slice An8 ns.length cn8⟩ := ⟨_, rfl⟩
    refine ⟨_, (up (trl_b98 t a b c n g1 g3 g5 g1q8 g1q9 r8) []), rfl, by (try subst e8); kernel_rfl, ?_⟩
    obtain ⟨W9, hr, hW, hF⟩ := hW.storeN (P := Try.prog) (o := 0) (cs' := (trl_c9 t n r8)) (L' := [(g1q9, 25, #[.int .i64 (getR t.R b 0), .int .i64 (getR t.R b 1), .int .i64 (getR t.R b 2)]), (g1q8, 25, #[.int .i64 (getR t.R a 0), .int .i64 (getR t.R a 1), .int .i64 (getR t.R a 2)]), (g5, 32, (trl_c9 t n r8)), (g3, 45, #[.int .i64 10, .int .i64 a, .int .i64 b, .int .i64 c, .int .i64 n]), (g1, 32, (trl_c8 t n))]) 2 rfl (trl_c9 t n r8) (by (try subst e8); kernel_rfl) (Nat.le_of_ble_eq_true rfl) (by kernel_rfl) rfl 32 (by kernel_rfl)
    have hK8 := hK8.store hF (.inl hK8_g5)
    refine st_none (w' := W9) (a' := (up (trl_b98 t a b c n g1 g3 g5 g1q8 g1q9 r8) [])) (by kernel_rfl) (Eq.trans (b := (do Instr.storeAt 32 (.pointer (some ⟨g5, 0, none⟩)) (.agg (trl_c9 t n r8)); pure Next.skip : Sem Next).run Try.prog W8) (by kernel_rfl) (st_unit hr)) (by kernel_rfl) ?_
    refine sk (a' := (up (trl_b98 t a b c n g1 g3 g5 g1q8 g1q9 r8) [(5, .bool true)])) (.bool true) ?_
    refine wpList_nil ?_
    refine wp_ret ?_
    (try simp only [Exit.then, Exit.inBlock])
    change bodyPost Try.prog Try.f22 _ .ret _ _
    refine bodyPost_ret (results_ct rfl _ _ g5 32 _ (0, 0) _ (by kernel_rfl) (hW.blk 2 _ _ _ rfl).1 Try.underlying32 rfl (by kernel_rfl)) rfl ?_
    have hloc : localT t 10 a b c n = ({ t with pc := n }, true) := (Eq.trans (b := ((if getR t.R a 0 = getR t.R b 0 then { t with pc := n } else t : Th), true)) (by kernel_rfl) (by rw [if_pos (beq_iff_eq.1 hz)]))
    subst e8
    rw [hloc]
    exact ⟨As8, cs8, Ab8, cb8, An8, cn8, rfl, ⟨Kd.R_lower (hK8.R hO8.s) hK8_le, Kd.R_lower (hK8.R hO8.b) hK8_le, Kd.R_lower (hK8.R hO8.n) hK8_le⟩, hW.below⟩
  · skip
    refine wp_region_list ?_
    refine skp (.bool false) ?_
    refine sk (a' := (up (trl_b84 t a b c n g1 g3 g5 g1q8 g1q9) [(22, .bool false)])) (.bool false) ?_
    refine wpList_nil ?_
    refine wp_cond (t := false) (by kernel_rfl) ?_
    refine wp_seq ?_
    refine wp_region_list ?_
    refine skp (.bool false) ?_
    refine sk (a' := (up (trl_b84 t a b c n g1 g3 g5 g1q8 g1q9) [(22, .bool false), (25, .bool false), (26, .bool false)])) (.bool false) ?_
    refine wpList_nil ?_
    refine wp_cond (t := false) (by kernel_rfl) ?_
    refine wp_seq ?_
    refine wp_region_list ?_
    refine skp (.bool false) ?_
    refine sk (a' := (up (trl_b84 t a b c n g1 g3 g5 g1q8 g1q9) [(22, .bool false), (25, .bool false), (26, .bool false), (34, .bool false), (35, .bool false)])) (.bool false) ?_
    refine wpList_nil ?_
    refine wp_cond (t := false) (by kernel_rfl) ?_
    refine wp_seq ?_
    refine wp_seq ?_
    refine wp_region_list ?_
    refine skp (.bool false) ?_
    refine sk (a' := (up (trl_b86 t a b c n g1 g3 g5 g1q8 g1q9) [(41, .bool false)])) (.bool false) ?_
    refine wpList_nil ?_
    refine wp_cond (t := false) (by kernel_rfl) ?_
    refine wp_seq ?_
    refine wp_region_list ?_
    refine skp (.bool false) ?_
    refine sk (a' := (up (trl_b86 t a b c n g1 g3 g5 g1q8 g1q9) [(41, .bool false), (43, .bool false)])) (.bool false) ?_
    refine wpList_nil ?_
    refine wp_cond (t := false) (by kernel_rfl) ?_
    refine wp_seq ?_
    refine wp_region_list ?_
    refine skp (.bool false) ?_
    refine sk (a' := (up (trl_b86 t a b c n g1 g3 g5 g1q8 g1q9) [(41, .bool false), (43, .bool false), (44, .bool false)])) (.bool false) ?_
    refine wpList_nil ?_
    refine wp_cond (t := false) (by kernel_rfl) ?_
    refine wp_region_list ?_
    refine skp (.bool false) ?_
    refine sk (a' := (up (trl_b86 t a b c n g1 g3 g5 g1q8 g1q9) [(41, .bool false), (43, .bool false), (44, .bool false), (45, .bool false)])) (.bool false) ?_
    refine wpList_nil ?_
    refine wp_cond (t := false) (by kernel_rfl) ?_
    refine wp_seq ?_
    refine wp_seq ?_
    refine wp_region_list ?_
    refine skp (.bool false) ?_
    refine sk (a' := (up (trl_b87 t a b c n g1 g3 g5 g1q8 g1q9) [])) (.bool false) ?_
    refine wpList_nil ?_
    refine wp_cond (t := false) (by kernel_rfl) ?_
    refine wp_seq ?_
    refine wp_region_list ?_
    refine skp (.bool false) ?_
    refine sk (a' := (up (trl_b87 t a b c n g1 g3 g5 g1q8 g1q9) [(69, .bool false)])) (.bool false) ?_
    refine wpList_nil ?_
    refine wp_cond (t := false) (by kernel_rfl) ?_
    refine wp_region_list ?_
    refine skp (.bool true) ?_
    refine sk (a' := (up (trl_b87 t a b c n g1 g3 g5 g1q8 g1q9) [(67, .bool true), (69, .bool false), (70, .bool true)])) (.bool true) ?_
    refine wpList_nil ?_
    refine wp_cond (t := true) (by kernel_rfl) ?_
    refine wp_seq ?_
    refine wp_region_list ?_
    refine skp (.pointer (some ⟨g3, 0, none⟩)) ?_
    refine sep (.int .i64 10) (ev1 hW 3 0 Try.underlying3) ?_
    refine sk (a' := (up (trl_b89 t a b c n g1 g3 g5 g1q8 g1q9) [])) (.bool false) ?_
    refine sk (a' := (up (trl_b89 t a b c n g1 g3 g5 g1q8 g1q9) [(74, .bool false)])) (.bool false) ?_
    refine sk (a' := (up (trl_b89 t a b c n g1 g3 g5 g1q8 g1q9) [(74, .bool false), (75, .pointer (some ⟨g3, 0, none⟩))])) (.pointer (some ⟨g3, 0, none⟩)) ?_
    refine se (a' := (up (trl_b89 t a b c n g1 g3 g5 g1q8 g1q9) [(74, .bool false), (75, .pointer (some ⟨g3, 0, none⟩)), (76, .int .i64 10)])) (.int .i64 10) (ev1 hW 3 0 Try.underlying3) ?_
    refine sk (a' := (up (trl_b89 t a b c n g1 g3 g5 g1q8 g1q9) [(74, .bool false), (75, .pointer (some ⟨g3, 0, none⟩)), (76, .int .i64 10), (77, .bool false)])) (.bool false) ?_
    refine st_ones (w' := Wm1) (a' := (up (trl_b89 t a b c n g1 g3 g5 g1q8 g1q9) [(74, .bool false), (75, .pointer (some ⟨g3, 0, none⟩)), (76, .int .i64 10), (77, .bool false), (78, .bool false)])) (a2 := (up (trl_b89 t a b c n g1 g3 g5 g1q8 g1q9) [(74, .bool false), (75, .pointer (some ⟨g3, 0, none⟩)), (76, .int .i64 10), (77, .bool false), (78, .bool false)])) 3 (.bool false) (by kernel_rfl) (by kernel_rfl) (by kernel_rfl) (by kernel_rfl) (by kernel_rfl) ?_
    refine skp (.bool false) ?_
    refine skp (.bool false) ?_
    refine sk (a' := (up (trl_b92 t a b c n g1 g3 g5 g1q8 g1q9) [(83, .bool false), (84, .bool false)])) (.bool false) ?_
    refine sk (a' := (up (trl_b92 t a b c n g1 g3 g5 g1q8 g1q9) [(83, .bool false), (84, .bool false), (85, .pointer (some ⟨g3, 0, none⟩))])) (.pointer (some ⟨g3, 0, none⟩)) ?_
    refine se (a' := (up (trl_b92 t a b c n g1 g3 g5 g1q8 g1q9) [(83, .bool false), (84, .bool false), (85, .pointer (some ⟨g3, 0, none⟩)), (86, .int .i64 10)])) (.int .i64 10) (ev1 hW 3 0 Try.underlying3) ?_
    refine sk (a' := (up (trl_b92 t a b c n g1 g3 g5 g1q8 g1q9) [(83, .bool false), (84, .bool false), (85, .pointer (some ⟨g3, 0, none⟩)), (86, .int .i64 10), (87, .bool true)])) (.bool true) ?_
    refine sk (a' := (up (trl_b94 t a b c n g1 g3 g5 g1q8 g1q9) [])) (.bool true) ?_
    refine sk (a' := (up (trl_b94 t a b c n g1 g3 g5 g1q8 g1q9) [(89, .pointer (some ⟨g1q8, 0, none⟩))])) (.pointer (some ⟨g1q8, 0, none⟩)) ?_
    refine se (a' := (up (trl_b94 t a b c n g1 g3 g5 g1q8 g1q9) [(89, .pointer (some ⟨g1q8, 0, none⟩)), (90, .int .i64 (getR t.R a 0))])) (.int .i64 (getR t.R a 0)) (ev1 hW 1 0 Try.underlying2) ?_
    refine sk (a' := (up (trl_b94 t a b c n g1 g3 g5 g1q8 g1q9) [(89, .pointer (some ⟨g1q8, 0, none⟩)), (90, .int .i64 (getR t.R a 0)), (91, .pointer (some ⟨g1q9, 0, none⟩))])) (.pointer (some ⟨g1q9, 0, none⟩)) ?_
    refine se (a' := (up (trl_b94 t a b c n g1 g3 g5 g1q8 g1q9) [(89, .pointer (some ⟨g1q8, 0, none⟩)), (90, .int .i64 (getR t.R a 0)), (91, .pointer (some ⟨g1q9, 0, none⟩)), (92, .int .i64 (getR t.R b 0))])) (.int .i64 (getR t.R b 0)) (ev1 hW 0 0 Try.underlying2) ?_
    refine se (a' := (up (trl_b94 t a b c n g1 g3 g5 g1q8 g1q9) [(89, .pointer (some ⟨g1q8, 0, none⟩)), (90, .int .i64 (getR t.R a 0)), (91, .pointer (some ⟨g1q9, 0, none⟩)), (92, .int .i64 (getR t.R b 0)), (93, .bool false)])) (.bool false) (Eq.trans (b := .ok (.value (.bool (((getR t.R a 0) : Int) == (getR t.R b 0)))) Wm1) (by kernel_rfl) (st_ok hz)) ?_
    refine skp (.bool false) ?_
    refine sk (a' := (up (trl_b100 t a b c n g1 g3 g5 g1q8 g1q9) [(95, .bool false)])) (.bool false) ?_
    refine wpList_nil ?_
    refine wp_cond (t := false) (by kernel_rfl) ?_
    refine wp_skip ?_
    refine wp_seq ?_
    refine wp_region_list ?_
    refine se (a' := (up (trl_b100 t a b c n g1 g3 g5 g1q8 g1q9) [(95, .bool false), (99, .agg (trl_c0 t))])) (.agg (trl_c0 t)) (evA hW 4 0 Try.underlying32) ?_
    have hK7_g1q9 : g1q9 < Wm1.heap.size := blk_lt (hW.blk 0 _ _ _ rfl).1
    have hK7_g1q8 : g1q8 < Wm1.heap.size := blk_lt (hW.blk 1 _ _ _ rfl).1
    have hK7_g5 : g5 < Wm1.heap.size := blk_lt (hW.blk 2 _ _ _ rfl).1
    have hK7_g3 : g3 < Wm1.heap.size := blk_lt (hW.blk 3 _ _ _ rfl).1
    have hK7_g1 : g1 < Wm1.heap.size := blk_lt (hW.blk 4 _ _ _ rfl).1
    have hK7_le : w.heap.size ≤ Wm1.heap.size := hW.below.size
    refine st_call (th_Copy (t := (⟨t.pc, t.fu, t.st, t.R, t.kd, t.mi, t.mn, t.sv, t.bv, t.nv, t.old⟩ : Th)) (xs := xs) (bs := bs) (ns := ns) ⟨h.s.below hW.below, h.b.below hW.below, h.n.below hW.below⟩ hl) (by kernel_rfl) (by kernel_rfl) ?_
    rintro _ W7 ⟨As7, cs7, Ab7, cb7, An7, cn7, rfl, hO7, hB⟩
    have hW := hW.step hB
    have hK7 := KeepUp.refl Wm1.heap.size W7
    obtain ⟨r7, e7⟩ : ∃ r : Rw, r = ⟨.slice As7 xs.length cs7, .slice Ab7 bs.length cb7, .slice An7 ns.length cn7⟩ := ⟨_, rfl⟩
    refine ⟨_, (up (trl_b100 t a b c n g1 g3 g5 g1q8 g1q9) [(95, .bool false), (99, .agg (trl_c0 t)), (100, .agg (trl_c10 t r7))]), rfl, by (try subst e7); kernel_rfl, ?_⟩
    obtain ⟨W8, hr, hW, hF⟩ := hW.storeN (P := Try.prog) (o := 0) (cs' := (trl_c10 t r7)) (L' := [(g1q9, 25, #[.int .i64 (getR t.R b 0), .int .i64 (getR t.R b 1), .int .i64 (getR t.R b 2)]), (g1q8, 25, #[.int .i64 (getR t.R a 0), .int .i64 (getR t.R a 1), .int .i64 (getR t.R a 2)]), (g5, 32, (trl_c10 t r7)), (g3, 45, #[.int .i64 10, .int .i64 a, .int .i64 b, .int .i64 c, .int .i64 n]), (g1, 32, (trl_c0 t))]) 2 rfl (trl_c10 t r7) (by (try subst e7); kernel_rfl) (Nat.le_of_ble_eq_true rfl) (by kernel_rfl) rfl 32 (by kernel_rfl)
    have hK7 := hK7.store hF (.inl hK7_g5)
    refine st_none (w' := W8) (a' := (up (trl_b100 t a b c n g1 g3 g5 g1q8 g1q9) [(95, .bool false), (99, .agg (trl_c0 t)), (100, .agg (trl_c10 t r7))])) (by kernel_rfl) (Eq.trans (b := (do Instr.storeAt 32 (.pointer (some ⟨g5, 0, none⟩)) (.agg (trl_c10 t r7)); pure Next.skip : Sem Next).run Try.prog W7) (by kernel_rfl) (st_unit hr)) (by kernel_rfl) ?_
    refine sk (a' := (up (trl_b100 t a b c n g1 g3 g5 g1q8 g1q9) [(5, .bool true), (95, .bool false), (99, .agg (trl_c0 t)), (100, .agg (trl_c10 t r7))])) (.bool true) ?_
    refine wpList_nil ?_
    refine wp_ret ?_
    (try simp only [Exit.then, Exit.inBlock])
    change bodyPost Try.prog Try.f22 _ .ret _ _
    refine bodyPost_ret (results_ct rfl _ _ g5 32 _ (0, 0) _ (by kernel_rfl) (hW.blk 2 _ _ _ rfl).1 Try.underlying32 rfl (by kernel_rfl)) rfl ?_
    have hloc : localT t 10 a b c n = (t, true) := (Eq.trans (b := ((if getR t.R a 0 = getR t.R b 0 then { t with pc := n } else t : Th), true)) (by kernel_rfl) (by rw [if_neg (beq_eq_false_iff_ne.1 hz)]))
    subst e7
    rw [hloc]
    exact ⟨As7, cs7, Ab7, cb7, An7, cn7, rfl, ⟨Kd.R_lower (hK7.R hO7.s) hK7_le, Kd.R_lower (hK7.R hO7.b) hK7_le, Kd.R_lower (hK7.R hO7.n) hK7_le⟩, hW.below⟩
  · skip
    refine wp_region_list ?_
    refine skp (.bool false) ?_
    refine sk (a' := (up (trl_b103 t a b c n g1 g3 g5 g1q8 g1q9) [(22, .bool false)])) (.bool false) ?_
    refine wpList_nil ?_
    refine wp_cond (t := false) (by kernel_rfl) ?_
    refine wp_seq ?_
    refine wp_region_list ?_
    refine skp (.bool false) ?_
    refine sk (a' := (up (trl_b103 t a b c n g1 g3 g5 g1q8 g1q9) [(22, .bool false), (25, .bool false), (26, .bool false)])) (.bool false) ?_
    refine wpList_nil ?_
    refine wp_cond (t := false) (by kernel_rfl) ?_
    refine wp_seq ?_
    refine wp_region_list ?_
    refine skp (.bool false) ?_
    refine sk (a' := (up (trl_b103 t a b c n g1 g3 g5 g1q8 g1q9) [(22, .bool false), (25, .bool false), (26, .bool false), (34, .bool false), (35, .bool false)])) (.bool false) ?_
    refine wpList_nil ?_
    refine wp_cond (t := false) (by kernel_rfl) ?_
    refine wp_seq ?_
    refine wp_seq ?_
    refine wp_region_list ?_
    refine skp (.bool true) ?_
    refine sk (a' := (up (trl_b106 t a b c n g1 g3 g5 g1q8 g1q9) [(41, .bool true)])) (.bool true) ?_
    refine wpList_nil ?_
    refine wp_cond (t := true) (by kernel_rfl) ?_
    refine wp_skip ?_
    refine wp_cond (t := true) (by kernel_rfl) ?_
    refine wp_seq ?_
    have hW := hW.drew
    refine wp_region_held_drew (S := fun W => Ws w W [(g1q9, 25, #[.int .i64 (getR t.R b 0), .int .i64 (getR t.R b 1), .int .i64 (getR t.R b 2)]), (g1q8, 25, #[.int .i64 (getR t.R a 0), .int .i64 (getR t.R a 1), .int .i64 (getR t.R a 2)]), (g5, 32, trl_c1), (g3, 45, #[.int .i64 4, .int .i64 a, .int .i64 b, .int .i64 c, .int .i64 n]), (g1, 32, (trl_c0 t))]) (by kernel_rfl) hW (fun _ => ?_)
    refine dk (a' := (up (trl_b106 t a b c n g1 g3 g5 g1q8 g1q9) [(41, .bool true), (47, .pointer (some ⟨g3, 0, none⟩))])) 0 (.pointer (some ⟨g3, 0, none⟩)) hW ?_
    refine de (a' := (up (trl_b106 t a b c n g1 g3 g5 g1q8 g1q9) [(41, .bool true), (47, .pointer (some ⟨g3, 0, none⟩)), (48, .int .i64 4)])) 1 (.int .i64 4) rfl (fun W hH => (ev1 hH 3 0 Try.underlying3)) hW ?_
    refine dk (a' := (up (trl_b106 t a b c n g1 g3 g5 g1q8 g1q9) [(41, .bool true), (47, .pointer (some ⟨g3, 0, none⟩)), (48, .int .i64 4), (49, .pointer (some ⟨g1q9, 0, none⟩))])) 2 (.pointer (some ⟨g1q9, 0, none⟩)) hW ?_
    refine de (a' := (up (trl_b106 t a b c n g1 g3 g5 g1q8 g1q9) [(41, .bool true), (47, .pointer (some ⟨g3, 0, none⟩)), (48, .int .i64 4), (49, .pointer (some ⟨g1q9, 0, none⟩)), (50, .int .i64 (getR t.R b 0))])) 3 (.int .i64 (getR t.R b 0)) rfl (fun W hH => (ev1 hH 0 0 Try.underlying2)) hW ?_
    refine de (a' := (up (trl_b109 t a b c n g1 g3 g5 g1q8 g1q9) [])) 4 (.agg (trl_c0 t)) rfl (fun W hH => (evA hH 4 0 Try.underlying32)) hW ?_
    refine dk (a' := (up (trl_b109 t a b c n g1 g3 g5 g1q8 g1q9) [(52, .pointer (some ⟨g3, 3, none⟩))])) 5 (.pointer (some ⟨g3, 3, none⟩)) hW ?_
    refine de (a' := (up (trl_b109 t a b c n g1 g3 g5 g1q8 g1q9) [(52, .pointer (some ⟨g3, 3, none⟩)), (53, .int .i64 c)])) 6 (.int .i64 c) rfl (fun W hH => (ev1 hH 3 3 Try.underlying3)) hW ?_
    refine wpAnyH_all (rs := [7]) (by kernel_rfl) (by simp) ?_
    refine all_cons ?_ all_nil
    refine op_call rfl (th_rGet (⟨t.pc, t.fu, t.st, t.R, t.kd, t.mi, t.mn, t.sv, t.bv, t.nv, t.old⟩ : Th) c Wm1.drew) (by kernel_rfl) (by kernel_rfl) ?_
    rintro _ W7 ⟨rfl, hB⟩
    have hW := hW.step hB
    refine ⟨_, (up (trl_b109 t a b c n g1 g3 g5 g1q8 g1q9) [(52, .pointer (some ⟨g3, 3, none⟩)), (53, .int .i64 c), (54, .agg #[.int .i64 (getR t.R c 0), .int .i64 (getR t.R c 1), .int .i64 (getR t.R c 2)])]), rfl, by kernel_rfl, ?_⟩
    refine ⟨hW, ?_⟩
    refine de (a' := (up (trl_b109 t a b c n g1 g3 g5 g1q8 g1q9) [(52, .pointer (some ⟨g3, 3, none⟩)), (53, .int .i64 c), (54, .agg #[.int .i64 (getR t.R c 0), .int .i64 (getR t.R c 1), .int .i64 (getR t.R c 2)]), (55, .int .i64 (getR t.R c 0))])) 8 (.int .i64 (getR t.R c 0)) rfl (fun W hH => by kernel_rfl) hW ?_
    refine wpAnyH_all (rs := [9]) (by kernel_rfl) (by simp) ?_
    refine all_cons ?_ all_nil
    refine op_call rfl (rarith_is 4 (getR t.R b 0) (getR t.R c 0) (by omega) true rfl W7) (by kernel_rfl) (by kernel_rfl) ?_
    rintro _ W8 ⟨rfl, hB⟩
    have hW := hW.step hB
    refine ⟨_, (up (trl_b109 t a b c n g1 g3 g5 g1q8 g1q9) [(52, .pointer (some ⟨g3, 3, none⟩)), (53, .int .i64 c), (54, .agg #[.int .i64 (getR t.R c 0), .int .i64 (getR t.R c 1), .int .i64 (getR t.R c 2)]), (55, .int .i64 (getR t.R c 0)), (56, .tuple #[.int .i64 ((arithF 4 (getR t.R b 0) (getR t.R c 0)).1), .bool true])]), rfl, by kernel_rfl, ?_⟩
    refine ⟨hW, ?_⟩
    refine dk (a' := (up (trl_b112 t a b c n g1 g3 g5 g1q8 g1q9) [])) 10 (.tuple #[.int .i64 ((arithF 4 (getR t.R b 0) (getR t.R c 0)).1), .bool true]) hW ?_
    refine de (a' := (up (trl_b112 t a b c n g1 g3 g5 g1q8 g1q9) [(57, .int .i64 ((arithF 4 (getR t.R b 0) (getR t.R c 0)).1))])) 11 (.int .i64 ((arithF 4 (getR t.R b 0) (getR t.R c 0)).1)) rfl (fun W hH => by kernel_rfl) hW ?_
    refine de (a' := (up (trl_b112 t a b c n g1 g3 g5 g1q8 g1q9) [(57, .int .i64 ((arithF 4 (getR t.R b 0) (getR t.R c 0)).1)), (58, .bool true)])) 12 (.bool true) rfl (fun W hH => by kernel_rfl) hW ?_
    refine dk (a' := (up (trl_b112 t a b c n g1 g3 g5 g1q8 g1q9) [(8, .int .i64 ((arithF 4 (getR t.R b 0) (getR t.R c 0)).1)), (57, .int .i64 ((arithF 4 (getR t.R b 0) (getR t.R c 0)).1)), (58, .bool true)])) 13 (.int .i64 ((arithF 4 (getR t.R b 0) (getR t.R c 0)).1)) hW ?_
    refine dk (a' := (up (trl_b112 t a b c n g1 g3 g5 g1q8 g1q9) [(8, .int .i64 ((arithF 4 (getR t.R b 0) (getR t.R c 0)).1)), (9, .bool true), (57, .int .i64 ((arithF 4 (getR t.R b 0) (getR t.R c 0)).1)), (58, .bool true)])) 14 (.bool true) hW ?_
    refine wpAnyH_done (by kernel_rfl) ?_ _
    refine wp_seq ?_
    refine wp_region_list ?_
    refine sk (a' := (up (trl_b112 t a b c n g1 g3 g5 g1q8 g1q9) [(8, .int .i64 ((arithF 4 (getR t.R b 0) (getR t.R c 0)).1)), (9, .bool true), (57, .int .i64 ((arithF 4 (getR t.R b 0) (getR t.R c 0)).1)), (58, .bool true), (59, .bool true)])) (.bool true) ?_
    refine wpList_nil ?_
    refine wp_cond (t := true) (by kernel_rfl) ?_
    refine wp_region_list ?_
    refine sep (.agg (trl_c0 t)) (evA hW 4 0 Try.underlying32) ?_
    refine skp (.pointer (some ⟨g3, 1, none⟩)) ?_
    refine se (a' := (up (trl_b115 t a b c n g1 g3 g5 g1q8 g1q9) [(61, .pointer (some ⟨g3, 1, none⟩)), (62, .int .i64 a)])) (.int .i64 a) (ev1 hW 3 1 Try.underlying3) ?_
    refine skp (.int .i64 ((arithF 4 (getR t.R b 0) (getR t.R c 0)).1)) ?_
    refine sk (a' := (up (trl_b115 t a b c n g1 g3 g5 g1q8 g1q9) [(61, .pointer (some ⟨g3, 1, none⟩)), (62, .int .i64 a), (63, .int .i64 ((arithF 4 (getR t.R b 0) (getR t.R c 0)).1)), (64, .agg #[.int .i64 ((arithF 4 (getR t.R b 0) (getR t.R c 0)).1), .int .i64 0, .int .i64 0])])) (.agg #[.int .i64 ((arithF 4 (getR t.R b 0) (getR t.R c 0)).1), .int .i64 0, .int .i64 0]) ?_
    have hK9_g1q9 : g1q9 < W8.heap.size := blk_lt (hW.blk 0 _ _ _ rfl).1
    have hK9_g1q8 : g1q8 < W8.heap.size := blk_lt (hW.blk 1 _ _ _ rfl).1
    have hK9_g5 : g5 < W8.heap.size := blk_lt (hW.blk 2 _ _ _ rfl).1
    have hK9_g3 : g3 < W8.heap.size := blk_lt (hW.blk 3 _ _ _ rfl).1
    have hK9_g1 : g1 < W8.heap.size := blk_lt (hW.blk 4 _ _ _ rfl).1
    have hK9_le : w.heap.size ≤ W8.heap.size := hW.below.size
    refine st_call (th_rSet (t := (⟨t.pc, t.fu, t.st, t.R, t.kd, t.mi, t.mn, t.sv, t.bv, t.nv, t.old⟩ : Th)) (xs := xs) (bs := bs) (ns := ns) ⟨h.s.below hW.below, h.b.below hW.below, h.n.below hW.below⟩ hl a ((arithF 4 (getR t.R b 0) (getR t.R c 0)).1) 0 0) (by kernel_rfl) (by kernel_rfl) ?_
    rintro _ W9 ⟨As9, cs9, Ab9, cb9, An9, cn9, rfl, hO9, hB⟩
    have hW := hW.step hB
    have hK9 := KeepUp.refl W8.heap.size W9
    obtain ⟨r9, e9⟩ : ∃ r : Rw, r = ⟨.slice As9 xs.length cs9, .slice Ab9 bs.length cb9, .slice An9 ns.length cn9⟩ := ⟨_, rfl⟩
    refine ⟨_, (up (trl_b115 t a b c n g1 g3 g5 g1q8 g1q9) [(61, .pointer (some ⟨g3, 1, none⟩)), (62, .int .i64 a), (63, .int .i64 ((arithF 4 (getR t.R b 0) (getR t.R c 0)).1)), (64, .agg #[.int .i64 ((arithF 4 (getR t.R b 0) (getR t.R c 0)).1), .int .i64 0, .int .i64 0]), (65, .agg (trl_c11 t a b c r9))]), rfl, by (try subst e9); kernel_rfl, ?_⟩
    obtain ⟨W10, hr, hW, hF⟩ := hW.storeN (P := Try.prog) (o := 0) (cs' := (trl_c11 t a b c r9)) (L' := [(g1q9, 25, #[.int .i64 (getR t.R b 0), .int .i64 (getR t.R b 1), .int .i64 (getR t.R b 2)]), (g1q8, 25, #[.int .i64 (getR t.R a 0), .int .i64 (getR t.R a 1), .int .i64 (getR t.R a 2)]), (g5, 32, trl_c1), (g3, 45, #[.int .i64 4, .int .i64 a, .int .i64 b, .int .i64 c, .int .i64 n]), (g1, 32, (trl_c11 t a b c r9))]) 4 rfl (trl_c11 t a b c r9) (by (try subst e9); kernel_rfl) (Nat.le_of_ble_eq_true rfl) (by kernel_rfl) rfl 32 (by kernel_rfl)
    have hK9 := hK9.store hF (.inl hK9_g1)
    refine st_none (w' := W10) (a' := (up (trl_b115 t a b c n g1 g3 g5 g1q8 g1q9) [(61, .pointer (some ⟨g3, 1, none⟩)), (62, .int .i64 a), (63, .int .i64 ((arithF 4 (getR t.R b 0) (getR t.R c 0)).1)), (64, .agg #[.int .i64 ((arithF 4 (getR t.R b 0) (getR t.R c 0)).1), .int .i64 0, .int .i64 0]), (65, .agg (trl_c11 t a b c r9))])) (by kernel_rfl) (Eq.trans (b := (do Instr.storeAt 32 (.pointer (some ⟨g1, 0, none⟩)) (.agg (trl_c11 t a b c r9)); pure Next.skip : Sem Next).run Try.prog W9) (by kernel_rfl) (st_unit hr)) (by kernel_rfl) ?_
    refine wpList_nil ?_
    refine wp_seq ?_
    refine wp_region_list ?_
    refine se (a' := (up (trl_b120 t a b c n g1 g3 g5 g1q8 g1q9 r9) [])) (.agg (trl_c11 t a b c r9)) (evA hW 4 0 Try.underlying32) ?_
    have hK11_g1q9 : g1q9 < W10.heap.size := blk_lt (hW.blk 0 _ _ _ rfl).1
    have hK11_g1q8 : g1q8 < W10.heap.size := blk_lt (hW.blk 1 _ _ _ rfl).1
    have hK11_g5 : g5 < W10.heap.size := blk_lt (hW.blk 2 _ _ _ rfl).1
    have hK11_g3 : g3 < W10.heap.size := blk_lt (hW.blk 3 _ _ _ rfl).1
    have hK11_g1 : g1 < W10.heap.size := blk_lt (hW.blk 4 _ _ _ rfl).1
    have hK11_le : w.heap.size ≤ W10.heap.size := hW.below.size
    refine st_call (th_Copy (t := (⟨t.pc, t.fu, t.st, (setR t.R a ((arithF 4 (getR t.R b 0) (getR t.R c 0)).1) 0 0), t.kd, t.mi, t.mn, r9.s, r9.b, r9.n, t.old⟩ : Th)) (xs := xs) (bs := bs) (ns := ns) (by subst e9; exact ⟨(hO9.keep hK9).reads.s, (hO9.keep hK9).reads.b, (hO9.keep hK9).reads.n⟩) hl) (by kernel_rfl) (by kernel_rfl) ?_
    rintro _ W11 ⟨As11, cs11, Ab11, cb11, An11, cn11, rfl, hO11, hB⟩
    have hW := hW.step hB
    have hK9 := hK9.below hB
    have hK11 := KeepUp.refl W10.heap.size W11
    obtain ⟨r11, e11⟩ : ∃ r : Rw, r = ⟨.slice As11 xs.length cs11, .slice Ab11 bs.length cb11, .slice An11 ns.length cn11⟩ := ⟨_, rfl⟩
    refine ⟨_, (up (trl_b120 t a b c n g1 g3 g5 g1q8 g1q9 r9) [(100, .agg (trl_c12 t a b c r11))]), rfl, by (try subst e9); (try subst e11); kernel_rfl, ?_⟩
    obtain ⟨W12, hr, hW, hF⟩ := hW.storeN (P := Try.prog) (o := 0) (cs' := (trl_c12 t a b c r11)) (L' := [(g1q9, 25, #[.int .i64 (getR t.R b 0), .int .i64 (getR t.R b 1), .int .i64 (getR t.R b 2)]), (g1q8, 25, #[.int .i64 (getR t.R a 0), .int .i64 (getR t.R a 1), .int .i64 (getR t.R a 2)]), (g5, 32, (trl_c12 t a b c r11)), (g3, 45, #[.int .i64 4, .int .i64 a, .int .i64 b, .int .i64 c, .int .i64 n]), (g1, 32, (trl_c11 t a b c r9))]) 2 rfl (trl_c12 t a b c r11) (by (try subst e9); (try subst e11); kernel_rfl) (Nat.le_of_ble_eq_true rfl) (by kernel_rfl) rfl 32 (by kernel_rfl)
    have hK9 := hK9.store hF (.inl hK9_g5)
    have hK11 := hK11.store hF (.inl hK11_g5)
    refine st_none (w' := W12) (a' := (up (trl_b120 t a b c n g1 g3 g5 g1q8 g1q9 r9) [(100, .agg (trl_c12 t a b c r11))])) (by kernel_rfl) (Eq.trans (b := (do Instr.storeAt 32 (.pointer (some ⟨g5, 0, none⟩)) (.agg (trl_c12 t a b c r11)); pure Next.skip : Sem Next).run Try.prog W11) (by kernel_rfl) (st_unit hr)) (by kernel_rfl) ?_
    refine sk (a' := (up (trl_b120 t a b c n g1 g3 g5 g1q8 g1q9 r9) [(5, .bool true), (100, .agg (trl_c12 t a b c r11))])) (.bool true) ?_
    refine wpList_nil ?_
    refine wp_ret ?_
    (try simp only [Exit.then, Exit.inBlock])
    change bodyPost Try.prog Try.f22 _ .ret _ _
    refine bodyPost_ret (results_ct rfl _ _ g5 32 _ (0, 0) _ (by kernel_rfl) (hW.blk 2 _ _ _ rfl).1 Try.underlying32 rfl (by kernel_rfl)) rfl ?_
    have hloc : localT t 4 a b c n = ({ t with R := setR t.R a (arithF 4 (getR t.R b 0) (getR t.R c 0)).1 0 0 }, true) := (by kernel_rfl)
    subst e11
    rw [hloc]
    exact ⟨As11, cs11, Ab11, cb11, An11, cn11, rfl, ⟨Kd.R_lower (hK11.R hO11.s) hK11_le, Kd.R_lower (hK11.R hO11.b) hK11_le, Kd.R_lower (hK11.R hO11.n) hK11_le⟩, hW.below⟩
  · skip
    refine wp_region_list ?_
    refine skp (.bool false) ?_
    refine sk (a' := (up (trl_b124 t a b c n g1 g3 g5 g1q8 g1q9) [(22, .bool false)])) (.bool false) ?_
    refine wpList_nil ?_
    refine wp_cond (t := false) (by kernel_rfl) ?_
    refine wp_seq ?_
    refine wp_region_list ?_
    refine skp (.bool false) ?_
    refine sk (a' := (up (trl_b124 t a b c n g1 g3 g5 g1q8 g1q9) [(22, .bool false), (25, .bool false), (26, .bool false)])) (.bool false) ?_
    refine wpList_nil ?_
    refine wp_cond (t := false) (by kernel_rfl) ?_
    refine wp_seq ?_
    refine wp_region_list ?_
    refine skp (.bool false) ?_
    refine sk (a' := (up (trl_b124 t a b c n g1 g3 g5 g1q8 g1q9) [(22, .bool false), (25, .bool false), (26, .bool false), (34, .bool false), (35, .bool false)])) (.bool false) ?_
    refine wpList_nil ?_
    refine wp_cond (t := false) (by kernel_rfl) ?_
    refine wp_seq ?_
    refine wp_seq ?_
    refine wp_region_list ?_
    refine skp (.bool false) ?_
    refine sk (a' := (up (trl_b126 t a b c n g1 g3 g5 g1q8 g1q9) [(41, .bool false)])) (.bool false) ?_
    refine wpList_nil ?_
    refine wp_cond (t := false) (by kernel_rfl) ?_
    refine wp_seq ?_
    refine wp_region_list ?_
    refine skp (.bool true) ?_
    refine sk (a' := (up (trl_b126 t a b c n g1 g3 g5 g1q8 g1q9) [(41, .bool true), (43, .bool true)])) (.bool true) ?_
    refine wpList_nil ?_
    refine wp_cond (t := true) (by kernel_rfl) ?_
    refine wp_skip ?_
    refine wp_cond (t := true) (by kernel_rfl) ?_
    refine wp_seq ?_
    have hW := hW.drew
    refine wp_region_held_drew (S := fun W => Ws w W [(g1q9, 25, #[.int .i64 (getR t.R b 0), .int .i64 (getR t.R b 1), .int .i64 (getR t.R b 2)]), (g1q8, 25, #[.int .i64 (getR t.R a 0), .int .i64 (getR t.R a 1), .int .i64 (getR t.R a 2)]), (g5, 32, trl_c1), (g3, 45, #[.int .i64 5, .int .i64 a, .int .i64 b, .int .i64 c, .int .i64 n]), (g1, 32, (trl_c0 t))]) (by kernel_rfl) hW (fun _ => ?_)
    refine dk (a' := (up (trl_b126 t a b c n g1 g3 g5 g1q8 g1q9) [(41, .bool true), (43, .bool true), (47, .pointer (some ⟨g3, 0, none⟩))])) 0 (.pointer (some ⟨g3, 0, none⟩)) hW ?_
    refine de (a' := (up (trl_b126 t a b c n g1 g3 g5 g1q8 g1q9) [(41, .bool true), (43, .bool true), (47, .pointer (some ⟨g3, 0, none⟩)), (48, .int .i64 5)])) 1 (.int .i64 5) rfl (fun W hH => (ev1 hH 3 0 Try.underlying3)) hW ?_
    refine dk (a' := (up (trl_b126 t a b c n g1 g3 g5 g1q8 g1q9) [(41, .bool true), (43, .bool true), (47, .pointer (some ⟨g3, 0, none⟩)), (48, .int .i64 5), (49, .pointer (some ⟨g1q9, 0, none⟩))])) 2 (.pointer (some ⟨g1q9, 0, none⟩)) hW ?_
    refine de (a' := (up (trl_b129 t a b c n g1 g3 g5 g1q8 g1q9) [])) 3 (.int .i64 (getR t.R b 0)) rfl (fun W hH => (ev1 hH 0 0 Try.underlying2)) hW ?_
    refine de (a' := (up (trl_b129 t a b c n g1 g3 g5 g1q8 g1q9) [(51, .agg (trl_c0 t))])) 4 (.agg (trl_c0 t)) rfl (fun W hH => (evA hH 4 0 Try.underlying32)) hW ?_
    refine dk (a' := (up (trl_b129 t a b c n g1 g3 g5 g1q8 g1q9) [(51, .agg (trl_c0 t)), (52, .pointer (some ⟨g3, 3, none⟩))])) 5 (.pointer (some ⟨g3, 3, none⟩)) hW ?_
    refine de (a' := (up (trl_b129 t a b c n g1 g3 g5 g1q8 g1q9) [(51, .agg (trl_c0 t)), (52, .pointer (some ⟨g3, 3, none⟩)), (53, .int .i64 c)])) 6 (.int .i64 c) rfl (fun W hH => (ev1 hH 3 3 Try.underlying3)) hW ?_
    refine wpAnyH_all (rs := [7]) (by kernel_rfl) (by simp) ?_
    refine all_cons ?_ all_nil
    refine op_call rfl (th_rGet (⟨t.pc, t.fu, t.st, t.R, t.kd, t.mi, t.mn, t.sv, t.bv, t.nv, t.old⟩ : Th) c Wm1.drew) (by kernel_rfl) (by kernel_rfl) ?_
    rintro _ W7 ⟨rfl, hB⟩
    have hW := hW.step hB
    refine ⟨_, (up (trl_b129 t a b c n g1 g3 g5 g1q8 g1q9) [(51, .agg (trl_c0 t)), (52, .pointer (some ⟨g3, 3, none⟩)), (53, .int .i64 c), (54, .agg #[.int .i64 (getR t.R c 0), .int .i64 (getR t.R c 1), .int .i64 (getR t.R c 2)])]), rfl, by kernel_rfl, ?_⟩
    refine ⟨hW, ?_⟩
    refine de (a' := (up (trl_b129 t a b c n g1 g3 g5 g1q8 g1q9) [(51, .agg (trl_c0 t)), (52, .pointer (some ⟨g3, 3, none⟩)), (53, .int .i64 c), (54, .agg #[.int .i64 (getR t.R c 0), .int .i64 (getR t.R c 1), .int .i64 (getR t.R c 2)]), (55, .int .i64 (getR t.R c 0))])) 8 (.int .i64 (getR t.R c 0)) rfl (fun W hH => by kernel_rfl) hW ?_
    refine wpAnyH_all (rs := [9]) (by kernel_rfl) (by simp) ?_
    refine all_cons ?_ all_nil
    refine op_call rfl (rarith_is 5 (getR t.R b 0) (getR t.R c 0) (by omega) true rfl W7) (by kernel_rfl) (by kernel_rfl) ?_
    rintro _ W8 ⟨rfl, hB⟩
    have hW := hW.step hB
    refine ⟨_, (up (trl_b131 t a b c n g1 g3 g5 g1q8 g1q9) []), rfl, by kernel_rfl, ?_⟩
    refine ⟨hW, ?_⟩
    refine dk (a' := (up (trl_b131 t a b c n g1 g3 g5 g1q8 g1q9) [(46, .tuple #[.int .i64 ((arithF 5 (getR t.R b 0) (getR t.R c 0)).1), .bool true])])) 10 (.tuple #[.int .i64 ((arithF 5 (getR t.R b 0) (getR t.R c 0)).1), .bool true]) hW ?_
    refine de (a' := (up (trl_b131 t a b c n g1 g3 g5 g1q8 g1q9) [(46, .tuple #[.int .i64 ((arithF 5 (getR t.R b 0) (getR t.R c 0)).1), .bool true]), (57, .int .i64 ((arithF 5 (getR t.R b 0) (getR t.R c 0)).1))])) 11 (.int .i64 ((arithF 5 (getR t.R b 0) (getR t.R c 0)).1)) rfl (fun W hH => by kernel_rfl) hW ?_
    refine de (a' := (up (trl_b131 t a b c n g1 g3 g5 g1q8 g1q9) [(46, .tuple #[.int .i64 ((arithF 5 (getR t.R b 0) (getR t.R c 0)).1), .bool true]), (57, .int .i64 ((arithF 5 (getR t.R b 0) (getR t.R c 0)).1)), (58, .bool true)])) 12 (.bool true) rfl (fun W hH => by kernel_rfl) hW ?_
    refine dk (a' := (up (trl_b131 t a b c n g1 g3 g5 g1q8 g1q9) [(8, .int .i64 ((arithF 5 (getR t.R b 0) (getR t.R c 0)).1)), (46, .tuple #[.int .i64 ((arithF 5 (getR t.R b 0) (getR t.R c 0)).1), .bool true]), (57, .int .i64 ((arithF 5 (getR t.R b 0) (getR t.R c 0)).1)), (58, .bool true)])) 13 (.int .i64 ((arithF 5 (getR t.R b 0) (getR t.R c 0)).1)) hW ?_
    refine dk (a' := (up (trl_b131 t a b c n g1 g3 g5 g1q8 g1q9) [(8, .int .i64 ((arithF 5 (getR t.R b 0) (getR t.R c 0)).1)), (9, .bool true), (46, .tuple #[.int .i64 ((arithF 5 (getR t.R b 0) (getR t.R c 0)).1), .bool true]), (57, .int .i64 ((arithF 5 (getR t.R b 0) (getR t.R c 0)).1)), (58, .bool true)])) 14 (.bool true) hW ?_
    refine wpAnyH_done (by kernel_rfl) ?_ _
    refine wp_seq ?_
    refine wp_region_list ?_
    refine sk (a' := (up (trl_b135 t a b c n g1 g3 g5 g1q8 g1q9) [])) (.bool true) ?_
    refine wpList_nil ?_
    refine wp_cond (t := true) (by kernel_rfl) ?_
    refine wp_region_list ?_
    refine sep (.agg (trl_c0 t)) (evA hW 4 0 Try.underlying32) ?_
    refine skp (.pointer (some ⟨g3, 1, none⟩)) ?_
    refine se (a' := (up (trl_b135 t a b c n g1 g3 g5 g1q8 g1q9) [(60, .agg (trl_c0 t)), (61, .pointer (some ⟨g3, 1, none⟩)), (62, .int .i64 a)])) (.int .i64 a) (ev1 hW 3 1 Try.underlying3) ?_
    refine skp (.int .i64 ((arithF 5 (getR t.R b 0) (getR t.R c 0)).1)) ?_
    refine sk (a' := (up (trl_b135 t a b c n g1 g3 g5 g1q8 g1q9) [(60, .agg (trl_c0 t)), (61, .pointer (some ⟨g3, 1, none⟩)), (62, .int .i64 a), (63, .int .i64 ((arithF 5 (getR t.R b 0) (getR t.R c 0)).1)), (64, .agg #[.int .i64 ((arithF 5 (getR t.R b 0) (getR t.R c 0)).1), .int .i64 0, .int .i64 0])])) (.agg #[.int .i64 ((arithF 5 (getR t.R b 0) (getR t.R c 0)).1), .int .i64 0, .int .i64 0]) ?_
    have hK9_g1q9 : g1q9 < W8.heap.size := blk_lt (hW.blk 0 _ _ _ rfl).1
    have hK9_g1q8 : g1q8 < W8.heap.size := blk_lt (hW.blk 1 _ _ _ rfl).1
    have hK9_g5 : g5 < W8.heap.size := blk_lt (hW.blk 2 _ _ _ rfl).1
    have hK9_g3 : g3 < W8.heap.size := blk_lt (hW.blk 3 _ _ _ rfl).1
    have hK9_g1 : g1 < W8.heap.size := blk_lt (hW.blk 4 _ _ _ rfl).1
    have hK9_le : w.heap.size ≤ W8.heap.size := hW.below.size
    refine st_call (th_rSet (t := (⟨t.pc, t.fu, t.st, t.R, t.kd, t.mi, t.mn, t.sv, t.bv, t.nv, t.old⟩ : Th)) (xs := xs) (bs := bs) (ns := ns) ⟨h.s.below hW.below, h.b.below hW.below, h.n.below hW.below⟩ hl a ((arithF 5 (getR t.R b 0) (getR t.R c 0)).1) 0 0) (by kernel_rfl) (by kernel_rfl) ?_
    rintro _ W9 ⟨As9, cs9, Ab9, cb9, An9, cn9, rfl, hO9, hB⟩
    have hW := hW.step hB
    have hK9 := KeepUp.refl W8.heap.size W9
    obtain ⟨r9, e9⟩ : ∃ r : Rw, r = ⟨.slice As9 xs.length cs9, .slice Ab9 bs.length cb9, .slice An9 ns.length cn9⟩ := ⟨_, rfl⟩
    refine ⟨_, (up (trl_b139 t a b c n g1 g3 g5 g1q8 g1q9 r9) []), rfl, by (try subst e9); kernel_rfl, ?_⟩
    obtain ⟨W10, hr, hW, hF⟩ := hW.storeN (P := Try.prog) (o := 0) (cs' := (trl_c13 t a b c r9)) (L' := [(g1q9, 25, #[.int .i64 (getR t.R b 0), .int .i64 (getR t.R b 1), .int .i64 (getR t.R b 2)]), (g1q8, 25, #[.int .i64 (getR t.R a 0), .int .i64 (getR t.R a 1), .int .i64 (getR t.R a 2)]), (g5, 32, trl_c1), (g3, 45, #[.int .i64 5, .int .i64 a, .int .i64 b, .int .i64 c, .int .i64 n]), (g1, 32, (trl_c13 t a b c r9))]) 4 rfl (trl_c13 t a b c r9) (by (try subst e9); kernel_rfl) (Nat.le_of_ble_eq_true rfl) (by kernel_rfl) rfl 32 (by kernel_rfl)
    have hK9 := hK9.store hF (.inl hK9_g1)
    refine st_none (w' := W10) (a' := (up (trl_b139 t a b c n g1 g3 g5 g1q8 g1q9 r9) [])) (by kernel_rfl) (Eq.trans (b := (do Instr.storeAt 32 (.pointer (some ⟨g1, 0, none⟩)) (.agg (trl_c13 t a b c r9)); pure Next.skip : Sem Next).run Try.prog W9) (by kernel_rfl) (st_unit hr)) (by kernel_rfl) ?_
    refine wpList_nil ?_
    refine wp_seq ?_
    refine wp_region_list ?_
    refine se (a' := (up (trl_b139 t a b c n g1 g3 g5 g1q8 g1q9 r9) [(99, .agg (trl_c13 t a b c r9))])) (.agg (trl_c13 t a b c r9)) (evA hW 4 0 Try.underlying32) ?_
    have hK11_g1q9 : g1q9 < W10.heap.size := blk_lt (hW.blk 0 _ _ _ rfl).1
    have hK11_g1q8 : g1q8 < W10.heap.size := blk_lt (hW.blk 1 _ _ _ rfl).1
    have hK11_g5 : g5 < W10.heap.size := blk_lt (hW.blk 2 _ _ _ rfl).1
    have hK11_g3 : g3 < W10.heap.size := blk_lt (hW.blk 3 _ _ _ rfl).1
    have hK11_g1 : g1 < W10.heap.size := blk_lt (hW.blk 4 _ _ _ rfl).1
    have hK11_le : w.heap.size ≤ W10.heap.size := hW.below.size
    refine st_call (th_Copy (t := (⟨t.pc, t.fu, t.st, (setR t.R a ((arithF 5 (getR t.R b 0) (getR t.R c 0)).1) 0 0), t.kd, t.mi, t.mn, r9.s, r9.b, r9.n, t.old⟩ : Th)) (xs := xs) (bs := bs) (ns := ns) (by subst e9; exact ⟨(hO9.keep hK9).reads.s, (hO9.keep hK9).reads.b, (hO9.keep hK9).reads.n⟩) hl) (by kernel_rfl) (by kernel_rfl) ?_
    rintro _ W11 ⟨As11, cs11, Ab11, cb11, An11, cn11, rfl, hO11, hB⟩
    have hW := hW.step hB
    have hK9 := hK9.below hB
    have hK11 := KeepUp.refl W10.heap.size W11
    obtain ⟨r11, e11⟩ : ∃ r : Rw, r = ⟨.slice As11 xs.length cs11, .slice Ab11 bs.length cb11, .slice An11 ns.length cn11⟩ := ⟨_, rfl⟩
    refine ⟨_, (up (trl_b139 t a b c n g1 g3 g5 g1q8 g1q9 r9) [(99, .agg (trl_c13 t a b c r9)), (100, .agg (trl_c14 t a b c r11))]), rfl, by (try subst e9); (try subst e11); kernel_rfl, ?_⟩
    obtain ⟨W12, hr, hW, hF⟩ := hW.storeN (P := Try.prog) (o := 0) (cs' := (trl_c14 t a b c r11)) (L' := [(g1q9, 25, #[.int .i64 (getR t.R b 0), .int .i64 (getR t.R b 1), .int .i64 (getR t.R b 2)]), (g1q8, 25, #[.int .i64 (getR t.R a 0), .int .i64 (getR t.R a 1), .int .i64 (getR t.R a 2)]), (g5, 32, (trl_c14 t a b c r11)), (g3, 45, #[.int .i64 5, .int .i64 a, .int .i64 b, .int .i64 c, .int .i64 n]), (g1, 32, (trl_c13 t a b c r9))]) 2 rfl (trl_c14 t a b c r11) (by (try subst e9); (try subst e11); kernel_rfl) (Nat.le_of_ble_eq_true rfl) (by kernel_rfl) rfl 32 (by kernel_rfl)
    have hK9 := hK9.store hF (.inl hK9_g5)
    have hK11 := hK11.store hF (.inl hK11_g5)
    refine st_none (w' := W12) (a' := (up (trl_b139 t a b c n g1 g3 g5 g1q8 g1q9 r9) [(99, .agg (trl_c13 t a b c r9)), (100, .agg (trl_c14 t a b c r11))])) (by kernel_rfl) (Eq.trans (b := (do Instr.storeAt 32 (.pointer (some ⟨g5, 0, none⟩)) (.agg (trl_c14 t a b c r11)); pure Next.skip : Sem Next).run Try.prog W11) (by kernel_rfl) (st_unit hr)) (by kernel_rfl) ?_
    refine sk (a' := (up (trl_b139 t a b c n g1 g3 g5 g1q8 g1q9 r9) [(5, .bool true), (99, .agg (trl_c13 t a b c r9)), (100, .agg (trl_c14 t a b c r11))])) (.bool true) ?_
    refine wpList_nil ?_
    refine wp_ret ?_
    (try simp only [Exit.then, Exit.inBlock])
    change bodyPost Try.prog Try.f22 _ .ret _ _
    refine bodyPost_ret (results_ct rfl _ _ g5 32 _ (0, 0) _ (by kernel_rfl) (hW.blk 2 _ _ _ rfl).1 Try.underlying32 rfl (by kernel_rfl)) rfl ?_
    have hloc : localT t 5 a b c n = ({ t with R := setR t.R a (arithF 5 (getR t.R b 0) (getR t.R c 0)).1 0 0 }, true) := (by kernel_rfl)
    subst e11
    rw [hloc]
    exact ⟨As11, cs11, Ab11, cb11, An11, cn11, rfl, ⟨Kd.R_lower (hK11.R hO11.s) hK11_le, Kd.R_lower (hK11.R hO11.b) hK11_le, Kd.R_lower (hK11.R hO11.n) hK11_le⟩, hW.below⟩
  · skip
    refine wp_region_list ?_
    refine skp (.bool false) ?_
    refine sk (a' := (up (trl_b143 t a b c n g1 g3 g5 g1q8 g1q9) [(22, .bool false)])) (.bool false) ?_
    refine wpList_nil ?_
    refine wp_cond (t := false) (by kernel_rfl) ?_
    refine wp_seq ?_
    refine wp_region_list ?_
    refine skp (.bool false) ?_
    refine sk (a' := (up (trl_b143 t a b c n g1 g3 g5 g1q8 g1q9) [(22, .bool false), (25, .bool false), (26, .bool false)])) (.bool false) ?_
    refine wpList_nil ?_
    refine wp_cond (t := false) (by kernel_rfl) ?_
    refine wp_seq ?_
    refine wp_region_list ?_
    refine skp (.bool false) ?_
    refine sk (a' := (up (trl_b143 t a b c n g1 g3 g5 g1q8 g1q9) [(22, .bool false), (25, .bool false), (26, .bool false), (34, .bool false), (35, .bool false)])) (.bool false) ?_
    refine wpList_nil ?_
    refine wp_cond (t := false) (by kernel_rfl) ?_
    refine wp_seq ?_
    refine wp_seq ?_
    refine wp_region_list ?_
    refine skp (.bool false) ?_
    refine sk (a' := (up (trl_b145 t a b c n g1 g3 g5 g1q8 g1q9) [(41, .bool false)])) (.bool false) ?_
    refine wpList_nil ?_
    refine wp_cond (t := false) (by kernel_rfl) ?_
    refine wp_seq ?_
    refine wp_region_list ?_
    refine skp (.bool false) ?_
    refine sk (a' := (up (trl_b145 t a b c n g1 g3 g5 g1q8 g1q9) [(41, .bool false), (43, .bool false)])) (.bool false) ?_
    refine wpList_nil ?_
    refine wp_cond (t := false) (by kernel_rfl) ?_
    refine wp_seq ?_
    refine wp_region_list ?_
    refine skp (.bool true) ?_
    refine sk (a' := (up (trl_b145 t a b c n g1 g3 g5 g1q8 g1q9) [(41, .bool true), (43, .bool false), (44, .bool true)])) (.bool true) ?_
    refine wpList_nil ?_
    refine wp_cond (t := true) (by kernel_rfl) ?_
    refine wp_skip ?_
    refine wp_cond (t := true) (by kernel_rfl) ?_
    refine wp_seq ?_
    have hW := hW.drew
    refine wp_region_held_drew (S := fun W => Ws w W [(g1q9, 25, #[.int .i64 (getR t.R b 0), .int .i64 (getR t.R b 1), .int .i64 (getR t.R b 2)]), (g1q8, 25, #[.int .i64 (getR t.R a 0), .int .i64 (getR t.R a 1), .int .i64 (getR t.R a 2)]), (g5, 32, trl_c1), (g3, 45, #[.int .i64 6, .int .i64 a, .int .i64 b, .int .i64 c, .int .i64 n]), (g1, 32, (trl_c0 t))]) (by kernel_rfl) hW (fun _ => ?_)
    refine dk (a' := (up (trl_b145 t a b c n g1 g3 g5 g1q8 g1q9) [(41, .bool true), (43, .bool false), (44, .bool true), (47, .pointer (some ⟨g3, 0, none⟩))])) 0 (.pointer (some ⟨g3, 0, none⟩)) hW ?_
    refine de (a' := (up (trl_b145 t a b c n g1 g3 g5 g1q8 g1q9) [(41, .bool true), (43, .bool false), (44, .bool true), (47, .pointer (some ⟨g3, 0, none⟩)), (48, .int .i64 6)])) 1 (.int .i64 6) rfl (fun W hH => (ev1 hH 3 0 Try.underlying3)) hW ?_
    refine dk (a' := (up (trl_b148 t a b c n g1 g3 g5 g1q8 g1q9) [])) 2 (.pointer (some ⟨g1q9, 0, none⟩)) hW ?_
    refine de (a' := (up (trl_b148 t a b c n g1 g3 g5 g1q8 g1q9) [(50, .int .i64 (getR t.R b 0))])) 3 (.int .i64 (getR t.R b 0)) rfl (fun W hH => (ev1 hH 0 0 Try.underlying2)) hW ?_
    refine de (a' := (up (trl_b148 t a b c n g1 g3 g5 g1q8 g1q9) [(50, .int .i64 (getR t.R b 0)), (51, .agg (trl_c0 t))])) 4 (.agg (trl_c0 t)) rfl (fun W hH => (evA hH 4 0 Try.underlying32)) hW ?_
    refine dk (a' := (up (trl_b148 t a b c n g1 g3 g5 g1q8 g1q9) [(50, .int .i64 (getR t.R b 0)), (51, .agg (trl_c0 t)), (52, .pointer (some ⟨g3, 3, none⟩))])) 5 (.pointer (some ⟨g3, 3, none⟩)) hW ?_
    refine de (a' := (up (trl_b148 t a b c n g1 g3 g5 g1q8 g1q9) [(50, .int .i64 (getR t.R b 0)), (51, .agg (trl_c0 t)), (52, .pointer (some ⟨g3, 3, none⟩)), (53, .int .i64 c)])) 6 (.int .i64 c) rfl (fun W hH => (ev1 hH 3 3 Try.underlying3)) hW ?_
    refine wpAnyH_all (rs := [7]) (by kernel_rfl) (by simp) ?_
    refine all_cons ?_ all_nil
    refine op_call rfl (th_rGet (⟨t.pc, t.fu, t.st, t.R, t.kd, t.mi, t.mn, t.sv, t.bv, t.nv, t.old⟩ : Th) c Wm1.drew) (by kernel_rfl) (by kernel_rfl) ?_
    rintro _ W7 ⟨rfl, hB⟩
    have hW := hW.step hB
    refine ⟨_, (up (trl_b148 t a b c n g1 g3 g5 g1q8 g1q9) [(50, .int .i64 (getR t.R b 0)), (51, .agg (trl_c0 t)), (52, .pointer (some ⟨g3, 3, none⟩)), (53, .int .i64 c), (54, .agg #[.int .i64 (getR t.R c 0), .int .i64 (getR t.R c 1), .int .i64 (getR t.R c 2)])]), rfl, by kernel_rfl, ?_⟩
    refine ⟨hW, ?_⟩
    refine de (a' := (up (trl_b150 t a b c n g1 g3 g5 g1q8 g1q9) [])) 8 (.int .i64 (getR t.R c 0)) rfl (fun W hH => by kernel_rfl) hW ?_
    refine wpAnyH_all (rs := [9]) (by kernel_rfl) (by simp) ?_
    refine all_cons ?_ all_nil
    refine op_call rfl (rarith_is 6 (getR t.R b 0) (getR t.R c 0) (by omega) true rfl W7) (by kernel_rfl) (by kernel_rfl) ?_
    rintro _ W8 ⟨rfl, hB⟩
    have hW := hW.step hB
    refine ⟨_, (up (trl_b150 t a b c n g1 g3 g5 g1q8 g1q9) [(56, .tuple #[.int .i64 ((arithF 6 (getR t.R b 0) (getR t.R c 0)).1), .bool true])]), rfl, by kernel_rfl, ?_⟩
    refine ⟨hW, ?_⟩
    refine dk (a' := (up (trl_b150 t a b c n g1 g3 g5 g1q8 g1q9) [(46, .tuple #[.int .i64 ((arithF 6 (getR t.R b 0) (getR t.R c 0)).1), .bool true]), (56, .tuple #[.int .i64 ((arithF 6 (getR t.R b 0) (getR t.R c 0)).1), .bool true])])) 10 (.tuple #[.int .i64 ((arithF 6 (getR t.R b 0) (getR t.R c 0)).1), .bool true]) hW ?_
    refine de (a' := (up (trl_b150 t a b c n g1 g3 g5 g1q8 g1q9) [(46, .tuple #[.int .i64 ((arithF 6 (getR t.R b 0) (getR t.R c 0)).1), .bool true]), (56, .tuple #[.int .i64 ((arithF 6 (getR t.R b 0) (getR t.R c 0)).1), .bool true]), (57, .int .i64 ((arithF 6 (getR t.R b 0) (getR t.R c 0)).1))])) 11 (.int .i64 ((arithF 6 (getR t.R b 0) (getR t.R c 0)).1)) rfl (fun W hH => by kernel_rfl) hW ?_
    refine de (a' := (up (trl_b150 t a b c n g1 g3 g5 g1q8 g1q9) [(46, .tuple #[.int .i64 ((arithF 6 (getR t.R b 0) (getR t.R c 0)).1), .bool true]), (56, .tuple #[.int .i64 ((arithF 6 (getR t.R b 0) (getR t.R c 0)).1), .bool true]), (57, .int .i64 ((arithF 6 (getR t.R b 0) (getR t.R c 0)).1)), (58, .bool true)])) 12 (.bool true) rfl (fun W hH => by kernel_rfl) hW ?_
    refine dk (a' := (up (trl_b150 t a b c n g1 g3 g5 g1q8 g1q9) [(8, .int .i64 ((arithF 6 (getR t.R b 0) (getR t.R c 0)).1)), (46, .tuple #[.int .i64 ((arithF 6 (getR t.R b 0) (getR t.R c 0)).1), .bool true]), (56, .tuple #[.int .i64 ((arithF 6 (getR t.R b 0) (getR t.R c 0)).1), .bool true]), (57, .int .i64 ((arithF 6 (getR t.R b 0) (getR t.R c 0)).1)), (58, .bool true)])) 13 (.int .i64 ((arithF 6 (getR t.R b 0) (getR t.R c 0)).1)) hW ?_
    refine dk (a' := (up (trl_b154 t a b c n g1 g3 g5 g1q8 g1q9) [])) 14 (.bool true) hW ?_
    refine wpAnyH_done (by kernel_rfl) ?_ _
    refine wp_seq ?_
    refine wp_region_list ?_
    refine sk (a' := (up (trl_b154 t a b c n g1 g3 g5 g1q8 g1q9) [(59, .bool true)])) (.bool true) ?_
    refine wpList_nil ?_
    refine wp_cond (t := true) (by kernel_rfl) ?_
    refine wp_region_list ?_
    refine sep (.agg (trl_c0 t)) (evA hW 4 0 Try.underlying32) ?_
    refine skp (.pointer (some ⟨g3, 1, none⟩)) ?_
    refine se (a' := (up (trl_b154 t a b c n g1 g3 g5 g1q8 g1q9) [(59, .bool true), (60, .agg (trl_c0 t)), (61, .pointer (some ⟨g3, 1, none⟩)), (62, .int .i64 a)])) (.int .i64 a) (ev1 hW 3 1 Try.underlying3) ?_
    refine skp (.int .i64 ((arithF 6 (getR t.R b 0) (getR t.R c 0)).1)) ?_
    refine sk (a' := (up (trl_b157 t a b c n g1 g3 g5 g1q8 g1q9) [])) (.agg #[.int .i64 ((arithF 6 (getR t.R b 0) (getR t.R c 0)).1), .int .i64 0, .int .i64 0]) ?_
    have hK9_g1q9 : g1q9 < W8.heap.size := blk_lt (hW.blk 0 _ _ _ rfl).1
    have hK9_g1q8 : g1q8 < W8.heap.size := blk_lt (hW.blk 1 _ _ _ rfl).1
    have hK9_g5 : g5 < W8.heap.size := blk_lt (hW.blk 2 _ _ _ rfl).1
    have hK9_g3 : g3 < W8.heap.size := blk_lt (hW.blk 3 _ _ _ rfl).1
    have hK9_g1 : g1 < W8.heap.size := blk_lt (hW.blk 4 _ _ _ rfl).1
    have hK9_le : w.heap.size ≤ W8.heap.size := hW.below.size
    refine st_call (th_rSet (t := (⟨t.pc, t.fu, t.st, t.R, t.kd, t.mi, t.mn, t.sv, t.bv, t.nv, t.old⟩ : Th)) (xs := xs) (bs := bs) (ns := ns) ⟨h.s.below hW.below, h.b.below hW.below, h.n.below hW.below⟩ hl a ((arithF 6 (getR t.R b 0) (getR t.R c 0)).1) 0 0) (by kernel_rfl) (by kernel_rfl) ?_
    rintro _ W9 ⟨As9, cs9, Ab9, cb9, An9, cn9, rfl, hO9, hB⟩
    have hW := hW.step hB
    have hK9 := KeepUp.refl W8.heap.size W9
    obtain ⟨r9, e9⟩ : ∃ r : Rw, r = ⟨.slice As9 xs.length cs9, .slice Ab9 bs.length cb9, .slice An9 ns.length cn9⟩ := ⟨_, rfl⟩
    refine ⟨_, (up (trl_b157 t a b c n g1 g3 g5 g1q8 g1q9) [(65, .agg (trl_c15 t a b c r9))]), rfl, by (try subst e9); kernel_rfl, ?_⟩
    obtain ⟨W10, hr, hW, hF⟩ := hW.storeN (P := Try.prog) (o := 0) (cs' := (trl_c15 t a b c r9)) (L' := [(g1q9, 25, #[.int .i64 (getR t.R b 0), .int .i64 (getR t.R b 1), .int .i64 (getR t.R b 2)]), (g1q8, 25, #[.int .i64 (getR t.R a 0), .int .i64 (getR t.R a 1), .int .i64 (getR t.R a 2)]), (g5, 32, trl_c1), (g3, 45, #[.int .i64 6, .int .i64 a, .int .i64 b, .int .i64 c, .int .i64 n]), (g1, 32, (trl_c15 t a b c r9))]) 4 rfl (trl_c15 t a b c r9) (by (try subst e9); kernel_rfl) (Nat.le_of_ble_eq_true rfl) (by kernel_rfl) rfl 32 (by kernel_rfl)
    have hK9 := hK9.store hF (.inl hK9_g1)
    refine st_none (w' := W10) (a' := (up (trl_b157 t a b c n g1 g3 g5 g1q8 g1q9) [(65, .agg (trl_c15 t a b c r9))])) (by kernel_rfl) (Eq.trans (b := (do Instr.storeAt 32 (.pointer (some ⟨g1, 0, none⟩)) (.agg (trl_c15 t a b c r9)); pure Next.skip : Sem Next).run Try.prog W9) (by kernel_rfl) (st_unit hr)) (by kernel_rfl) ?_
    refine wpList_nil ?_
    refine wp_seq ?_
    refine wp_region_list ?_
    refine se (a' := (up (trl_b157 t a b c n g1 g3 g5 g1q8 g1q9) [(65, .agg (trl_c15 t a b c r9)), (99, .agg (trl_c15 t a b c r9))])) (.agg (trl_c15 t a b c r9)) (evA hW 4 0 Try.underlying32) ?_
    have hK11_g1q9 : g1q9 < W10.heap.size := blk_lt (hW.blk 0 _ _ _ rfl).1
    have hK11_g1q8 : g1q8 < W10.heap.size := blk_lt (hW.blk 1 _ _ _ rfl).1
    have hK11_g5 : g5 < W10.heap.size := blk_lt (hW.blk 2 _ _ _ rfl).1
    have hK11_g3 : g3 < W10.heap.size := blk_lt (hW.blk 3 _ _ _ rfl).1
    have hK11_g1 : g1 < W10.heap.size := blk_lt (hW.blk 4 _ _ _ rfl).1
    have hK11_le : w.heap.size ≤ W10.heap.size := hW.below.size
    refine st_call (th_Copy (t := (⟨t.pc, t.fu, t.st, (setR t.R a ((arithF 6 (getR t.R b 0) (getR t.R c 0)).1) 0 0), t.kd, t.mi, t.mn, r9.s, r9.b, r9.n, t.old⟩ : Th)) (xs := xs) (bs := bs) (ns := ns) (by subst e9; exact ⟨(hO9.keep hK9).reads.s, (hO9.keep hK9).reads.b, (hO9.keep hK9).reads.n⟩) hl) (by kernel_rfl) (by kernel_rfl) ?_
    rintro _ W11 ⟨As11, cs11, Ab11, cb11, An11, cn11, rfl, hO11, hB⟩
    have hW := hW.step hB
    have hK9 := hK9.below hB
    have hK11 := KeepUp.refl W10.heap.size W11
    obtain ⟨r11, e11⟩ : ∃ r : Rw, r = ⟨.slice As11 xs.length cs11, .slice Ab11 bs.length cb11, .slice An11 ns.length cn11⟩ := ⟨_, rfl⟩
    refine ⟨_, (up (trl_b157 t a b c n g1 g3 g5 g1q8 g1q9) [(65, .agg (trl_c15 t a b c r9)), (99, .agg (trl_c15 t a b c r9)), (100, .agg (trl_c16 t a b c r11))]), rfl, by (try subst e9); (try subst e11); kernel_rfl, ?_⟩
    obtain ⟨W12, hr, hW, hF⟩ := hW.storeN (P := Try.prog) (o := 0) (cs' := (trl_c16 t a b c r11)) (L' := [(g1q9, 25, #[.int .i64 (getR t.R b 0), .int .i64 (getR t.R b 1), .int .i64 (getR t.R b 2)]), (g1q8, 25, #[.int .i64 (getR t.R a 0), .int .i64 (getR t.R a 1), .int .i64 (getR t.R a 2)]), (g5, 32, (trl_c16 t a b c r11)), (g3, 45, #[.int .i64 6, .int .i64 a, .int .i64 b, .int .i64 c, .int .i64 n]), (g1, 32, (trl_c15 t a b c r9))]) 2 rfl (trl_c16 t a b c r11) (by (try subst e9); (try subst e11); kernel_rfl) (Nat.le_of_ble_eq_true rfl) (by kernel_rfl) rfl 32 (by kernel_rfl)
    have hK9 := hK9.store hF (.inl hK9_g5)
    have hK11 := hK11.store hF (.inl hK11_g5)
    refine st_none (w' := W12) (a' := (up (trl_b157 t a b c n g1 g3 g5 g1q8 g1q9) [(65, .agg (trl_c15 t a b c r9)), (99, .agg (trl_c15 t a b c r9)), (100, .agg (trl_c16 t a b c r11))])) (by kernel_rfl) (Eq.trans (b := (do Instr.storeAt 32 (.pointer (some ⟨g5, 0, none⟩)) (.agg (trl_c16 t a b c r11)); pure Next.skip : Sem Next).run Try.prog W11) (by kernel_rfl) (st_unit hr)) (by kernel_rfl) ?_
    refine sk (a' := (up (trl_b157 t a b c n g1 g3 g5 g1q8 g1q9) [(5, .bool true), (65, .agg (trl_c15 t a b c r9)), (99, .agg (trl_c15 t a b c r9)), (100, .agg (trl_c16 t a b c r11))])) (.bool true) ?_
    refine wpList_nil ?_
    refine wp_ret ?_
    (try simp only [Exit.then, Exit.inBlock])
    change bodyPost Try.prog Try.f22 _ .ret _ _
    refine bodyPost_ret (results_ct rfl _ _ g5 32 _ (0, 0) _ (by kernel_rfl) (hW.blk 2 _ _ _ rfl).1 Try.underlying32 rfl (by kernel_rfl)) rfl ?_
    have hloc : localT t 6 a b c n = ({ t with R := setR t.R a (arithF 6 (getR t.R b 0) (getR t.R c 0)).1 0 0 }, true) := (by kernel_rfl)
    subst e11
    rw [hloc]
    exact ⟨As11, cs11, Ab11, cb11, An11, cn11, rfl, ⟨Kd.R_lower (hK11.R hO11.s) hK11_le, Kd.R_lower (hK11.R hO11.b) hK11_le, Kd.R_lower (hK11.R hO11.n) hK11_le⟩, hW.below⟩
  · skip
    refine wp_region_list ?_
    refine skp (.bool false) ?_
    refine sk (a' := (up (trl_b162 t a b c n g1 g3 g5 g1q8 g1q9) [(22, .bool false)])) (.bool false) ?_
    refine wpList_nil ?_
    refine wp_cond (t := false) (by kernel_rfl) ?_
    refine wp_seq ?_
    refine wp_region_list ?_
    refine skp (.bool false) ?_
    refine sk (a' := (up (trl_b162 t a b c n g1 g3 g5 g1q8 g1q9) [(22, .bool false), (25, .bool false), (26, .bool false)])) (.bool false) ?_
    refine wpList_nil ?_
    refine wp_cond (t := false) (by kernel_rfl) ?_
    refine wp_seq ?_
    refine wp_region_list ?_
    refine skp (.bool false) ?_
    refine sk (a' := (up (trl_b162 t a b c n g1 g3 g5 g1q8 g1q9) [(22, .bool false), (25, .bool false), (26, .bool false), (34, .bool false), (35, .bool false)])) (.bool false) ?_
    refine wpList_nil ?_
    refine wp_cond (t := false) (by kernel_rfl) ?_
    refine wp_seq ?_
    refine wp_seq ?_
    refine wp_region_list ?_
    refine skp (.bool false) ?_
    refine sk (a' := (up (trl_b164 t a b c n g1 g3 g5 g1q8 g1q9) [(41, .bool false)])) (.bool false) ?_
    refine wpList_nil ?_
    refine wp_cond (t := false) (by kernel_rfl) ?_
    refine wp_seq ?_
    refine wp_region_list ?_
    refine skp (.bool false) ?_
    refine sk (a' := (up (trl_b164 t a b c n g1 g3 g5 g1q8 g1q9) [(41, .bool false), (43, .bool false)])) (.bool false) ?_
    refine wpList_nil ?_
    refine wp_cond (t := false) (by kernel_rfl) ?_
    refine wp_seq ?_
    refine wp_region_list ?_
    refine skp (.bool false) ?_
    refine sk (a' := (up (trl_b164 t a b c n g1 g3 g5 g1q8 g1q9) [(41, .bool false), (43, .bool false), (44, .bool false)])) (.bool false) ?_
    refine wpList_nil ?_
    refine wp_cond (t := false) (by kernel_rfl) ?_
    refine wp_region_list ?_
    refine skp (.bool true) ?_
    refine sk (a' := (up (trl_b164 t a b c n g1 g3 g5 g1q8 g1q9) [(41, .bool true), (43, .bool false), (44, .bool false), (45, .bool true)])) (.bool true) ?_
    refine wpList_nil ?_
    refine wp_cond (t := true) (by kernel_rfl) ?_
    refine wp_seq ?_
    have hW := hW.drew
    refine wp_region_held_drew (S := fun W => Ws w W [(g1q9, 25, #[.int .i64 (getR t.R b 0), .int .i64 (getR t.R b 1), .int .i64 (getR t.R b 2)]), (g1q8, 25, #[.int .i64 (getR t.R a 0), .int .i64 (getR t.R a 1), .int .i64 (getR t.R a 2)]), (g5, 32, trl_c1), (g3, 45, #[.int .i64 7, .int .i64 a, .int .i64 b, .int .i64 c, .int .i64 n]), (g1, 32, (trl_c0 t))]) (by kernel_rfl) hW (fun _ => ?_)
    refine dk (a' := (up (trl_b164 t a b c n g1 g3 g5 g1q8 g1q9) [(41, .bool true), (43, .bool false), (44, .bool false), (45, .bool true), (47, .pointer (some ⟨g3, 0, none⟩))])) 0 (.pointer (some ⟨g3, 0, none⟩)) hW ?_
    refine de (a' := (up (trl_b167 t a b c n g1 g3 g5 g1q8 g1q9) [])) 1 (.int .i64 7) rfl (fun W hH => (ev1 hH 3 0 Try.underlying3)) hW ?_
    refine dk (a' := (up (trl_b167 t a b c n g1 g3 g5 g1q8 g1q9) [(49, .pointer (some ⟨g1q9, 0, none⟩))])) 2 (.pointer (some ⟨g1q9, 0, none⟩)) hW ?_
    refine de (a' := (up (trl_b167 t a b c n g1 g3 g5 g1q8 g1q9) [(49, .pointer (some ⟨g1q9, 0, none⟩)), (50, .int .i64 (getR t.R b 0))])) 3 (.int .i64 (getR t.R b 0)) rfl (fun W hH => (ev1 hH 0 0 Try.underlying2)) hW ?_
    refine de (a' := (up (trl_b167 t a b c n g1 g3 g5 g1q8 g1q9) [(49, .pointer (some ⟨g1q9, 0, none⟩)), (50, .int .i64 (getR t.R b 0)), (51, .agg (trl_c0 t))])) 4 (.agg (trl_c0 t)) rfl (fun W hH => (evA hH 4 0 Try.underlying32)) hW ?_
    refine dk (a' := (up (trl_b167 t a b c n g1 g3 g5 g1q8 g1q9) [(49, .pointer (some ⟨g1q9, 0, none⟩)), (50, .int .i64 (getR t.R b 0)), (51, .agg (trl_c0 t)), (52, .pointer (some ⟨g3, 3, none⟩))])) 5 (.pointer (some ⟨g3, 3, none⟩)) hW ?_
    refine de (a' := (up (trl_b167 t a b c n g1 g3 g5 g1q8 g1q9) [(49, .pointer (some ⟨g1q9, 0, none⟩)), (50, .int .i64 (getR t.R b 0)), (51, .agg (trl_c0 t)), (52, .pointer (some ⟨g3, 3, none⟩)), (53, .int .i64 c)])) 6 (.int .i64 c) rfl (fun W hH => (ev1 hH 3 3 Try.underlying3)) hW ?_
    refine wpAnyH_all (rs := [7]) (by kernel_rfl) (by simp) ?_
    refine all_cons ?_ all_nil
    refine op_call rfl (th_rGet (⟨t.pc, t.fu, t.st, t.R, t.kd, t.mi, t.mn, t.sv, t.bv, t.nv, t.old⟩ : Th) c Wm1.drew) (by kernel_rfl) (by kernel_rfl) ?_
    rintro _ W7 ⟨rfl, hB⟩
    have hW := hW.step hB
    refine ⟨_, (up (trl_b169 t a b c n g1 g3 g5 g1q8 g1q9) []), rfl, by kernel_rfl, ?_⟩
    refine ⟨hW, ?_⟩
    refine de (a' := (up (trl_b169 t a b c n g1 g3 g5 g1q8 g1q9) [(55, .int .i64 (getR t.R c 0))])) 8 (.int .i64 (getR t.R c 0)) rfl (fun W hH => by kernel_rfl) hW ?_
    refine wpAnyH_all (rs := [9]) (by kernel_rfl) (by simp) ?_
    refine all_cons ?_ all_nil
    refine op_call rfl (rarith_is 7 (getR t.R b 0) (getR t.R c 0) (by omega) true hz W7) (by kernel_rfl) (by kernel_rfl) ?_
    rintro _ W8 ⟨rfl, hB⟩
    have hW := hW.step hB
    refine ⟨_, (up (trl_b169 t a b c n g1 g3 g5 g1q8 g1q9) [(55, .int .i64 (getR t.R c 0)), (56, .tuple #[.int .i64 ((arithF 7 (getR t.R b 0) (getR t.R c 0)).1), .bool true])]), rfl, by kernel_rfl, ?_⟩
    refine ⟨hW, ?_⟩
    refine dk (a' := (up (trl_b169 t a b c n g1 g3 g5 g1q8 g1q9) [(46, .tuple #[.int .i64 ((arithF 7 (getR t.R b 0) (getR t.R c 0)).1), .bool true]), (55, .int .i64 (getR t.R c 0)), (56, .tuple #[.int .i64 ((arithF 7 (getR t.R b 0) (getR t.R c 0)).1), .bool true])])) 10 (.tuple #[.int .i64 ((arithF 7 (getR t.R b 0) (getR t.R c 0)).1), .bool true]) hW ?_
    refine de (a' := (up (trl_b169 t a b c n g1 g3 g5 g1q8 g1q9) [(46, .tuple #[.int .i64 ((arithF 7 (getR t.R b 0) (getR t.R c 0)).1), .bool true]), (55, .int .i64 (getR t.R c 0)), (56, .tuple #[.int .i64 ((arithF 7 (getR t.R b 0) (getR t.R c 0)).1), .bool true]), (57, .int .i64 ((arithF 7 (getR t.R b 0) (getR t.R c 0)).1))])) 11 (.int .i64 ((arithF 7 (getR t.R b 0) (getR t.R c 0)).1)) rfl (fun W hH => by kernel_rfl) hW ?_
    refine de (a' := (up (trl_b169 t a b c n g1 g3 g5 g1q8 g1q9) [(46, .tuple #[.int .i64 ((arithF 7 (getR t.R b 0) (getR t.R c 0)).1), .bool true]), (55, .int .i64 (getR t.R c 0)), (56, .tuple #[.int .i64 ((arithF 7 (getR t.R b 0) (getR t.R c 0)).1), .bool true]), (57, .int .i64 ((arithF 7 (getR t.R b 0) (getR t.R c 0)).1)), (58, .bool true)])) 12 (.bool true) rfl (fun W hH => by kernel_rfl) hW ?_
    refine dk (a' := (up (trl_b173 t a b c n g1 g3 g5 g1q8 g1q9) [])) 13 (.int .i64 ((arithF 7 (getR t.R b 0) (getR t.R c 0)).1)) hW ?_
    refine dk (a' := (up (trl_b173 t a b c n g1 g3 g5 g1q8 g1q9) [(9, .bool true)])) 14 (.bool true) hW ?_
    refine wpAnyH_done (by kernel_rfl) ?_ _
    refine wp_seq ?_
    refine wp_region_list ?_
    refine sk (a' := (up (trl_b173 t a b c n g1 g3 g5 g1q8 g1q9) [(9, .bool true), (59, .bool true)])) (.bool true) ?_
    refine wpList_nil ?_
    refine wp_cond (t := true) (by kernel_rfl) ?_
    refine wp_region_list ?_
    refine sep (.agg (trl_c0 t)) (evA hW 4 0 Try.underlying32) ?_
    refine skp (.pointer (some ⟨g3, 1, none⟩)) ?_
    refine se (a' := (up (trl_b173 t a b c n g1 g3 g5 g1q8 g1q9) [(9, .bool true), (59, .bool true), (60, .agg (trl_c0 t)), (61, .pointer (some ⟨g3, 1, none⟩)), (62, .int .i64 a)])) (.int .i64 a) (ev1 hW 3 1 Try.underlying3) ?_
    refine skp (.int .i64 ((arithF 7 (getR t.R b 0) (getR t.R c 0)).1)) ?_
    refine sk (a' := (up (trl_b176 t a b c n g1 g3 g5 g1q8 g1q9) [(64, .agg #[.int .i64 ((arithF 7 (getR t.R b 0) (getR t.R c 0)).1), .int .i64 0, .int .i64 0])])) (.agg #[.int .i64 ((arithF 7 (getR t.R b 0) (getR t.R c 0)).1), .int .i64 0, .int .i64 0]) ?_
    have hK9_g1q9 : g1q9 < W8.heap.size := blk_lt (hW.blk 0 _ _ _ rfl).1
    have hK9_g1q8 : g1q8 < W8.heap.size := blk_lt (hW.blk 1 _ _ _ rfl).1
    have hK9_g5 : g5 < W8.heap.size := blk_lt (hW.blk 2 _ _ _ rfl).1
    have hK9_g3 : g3 < W8.heap.size := blk_lt (hW.blk 3 _ _ _ rfl).1
    have hK9_g1 : g1 < W8.heap.size := blk_lt (hW.blk 4 _ _ _ rfl).1
    have hK9_le : w.heap.size ≤ W8.heap.size := hW.below.size
    refine st_call (th_rSet (t := (⟨t.pc, t.fu, t.st, t.R, t.kd, t.mi, t.mn, t.sv, t.bv, t.nv, t.old⟩ : Th)) (xs := xs) (bs := bs) (ns := ns) ⟨h.s.below hW.below, h.b.below hW.below, h.n.below hW.below⟩ hl a ((arithF 7 (getR t.R b 0) (getR t.R c 0)).1) 0 0) (by kernel_rfl) (by kernel_rfl) ?_
    rintro _ W9 ⟨As9, cs9, Ab9, cb9, An9, cn9, rfl, hO9, hB⟩
    have hW := hW.step hB
    have hK9 := KeepUp.refl W8.heap.size W9
    obtain ⟨r9, e9⟩ : ∃ r : Rw, r = ⟨.slice As9 xs.length cs9, .slice Ab9 bs.length cb9, .slice An9 ns.length cn9⟩ := ⟨_, rfl⟩
    refine ⟨_, (up (trl_b176 t a b c n g1 g3 g5 g1q8 g1q9) [(64, .agg #[.int .i64 ((arithF 7 (getR t.R b 0) (getR t.R c 0)).1), .int .i64 0, .int .i64 0]), (65, .agg (trl_c17 t a b c r9))]), rfl, by (try subst e9); kernel_rfl, ?_⟩
    obtain ⟨W10, hr, hW, hF⟩ := hW.storeN (P := Try.prog) (o := 0) (cs' := (trl_c17 t a b c r9)) (L' := [(g1q9, 25, #[.int .i64 (getR t.R b 0), .int .i64 (getR t.R b 1), .int .i64 (getR t.R b 2)]), (g1q8, 25, #[.int .i64 (getR t.R a 0), .int .i64 (getR t.R a 1), .int .i64 (getR t.R a 2)]), (g5, 32, trl_c1), (g3, 45, #[.int .i64 7, .int .i64 a, .int .i64 b, .int .i64 c, .int .i64 n]), (g1, 32, (trl_c17 t a b c r9))]) 4 rfl (trl_c17 t a b c r9) (by (try subst e9); kernel_rfl) (Nat.le_of_ble_eq_true rfl) (by kernel_rfl) rfl 32 (by kernel_rfl)
    have hK9 := hK9.store hF (.inl hK9_g1)
    refine st_none (w' := W10) (a' := (up (trl_b176 t a b c n g1 g3 g5 g1q8 g1q9) [(64, .agg #[.int .i64 ((arithF 7 (getR t.R b 0) (getR t.R c 0)).1), .int .i64 0, .int .i64 0]), (65, .agg (trl_c17 t a b c r9))])) (by kernel_rfl) (Eq.trans (b := (do Instr.storeAt 32 (.pointer (some ⟨g1, 0, none⟩)) (.agg (trl_c17 t a b c r9)); pure Next.skip : Sem Next).run Try.prog W9) (by kernel_rfl) (st_unit hr)) (by kernel_rfl) ?_
    refine wpList_nil ?_
    refine wp_seq ?_
    refine wp_region_list ?_
    refine se (a' := (up (trl_b176 t a b c n g1 g3 g5 g1q8 g1q9) [(64, .agg #[.int .i64 ((arithF 7 (getR t.R b 0) (getR t.R c 0)).1), .int .i64 0, .int .i64 0]), (65, .agg (trl_c17 t a b c r9)), (99, .agg (trl_c17 t a b c r9))])) (.agg (trl_c17 t a b c r9)) (evA hW 4 0 Try.underlying32) ?_
    have hK11_g1q9 : g1q9 < W10.heap.size := blk_lt (hW.blk 0 _ _ _ rfl).1
    have hK11_g1q8 : g1q8 < W10.heap.size := blk_lt (hW.blk 1 _ _ _ rfl).1
    have hK11_g5 : g5 < W10.heap.size := blk_lt (hW.blk 2 _ _ _ rfl).1
    have hK11_g3 : g3 < W10.heap.size := blk_lt (hW.blk 3 _ _ _ rfl).1
    have hK11_g1 : g1 < W10.heap.size := blk_lt (hW.blk 4 _ _ _ rfl).1
    have hK11_le : w.heap.size ≤ W10.heap.size := hW.below.size
    refine st_call (th_Copy (t := (⟨t.pc, t.fu, t.st, (setR t.R a ((arithF 7 (getR t.R b 0) (getR t.R c 0)).1) 0 0), t.kd, t.mi, t.mn, r9.s, r9.b, r9.n, t.old⟩ : Th)) (xs := xs) (bs := bs) (ns := ns) (by subst e9; exact ⟨(hO9.keep hK9).reads.s, (hO9.keep hK9).reads.b, (hO9.keep hK9).reads.n⟩) hl) (by kernel_rfl) (by kernel_rfl) ?_
    rintro _ W11 ⟨As11, cs11, Ab11, cb11, An11, cn11, rfl, hO11, hB⟩
    have hW := hW.step hB
    have hK9 := hK9.below hB
    have hK11 := KeepUp.refl W10.heap.size W11
    obtain ⟨r11, e11⟩ : ∃ r : Rw, r = ⟨.slice As11 xs.length cs11, .slice Ab11 bs.length cb11, .slice An11 ns.length cn11⟩ := ⟨_, rfl⟩
    refine ⟨_, (up (trl_b176 t a b c n g1 g3 g5 g1q8 g1q9) [(64, .agg #[.int .i64 ((arithF 7 (getR t.R b 0) (getR t.R c 0)).1), .int .i64 0, .int .i64 0]), (65, .agg (trl_c17 t a b c r9)), (99, .agg (trl_c17 t a b c r9)), (100, .agg (trl_c18 t a b c r11))]), rfl, by (try subst e9); (try subst e11); kernel_rfl, ?_⟩
    obtain ⟨W12, hr, hW, hF⟩ := hW.storeN (P := Try.prog) (o := 0) (cs' := (trl_c18 t a b c r11)) (L' := [(g1q9, 25, #[.int .i64 (getR t.R b 0), .int .i64 (getR t.R b 1), .int .i64 (getR t.R b 2)]), (g1q8, 25, #[.int .i64 (getR t.R a 0), .int .i64 (getR t.R a 1), .int .i64 (getR t.R a 2)]), (g5, 32, (trl_c18 t a b c r11)), (g3, 45, #[.int .i64 7, .int .i64 a, .int .i64 b, .int .i64 c, .int .i64 n]), (g1, 32, (trl_c17 t a b c r9))]) 2 rfl (trl_c18 t a b c r11) (by (try subst e9); (try subst e11); kernel_rfl) (Nat.le_of_ble_eq_true rfl) (by kernel_rfl) rfl 32 (by kernel_rfl)
    have hK9 := hK9.store hF (.inl hK9_g5)
    have hK11 := hK11.store hF (.inl hK11_g5)
    refine st_none (w' := W12) (a' := (up (trl_b176 t a b c n g1 g3 g5 g1q8 g1q9) [(64, .agg #[.int .i64 ((arithF 7 (getR t.R b 0) (getR t.R c 0)).1), .int .i64 0, .int .i64 0]), (65, .agg (trl_c17 t a b c r9)), (99, .agg (trl_c17 t a b c r9)), (100, .agg (trl_c18 t a b c r11))])) (by kernel_rfl) (Eq.trans (b := (do Instr.storeAt 32 (.pointer (some ⟨g5, 0, none⟩)) (.agg (trl_c18 t a b c r11)); pure Next.skip : Sem Next).run Try.prog W11) (by kernel_rfl) (st_unit hr)) (by kernel_rfl) ?_
    refine sk (a' := (up (trl_b176 t a b c n g1 g3 g5 g1q8 g1q9) [(5, .bool true), (64, .agg #[.int .i64 ((arithF 7 (getR t.R b 0) (getR t.R c 0)).1), .int .i64 0, .int .i64 0]), (65, .agg (trl_c17 t a b c r9)), (99, .agg (trl_c17 t a b c r9)), (100, .agg (trl_c18 t a b c r11))])) (.bool true) ?_
    refine wpList_nil ?_
    refine wp_ret ?_
    (try simp only [Exit.then, Exit.inBlock])
    change bodyPost Try.prog Try.f22 _ .ret _ _
    refine bodyPost_ret (results_ct rfl _ _ g5 32 _ (0, 0) _ (by kernel_rfl) (hW.blk 2 _ _ _ rfl).1 Try.underlying32 rfl (by kernel_rfl)) rfl ?_
    have hloc : localT t 7 a b c n = ({ t with R := setR t.R a (arithF 7 (getR t.R b 0) (getR t.R c 0)).1 0 0 }, true) := (Eq.trans (b := ((if (arithF 7 (getR t.R b 0) (getR t.R c 0)).2 = true then { t with R := setR t.R a (arithF 7 (getR t.R b 0) (getR t.R c 0)).1 0 0 } else { t with st := 1 } : Th), true)) (by kernel_rfl) (by rw [if_pos hz]))
    subst e11
    rw [hloc]
    exact ⟨As11, cs11, Ab11, cb11, An11, cn11, rfl, ⟨Kd.R_lower (hK11.R hO11.s) hK11_le, Kd.R_lower (hK11.R hO11.b) hK11_le, Kd.R_lower (hK11.R hO11.n) hK11_le⟩, hW.below⟩
  · skip
    refine wp_region_list ?_
    refine skp (.bool false) ?_
    refine sk (a' := (up (trl_b162 t a b c n g1 g3 g5 g1q8 g1q9) [(22, .bool false)])) (.bool false) ?_
    refine wpList_nil ?_
    refine wp_cond (t := false) (by kernel_rfl) ?_
    refine wp_seq ?_
    refine wp_region_list ?_
    refine skp (.bool false) ?_
    refine sk (a' := (up (trl_b162 t a b c n g1 g3 g5 g1q8 g1q9) [(22, .bool false), (25, .bool false), (26, .bool false)])) (.bool false) ?_
    refine wpList_nil ?_
    refine wp_cond (t := false) (by kernel_rfl) ?_
    refine wp_seq ?_
    refine wp_region_list ?_
    refine skp (.bool false) ?_
    refine sk (a' := (up (trl_b162 t a b c n g1 g3 g5 g1q8 g1q9) [(22, .bool false), (25, .bool false), (26, .bool false), (34, .bool false), (35, .bool false)])) (.bool false) ?_
    refine wpList_nil ?_
    refine wp_cond (t := false) (by kernel_rfl) ?_
    refine wp_seq ?_
    refine wp_seq ?_
    refine wp_region_list ?_
    refine skp (.bool false) ?_
    refine sk (a' := (up (trl_b164 t a b c n g1 g3 g5 g1q8 g1q9) [(41, .bool false)])) (.bool false) ?_
    refine wpList_nil ?_
    refine wp_cond (t := false) (by kernel_rfl) ?_
    refine wp_seq ?_
    refine wp_region_list ?_
    refine skp (.bool false) ?_
    refine sk (a' := (up (trl_b164 t a b c n g1 g3 g5 g1q8 g1q9) [(41, .bool false), (43, .bool false)])) (.bool false) ?_
    refine wpList_nil ?_
    refine wp_cond (t := false) (by kernel_rfl) ?_
    refine wp_seq ?_
    refine wp_region_list ?_
    refine skp (.bool false) ?_
    refine sk (a' := (up (trl_b164 t a b c n g1 g3 g5 g1q8 g1q9) [(41, .bool false), (43, .bool false), (44, .bool false)])) (.bool false) ?_
    refine wpList_nil ?_
    refine wp_cond (t := false) (by kernel_rfl) ?_
    refine wp_region_list ?_
    refine skp (.bool true) ?_
    refine sk (a' := (up (trl_b164 t a b c n g1 g3 g5 g1q8 g1q9) [(41, .bool true), (43, .bool false), (44, .bool false), (45, .bool true)])) (.bool true) ?_
    refine wpList_nil ?_
    refine wp_cond (t := true) (by kernel_rfl) ?_
    refine wp_seq ?_
    have hW := hW.drew
    refine wp_region_held_drew (S := fun W => Ws w W [(g1q9, 25, #[.int .i64 (getR t.R b 0), .int .i64 (getR t.R b 1), .int .i64 (getR t.R b 2)]), (g1q8, 25, #[.int .i64 (getR t.R a 0), .int .i64 (getR t.R a 1), .int .i64 (getR t.R a 2)]), (g5, 32, trl_c1), (g3, 45, #[.int .i64 7, .int .i64 a, .int .i64 b, .int .i64 c, .int .i64 n]), (g1, 32, (trl_c0 t))]) (by kernel_rfl) hW (fun _ => ?_)
    refine dk (a' := (up (trl_b164 t a b c n g1 g3 g5 g1q8 g1q9) [(41, .bool true), (43, .bool false), (44, .bool false), (45, .bool true), (47, .pointer (some ⟨g3, 0, none⟩))])) 0 (.pointer (some ⟨g3, 0, none⟩)) hW ?_
    refine de (a' := (up (trl_b167 t a b c n g1 g3 g5 g1q8 g1q9) [])) 1 (.int .i64 7) rfl (fun W hH => (ev1 hH 3 0 Try.underlying3)) hW ?_
    refine dk (a' := (up (trl_b167 t a b c n g1 g3 g5 g1q8 g1q9) [(49, .pointer (some ⟨g1q9, 0, none⟩))])) 2 (.pointer (some ⟨g1q9, 0, none⟩)) hW ?_
    refine de (a' := (up (trl_b167 t a b c n g1 g3 g5 g1q8 g1q9) [(49, .pointer (some ⟨g1q9, 0, none⟩)), (50, .int .i64 (getR t.R b 0))])) 3 (.int .i64 (getR t.R b 0)) rfl (fun W hH => (ev1 hH 0 0 Try.underlying2)) hW ?_
    refine de (a' := (up (trl_b167 t a b c n g1 g3 g5 g1q8 g1q9) [(49, .pointer (some ⟨g1q9, 0, none⟩)), (50, .int .i64 (getR t.R b 0)), (51, .agg (trl_c0 t))])) 4 (.agg (trl_c0 t)) rfl (fun W hH => (evA hH 4 0 Try.underlying32)) hW ?_
    refine dk (a' := (up (trl_b167 t a b c n g1 g3 g5 g1q8 g1q9) [(49, .pointer (some ⟨g1q9, 0, none⟩)), (50, .int .i64 (getR t.R b 0)), (51, .agg (trl_c0 t)), (52, .pointer (some ⟨g3, 3, none⟩))])) 5 (.pointer (some ⟨g3, 3, none⟩)) hW ?_
    refine de (a' := (up (trl_b167 t a b c n g1 g3 g5 g1q8 g1q9) [(49, .pointer (some ⟨g1q9, 0, none⟩)), (50, .int .i64 (getR t.R b 0)), (51, .agg (trl_c0 t)), (52, .pointer (some ⟨g3, 3, none⟩)), (53, .int .i64 c)])) 6 (.int .i64 c) rfl (fun W hH => (ev1 hH 3 3 Try.underlying3)) hW ?_
    refine wpAnyH_all (rs := [7]) (by kernel_rfl) (by simp) ?_
    refine all_cons ?_ all_nil
    refine op_call rfl (th_rGet (⟨t.pc, t.fu, t.st, t.R, t.kd, t.mi, t.mn, t.sv, t.bv, t.nv, t.old⟩ : Th) c Wm1.drew) (by kernel_rfl) (by kernel_rfl) ?_
    rintro _ W7 ⟨rfl, hB⟩
    have hW := hW.step hB
    refine ⟨_, (up (trl_b169 t a b c n g1 g3 g5 g1q8 g1q9) []), rfl, by kernel_rfl, ?_⟩
    refine ⟨hW, ?_⟩
    refine de (a' := (up (trl_b169 t a b c n g1 g3 g5 g1q8 g1q9) [(55, .int .i64 (getR t.R c 0))])) 8 (.int .i64 (getR t.R c 0)) rfl (fun W hH => by kernel_rfl) hW ?_
    refine wpAnyH_all (rs := [9]) (by kernel_rfl) (by simp) ?_
    refine all_cons ?_ all_nil
    refine op_call rfl (rarith_is 7 (getR t.R b 0) (getR t.R c 0) (by omega) false hz W7) (by kernel_rfl) (by kernel_rfl) ?_
    rintro _ W8 ⟨rfl, hB⟩
    have hW := hW.step hB
    refine ⟨_, (up (trl_b169 t a b c n g1 g3 g5 g1q8 g1q9) [(55, .int .i64 (getR t.R c 0)), (56, .tuple #[.int .i64 ((arithF 7 (getR t.R b 0) (getR t.R c 0)).1), .bool false])]), rfl, by kernel_rfl, ?_⟩
    refine ⟨hW, ?_⟩
    refine dk (a' := (up (trl_b169 t a b c n g1 g3 g5 g1q8 g1q9) [(46, .tuple #[.int .i64 ((arithF 7 (getR t.R b 0) (getR t.R c 0)).1), .bool false]), (55, .int .i64 (getR t.R c 0)), (56, .tuple #[.int .i64 ((arithF 7 (getR t.R b 0) (getR t.R c 0)).1), .bool false])])) 10 (.tuple #[.int .i64 ((arithF 7 (getR t.R b 0) (getR t.R c 0)).1), .bool false]) hW ?_
    refine de (a' := (up (trl_b169 t a b c n g1 g3 g5 g1q8 g1q9) [(46, .tuple #[.int .i64 ((arithF 7 (getR t.R b 0) (getR t.R c 0)).1), .bool false]), (55, .int .i64 (getR t.R c 0)), (56, .tuple #[.int .i64 ((arithF 7 (getR t.R b 0) (getR t.R c 0)).1), .bool false]), (57, .int .i64 ((arithF 7 (getR t.R b 0) (getR t.R c 0)).1))])) 11 (.int .i64 ((arithF 7 (getR t.R b 0) (getR t.R c 0)).1)) rfl (fun W hH => by kernel_rfl) hW ?_
    refine de (a' := (up (trl_b169 t a b c n g1 g3 g5 g1q8 g1q9) [(46, .tuple #[.int .i64 ((arithF 7 (getR t.R b 0) (getR t.R c 0)).1), .bool false]), (55, .int .i64 (getR t.R c 0)), (56, .tuple #[.int .i64 ((arithF 7 (getR t.R b 0) (getR t.R c 0)).1), .bool false]), (57, .int .i64 ((arithF 7 (getR t.R b 0) (getR t.R c 0)).1)), (58, .bool false)])) 12 (.bool false) rfl (fun W hH => by kernel_rfl) hW ?_
    refine dk (a' := (up (trl_b181 t a b c n g1 g3 g5 g1q8 g1q9) [])) 13 (.int .i64 ((arithF 7 (getR t.R b 0) (getR t.R c 0)).1)) hW ?_
    refine dk (a' := (up (trl_b181 t a b c n g1 g3 g5 g1q8 g1q9) [(9, .bool false)])) 14 (.bool false) hW ?_
    refine wpAnyH_done (by kernel_rfl) ?_ _
    refine wp_seq ?_
    refine wp_region_list ?_
    refine sk (a' := (up (trl_b181 t a b c n g1 g3 g5 g1q8 g1q9) [(9, .bool false), (59, .bool false)])) (.bool false) ?_
    refine wpList_nil ?_
    refine wp_cond (t := false) (by kernel_rfl) ?_
    refine wp_region_list ?_
    refine sk (a' := (up (trl_b181 t a b c n g1 g3 g5 g1q8 g1q9) [(9, .bool false), (59, .bool false), (66, .pointer (some ⟨g1, 2, none⟩))])) (.pointer (some ⟨g1, 2, none⟩)) ?_
    obtain ⟨W9, hr, hW, hF⟩ := hW.store1 (P := Try.prog) (o := 2) (cs' := (trl_c2 t)) (L' := [(g1q9, 25, #[.int .i64 (getR t.R b 0), .int .i64 (getR t.R b 1), .int .i64 (getR t.R b 2)]), (g1q8, 25, #[.int .i64 (getR t.R a 0), .int .i64 (getR t.R a 1), .int .i64 (getR t.R a 2)]), (g5, 32, trl_c1), (g3, 45, #[.int .i64 7, .int .i64 a, .int .i64 b, .int .i64 c, .int .i64 n]), (g1, 32, (trl_c2 t))]) 4 rfl (.int .i64 1) rfl (Nat.le_of_ble_eq_true rfl) (by rfl) rfl 3 (by kernel_rfl)
    refine st_none (w' := W9) (a' := (up (trl_b181 t a b c n g1 g3 g5 g1q8 g1q9) [(9, .bool false), (59, .bool false), (66, .pointer (some ⟨g1, 2, none⟩))])) (by kernel_rfl) (Eq.trans (b := (do Instr.storeAt 3 (.pointer (some ⟨g1, 2, none⟩)) (.int .i64 1); pure Next.skip : Sem Next).run Try.prog W8) (by kernel_rfl) (st_unit hr)) (by kernel_rfl) ?_
    refine wpList_nil ?_
    refine wp_seq ?_
    refine wp_region_list ?_
    refine se (a' := (up (trl_b181 t a b c n g1 g3 g5 g1q8 g1q9) [(9, .bool false), (59, .bool false), (66, .pointer (some ⟨g1, 2, none⟩)), (99, .agg (trl_c2 t))])) (.agg (trl_c2 t)) (evA hW 4 0 Try.underlying32) ?_
    have hK10_g1q9 : g1q9 < W9.heap.size := blk_lt (hW.blk 0 _ _ _ rfl).1
    have hK10_g1q8 : g1q8 < W9.heap.size := blk_lt (hW.blk 1 _ _ _ rfl).1
    have hK10_g5 : g5 < W9.heap.size := blk_lt (hW.blk 2 _ _ _ rfl).1
    have hK10_g3 : g3 < W9.heap.size := blk_lt (hW.blk 3 _ _ _ rfl).1
    have hK10_g1 : g1 < W9.heap.size := blk_lt (hW.blk 4 _ _ _ rfl).1
    have hK10_le : w.heap.size ≤ W9.heap.size := hW.below.size
    refine st_call (th_Copy (t := (⟨t.pc, t.fu, 1, t.R, t.kd, t.mi, t.mn, t.sv, t.bv, t.nv, t.old⟩ : Th)) (xs := xs) (bs := bs) (ns := ns) ⟨h.s.below hW.below, h.b.below hW.below, h.n.below hW.below⟩ hl) (by kernel_rfl) (by kernel_rfl) ?_
    rintro _ W10 ⟨As10, cs10, Ab10, cb10, An10, cn10, rfl, hO10, hB⟩
    have hW := hW.step hB
    have hK10 := KeepUp.refl W9.heap.size W10
    obtain ⟨r10, e10⟩ : ∃ r : Rw, r = ⟨.slice As10 xs.length cs10, .slice Ab10 bs.length cb10, .slice An10 ns.length cn10⟩ := ⟨_, rfl⟩
    refine ⟨_, (up (trl_b181 t a b c n g1 g3 g5 g1q8 g1q9) [(9, .bool false), (59, .bool false), (66, .pointer (some ⟨g1, 2, none⟩)), (99, .agg (trl_c2 t)), (100, .agg (trl_c19 t r10))]), rfl, by (try subst e10); kernel_rfl, ?_⟩
    obtain ⟨W11, hr, hW, hF⟩ := hW.storeN (P := Try.prog) (o := 0) (cs' := (trl_c19 t r10)) (L' := [(g1q9, 25, #[.int .i64 (getR t.R b 0), .int .i64 (getR t.R b 1), .int .i64 (getR t.R b 2)]), (g1q8, 25, #[.int .i64 (getR t.R a 0), .int .i64 (getR t.R a 1), .int .i64 (getR t.R a 2)]), (g5, 32, (trl_c19 t r10)), (g3, 45, #[.int .i64 7, .int .i64 a, .int .i64 b, .int .i64 c, .int .i64 n]), (g1, 32, (trl_c2 t))]) 2 rfl (trl_c19 t r10) (by (try subst e10); kernel_rfl) (Nat.le_of_ble_eq_true rfl) (by kernel_rfl) rfl 32 (by kernel_rfl)
    have hK10 := hK10.store hF (.inl hK10_g5)
    refine st_none (w' := W11) (a' := (up (trl_b181 t a b c n g1 g3 g5 g1q8 g1q9) [(9, .bool false), (59, .bool false), (66, .pointer (some ⟨g1, 2, none⟩)), (99, .agg (trl_c2 t)), (100, .agg (trl_c19 t r10))])) (by kernel_rfl) (Eq.trans (b := (do Instr.storeAt 32 (.pointer (some ⟨g5, 0, none⟩)) (.agg (trl_c19 t r10)); pure Next.skip : Sem Next).run Try.prog W10) (by kernel_rfl) (st_unit hr)) (by kernel_rfl) ?_
    refine sk (a' := (up (trl_b187 t a b c n g1 g3 g5 g1q8 g1q9 r10) [])) (.bool true) ?_
    refine wpList_nil ?_
    refine wp_ret ?_
    (try simp only [Exit.then, Exit.inBlock])
    change bodyPost Try.prog Try.f22 _ .ret _ _
    refine bodyPost_ret (results_ct rfl _ _ g5 32 _ (0, 0) _ (by kernel_rfl) (hW.blk 2 _ _ _ rfl).1 Try.underlying32 rfl (by kernel_rfl)) rfl ?_
    have hloc : localT t 7 a b c n = ({ t with st := 1 }, true) := (Eq.trans (b := ((if (arithF 7 (getR t.R b 0) (getR t.R c 0)).2 = true then { t with R := setR t.R a (arithF 7 (getR t.R b 0) (getR t.R c 0)).1 0 0 } else { t with st := 1 } : Th), true)) (by kernel_rfl) (by rw [if_neg (by rw [hz]; exact Bool.false_ne_true)]))
    subst e10
    rw [hloc]
    exact ⟨As10, cs10, Ab10, cb10, An10, cn10, rfl, ⟨Kd.R_lower (hK10.R hO10.s) hK10_le, Kd.R_lower (hK10.R hO10.b) hK10_le, Kd.R_lower (hK10.R hO10.n) hK10_le⟩, hW.below⟩
  · skip
    refine wp_region_list ?_
    refine sep (.bool false) (Eq.trans (b := .ok (.value (.bool ((op : Int) == 1))) Wm1) (by kernel_rfl) (st_ok (beq_eq_false_iff_ne.2 (by omega)))) ?_
    refine sk (a' := (up (trl_b17 t op a b c n g1 g3 g5 g1q9 g1q8) [(17, .agg #[.int .i64 (getR t.R b 0), .int .i64 (getR t.R b 1), .int .i64 (getR t.R b 2)]), (18, .pointer (some ⟨g3, 0, none⟩)), (19, .int .i64 op), (22, .bool false), (23, .bool false)])) (.bool false) ?_
    refine wpList_nil ?_
    refine wp_cond (t := false) (by kernel_rfl) ?_
    refine wp_seq ?_
    refine wp_region_list ?_
    refine sep (.bool false) (Eq.trans (b := .ok (.value (.bool ((op : Int) == 2))) Wm1) (by kernel_rfl) (st_ok (beq_eq_false_iff_ne.2 (by omega)))) ?_
    refine sk (a' := (up (trl_b189 t op a b c n g1 g3 g5 g1q8 g1q9) [(25, .bool false)])) (.bool false) ?_
    refine wpList_nil ?_
    refine wp_cond (t := false) (by kernel_rfl) ?_
    refine wp_seq ?_
    refine wp_region_list ?_
    refine sep (.bool false) (Eq.trans (b := .ok (.value (.bool ((op : Int) == 3))) Wm1) (by kernel_rfl) (st_ok (beq_eq_false_iff_ne.2 (by omega)))) ?_
    refine sk (a' := (up (trl_b189 t op a b c n g1 g3 g5 g1q8 g1q9) [(25, .bool false), (34, .bool false), (35, .bool false)])) (.bool false) ?_
    refine wpList_nil ?_
    refine wp_cond (t := false) (by kernel_rfl) ?_
    refine wp_seq ?_
    refine wp_seq ?_
    refine wp_region_list ?_
    refine sep (.bool false) (Eq.trans (b := .ok (.value (.bool ((op : Int) == 4))) Wm1) (by kernel_rfl) (st_ok (beq_eq_false_iff_ne.2 (by omega)))) ?_
    refine sk (a' := (up (trl_b189 t op a b c n g1 g3 g5 g1q8 g1q9) [(25, .bool false), (34, .bool false), (35, .bool false), (41, .bool false), (42, .bool false)])) (.bool false) ?_
    refine wpList_nil ?_
    refine wp_cond (t := false) (by kernel_rfl) ?_
    refine wp_seq ?_
    refine wp_region_list ?_
    refine sep (.bool false) (Eq.trans (b := .ok (.value (.bool ((op : Int) == 5))) Wm1) (by kernel_rfl) (st_ok (beq_eq_false_iff_ne.2 (by omega)))) ?_
    refine sk (a' := (up (trl_b192 t op a b c n g1 g3 g5 g1q8 g1q9) [])) (.bool false) ?_
    refine wpList_nil ?_
    refine wp_cond (t := false) (by kernel_rfl) ?_
    refine wp_seq ?_
    refine wp_region_list ?_
    refine sep (.bool false) (Eq.trans (b := .ok (.value (.bool ((op : Int) == 6))) Wm1) (by kernel_rfl) (st_ok (beq_eq_false_iff_ne.2 (by omega)))) ?_
    refine sk (a' := (up (trl_b192 t op a b c n g1 g3 g5 g1q8 g1q9) [(44, .bool false)])) (.bool false) ?_
    refine wpList_nil ?_
    refine wp_cond (t := false) (by kernel_rfl) ?_
    refine wp_region_list ?_
    refine sep (.bool false) (Eq.trans (b := .ok (.value (.bool ((op : Int) == 7))) Wm1) (by kernel_rfl) (st_ok (beq_eq_false_iff_ne.2 (by omega)))) ?_
    refine sk (a' := (up (trl_b192 t op a b c n g1 g3 g5 g1q8 g1q9) [(44, .bool false), (45, .bool false)])) (.bool false) ?_
    refine wpList_nil ?_
    refine wp_cond (t := false) (by kernel_rfl) ?_
    refine wp_seq ?_
    refine wp_seq ?_
    refine wp_region_list ?_
    refine sep (.bool false) (Eq.trans (b := .ok (.value (.bool ((op : Int) == 8))) Wm1) (by kernel_rfl) (st_ok (beq_eq_false_iff_ne.2 (by omega)))) ?_
    refine sk (a' := (up (trl_b192 t op a b c n g1 g3 g5 g1q8 g1q9) [(44, .bool false), (45, .bool false), (67, .bool false), (68, .bool false)])) (.bool false) ?_
    refine wpList_nil ?_
    refine wp_cond (t := false) (by kernel_rfl) ?_
    refine wp_seq ?_
    refine wp_region_list ?_
    refine sep (.bool false) (Eq.trans (b := .ok (.value (.bool ((op : Int) == 9))) Wm1) (by kernel_rfl) (st_ok (beq_eq_false_iff_ne.2 (by omega)))) ?_
    refine sk (a' := (up (trl_b192 t op a b c n g1 g3 g5 g1q8 g1q9) [(44, .bool false), (45, .bool false), (67, .bool false), (68, .bool false), (69, .bool false)])) (.bool false) ?_
    refine wpList_nil ?_
    refine wp_cond (t := false) (by kernel_rfl) ?_
    refine wp_region_list ?_
    refine sep (.bool false) (Eq.trans (b := .ok (.value (.bool ((op : Int) == 10))) Wm1) (by kernel_rfl) (st_ok (beq_eq_false_iff_ne.2 (by omega)))) ?_
    refine sk (a' := (up (trl_b194 t op a b c n g1 g3 g5 g1q8 g1q9) [])) (.bool false) ?_
    refine wpList_nil ?_
    refine wp_cond (t := false) (by kernel_rfl) ?_
    refine wp_seq ?_
    refine wp_region_list ?_
    refine se (a' := (up (trl_b194 t op a b c n g1 g3 g5 g1q8 g1q9) [(20, .agg (trl_c0 t))])) (.agg (trl_c0 t)) (evA hW 4 0 Try.underlying32) ?_
    have hK7_g1q9 : g1q9 < Wm1.heap.size := blk_lt (hW.blk 0 _ _ _ rfl).1
    have hK7_g1q8 : g1q8 < Wm1.heap.size := blk_lt (hW.blk 1 _ _ _ rfl).1
    have hK7_g5 : g5 < Wm1.heap.size := blk_lt (hW.blk 2 _ _ _ rfl).1
    have hK7_g3 : g3 < Wm1.heap.size := blk_lt (hW.blk 3 _ _ _ rfl).1
    have hK7_g1 : g1 < Wm1.heap.size := blk_lt (hW.blk 4 _ _ _ rfl).1
    have hK7_le : w.heap.size ≤ Wm1.heap.size := hW.below.size
    refine st_call (th_Copy (t := (⟨t.pc, t.fu, t.st, t.R, t.kd, t.mi, t.mn, t.sv, t.bv, t.nv, t.old⟩ : Th)) (xs := xs) (bs := bs) (ns := ns) ⟨h.s.below hW.below, h.b.below hW.below, h.n.below hW.below⟩ hl) (by kernel_rfl) (by kernel_rfl) ?_
    rintro _ W7 ⟨As7, cs7, Ab7, cb7, An7, cn7, rfl, hO7, hB⟩
    have hW := hW.step hB
    have hK7 := KeepUp.refl Wm1.heap.size W7
    obtain ⟨r7, e7⟩ : ∃ r : Rw, r = ⟨.slice As7 xs.length cs7, .slice Ab7 bs.length cb7, .slice An7 ns.length cn7⟩ := ⟨_, rfl⟩
    refine ⟨_, (up (trl_b194 t op a b c n g1 g3 g5 g1q8 g1q9) [(20, .agg (trl_c0 t)), (21, .agg (trl_c10 t r7))]), rfl, by (try subst e7); kernel_rfl, ?_⟩
    obtain ⟨W8, hr, hW, hF⟩ := hW.storeN (P := Try.prog) (o := 0) (cs' := (trl_c10 t r7)) (L' := [(g1q9, 25, #[.int .i64 (getR t.R b 0), .int .i64 (getR t.R b 1), .int .i64 (getR t.R b 2)]), (g1q8, 25, #[.int .i64 (getR t.R a 0), .int .i64 (getR t.R a 1), .int .i64 (getR t.R a 2)]), (g5, 32, (trl_c10 t r7)), (g3, 45, #[.int .i64 op, .int .i64 a, .int .i64 b, .int .i64 c, .int .i64 n]), (g1, 32, (trl_c0 t))]) 2 rfl (trl_c10 t r7) (by (try subst e7); kernel_rfl) (Nat.le_of_ble_eq_true rfl) (by kernel_rfl) rfl 32 (by kernel_rfl)
    have hK7 := hK7.store hF (.inl hK7_g5)
    refine st_none (w' := W8) (a' := (up (trl_b194 t op a b c n g1 g3 g5 g1q8 g1q9) [(20, .agg (trl_c0 t)), (21, .agg (trl_c10 t r7))])) (by kernel_rfl) (Eq.trans (b := (do Instr.storeAt 32 (.pointer (some ⟨g5, 0, none⟩)) (.agg (trl_c10 t r7)); pure Next.skip : Sem Next).run Try.prog W7) (by kernel_rfl) (st_unit hr)) (by kernel_rfl) ?_
    refine sk (a' := (up (trl_b194 t op a b c n g1 g3 g5 g1q8 g1q9) [(20, .agg (trl_c0 t)), (21, .agg (trl_c10 t r7))])) (.bool false) ?_
    refine wpList_nil ?_
    refine wp_ret ?_
    (try simp only [Exit.then, Exit.inBlock])
    change bodyPost Try.prog Try.f22 _ .ret _ _
    refine bodyPost_ret (results_ct rfl _ _ g5 32 _ (0, 0) _ (by kernel_rfl) (hW.blk 2 _ _ _ rfl).1 Try.underlying32 rfl (by kernel_rfl)) rfl ?_
    have hloc : localT t op a b c n = (t, false) := (by unfold localT; rw [if_neg (by omega), if_neg (by omega), if_neg (by omega), if_neg (by omega), if_neg (by omega), if_neg (by omega), if_neg (by omega)])
    subst e7
    rw [hloc]
    exact ⟨As7, cs7, Ab7, cb7, An7, cn7, rfl, ⟨Kd.R_lower (hK7.R hO7.s) hK7_le, Kd.R_lower (hK7.R hO7.b) hK7_le, Kd.R_lower (hK7.R hO7.n) hK7_le⟩, hW.below⟩
end Go.Proofs.Ythcmcekjgecnhaa.Th
