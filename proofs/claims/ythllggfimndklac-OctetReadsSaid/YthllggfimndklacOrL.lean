/- The walk of the law OctetReads. No condition beside those that each theorem names. -/
import Derived.Test.YthllggfimndklacOrC
namespace Go.Proofs.Ythllggfimndklac.Or
open Go.RowKit Go.Proofs.YthllggfimndklacW.PrintWords Go.Proofs.YthllggfimndklacW.PrintLast Go.Proofs.YthllggfimndklacW.PrintMore
attribute [local go_sem] max2_int min2_int max_two min_two max_three min_three max_four min_four   -- for this text's walks alone
open Go.Proofs.YthllggfimndklacW.HWords
set_option linter.unusedVariables false
set_option linter.unusedSimpArgs false
open Go.Proofs.Ythllggfimndklac.QOctetReads
attribute [local irreducible] wpList
set_option maxHeartbeats 8000000 in
set_option maxRecDepth 100000 in
theorem law_Reads {w : World} {A0 : Option Addr} {c0 : Nat} {l0 : List Int} {A1 : Option Addr} {c1 : Nat} {lo : List (Int × Bool)} (hr0 : Kd.C (Kd.int .u8) w A0 l0.length l0) (hc0 : l0.length ≤ c0) (hdg : ∀ b ∈ l0, 0 ≤ b ∧ b < 256) (hCo : Kd.C kOp w A1 lo.length lo) : Calls Try.prog 5 #[.slice A0 l0.length c0, .slice A1 lo.length c1] w fun e w' => e = .returned (.bool true) ∧ Below w.heap.size w w' := by
  by_cases hlong : (l0.length : Int) > 400
  · skip
    obtain ⟨bs, hbs⟩ : ∃ bs : List Int, bs = l0.take 400 := ⟨_, rfl⟩
    have hbl : bs.length = 400 := by rw [hbs, List.length_take]; omega
    have hbc : bs.length ≤ c0 := by omega
    have hb4 : bs.length ≤ 400 := by omega
    have hC : Kd.C (Kd.int .u8) w A0 bs.length bs := by rw [hbs]; exact Kd.C_take hr0 (by omega)
    have hdig : ∀ b ∈ bs, 0 ≤ b ∧ b < 256 := fun b hb => hdg b (List.mem_of_mem_take (by rw [hbs] at hb; exact hb))
    have hI := C_ints hC
    refine calls_of_wp Try.func5 rfl ?_
    have hW := Ws.nil w
    refine wp_seq ?_
    refine wp_region_list ?_
    refine sk (a' := (up (or1_b3 A0 c0 l0 A1 c1 lo) [])) (.bool false) ?_
    refine wpList_nil ?_
    refine wp_seq ?_
    refine wp_seq ?_
    refine wp_region_list ?_
    refine st_call (alive_calls w) (by kernel_rfl) (by kernel_rfl) ?_
    rintro _ W1 ⟨rfl, hB⟩
    have hW := hW.step hB
    refine ⟨_, (up (or1_b3 A0 c0 l0 A1 c1 lo) [(13, .bool true)]), rfl, by kernel_rfl, ?_⟩
    refine sk (a' := (up (or1_b3 A0 c0 l0 A1 c1 lo) [(13, .bool true), (14, .bool false)])) (.bool false) ?_
    refine wpList_nil ?_
    refine wp_cond (t := false) (by kernel_rfl) ?_
    refine wp_skip ?_
    refine wp_seq ?_
    refine wp_seq ?_
    refine wp_region_list ?_
    refine skp (.slice A0 l0.length c0) ?_
    refine skp (.int .i64 (l0.length : Int)) ?_
    refine se (a' := (up (or1_b3 A0 c0 l0 A1 c1 lo) [(13, .bool true), (14, .bool false), (15, .slice A0 l0.length c0), (16, .int .i64 (l0.length : Int)), (17, .bool true)])) (.bool true) (Eq.trans (b := .ok (.value (.bool (decide (((l0.length : Int) : Int) > 400)))) W1) (by kernel_rfl) (st_ok (decide_eq_true (by omega)))) ?_
    refine wpList_nil ?_
    refine wp_cond (t := true) (by kernel_rfl) ?_
    refine wp_region_list ?_
    refine skp (.slice A0 l0.length c0) ?_
    refine sep (.slice A0 bs.length c0) (Eq.trans (b := (do pure (Next.value (← Instr.sliceAt 32 (.slice A0 l0.length c0) none (some (.int .i64 ((400 : Nat) : Int))) none)) : Sem Next).run Try.prog W1) (by kernel_rfl) (st_val (by rw [hbl]; exact cut_first 400 (by omega) hc0 W1))) ?_
    refine sk (a' := (up (or1_b6 A0 c0 l0 A1 c1 lo) [(0, .slice A0 bs.length c0), (19, .slice A0 bs.length c0)])) (.slice A0 bs.length c0) ?_
    refine wpList_nil ?_
    refine wp_seq ?_
    refine wp_region_list ?_
    refine sk (a' := (up (or1_b6 A0 c0 l0 A1 c1 lo) [(0, .slice A0 bs.length c0), (19, .slice A0 bs.length c0), (20, .slice A0 bs.length c0)])) (.slice A0 bs.length c0) ?_
    refine st_call (rd_New (bs := bs) (c := c0) (hI.below hW.below) (by omega)) (by kernel_rfl) (by kernel_rfl) ?_
    rintro _ W2 ⟨g, v, rfl, hR, hB⟩
    have hWold := hW
    have hW := hW.step hB
    have hgw : w.heap.size ≤ g := Nat.le_trans (hWold.below.size) hR.1
    refine ⟨_, (up (or1_b6 A0 c0 l0 A1 c1 lo) [(0, .slice A0 bs.length c0), (19, .slice A0 bs.length c0), (20, .slice A0 bs.length c0), (21, .pointer (some ⟨g, 0, none⟩))]), rfl, by kernel_rfl, ?_⟩
    refine sk (a' := (up (or1_b6 A0 c0 l0 A1 c1 lo) [(0, .slice A0 bs.length c0), (5, .pointer (some ⟨g, 0, none⟩)), (19, .slice A0 bs.length c0), (20, .slice A0 bs.length c0), (21, .pointer (some ⟨g, 0, none⟩))])) (.pointer (some ⟨g, 0, none⟩)) ?_
    refine wpList_nil ?_
    refine wp_seq ?_
    refine wp_region_list ?_
    refine skp (.int .i64 0) ?_
    refine sk (a' := (up (or1_b9 A0 c0 l0 A1 c1 lo bs g) [(7, .bool false)])) (.bool false) ?_
    refine wpList_nil ?_
    refine wp_seq ?_
    refine wp_seq ?_
    refine wp_region_list ?_
    refine sk (a' := (up (or1_b9 A0 c0 l0 A1 c1 lo bs g) [(7, .bool false), (8, .int .i64 0)])) (.int .i64 0) ?_
    refine wpList_nil ?_
    refine wp_block ?_
    refine wp_loop_ghost (fun (mm : Nat) (a' : Act) (W' : World) => ∃ z : Nat → Value, ∃ i : Nat, ∃ p : Nat, ∃ q : Bool, a' = (up (or1_b18 A0 c0 l0 A1 c1 lo bs g z i p q) []) ∧ Ws w W' [] ∧ Rdr W' W1.heap.size g v bs p q ∧ i ≤ lo.length ∧ p ≤ bs.length ∧ mm = lo.length - i) (lo.length - 0) ⟨(fun mm => ((up (or1_b9 A0 c0 l0 A1 c1 lo bs g) [(7, .bool false), (8, .int .i64 0)])).tmps.getD mm undef), 0, 0, false, by kernel_rfl, hW, hR, Nat.zero_le _, Nat.zero_le _, rfl⟩ ?_
    rintro mm _ Wl ⟨z, i, p, q, rfl, hW, hR, hi, hpl, rfl⟩
    refine wp_seq ?_
    refine wp_seq ?_
    have hwl : IntKind.wrap .i64 ((bs.length : Int) - (p : Int)) = (bs.length : Int) - (p : Int) := by rw [IntKind.wrap_i64]; omega
    have hsp : lo.length ≤ i ∨ (i < lo.length ∧ 60 ≤ i) ∨ (i < lo.length ∧ i < 60 ∧ ∃ ad k sg, A1 = some ad ∧ OpAt w ad i k sg ∧ (q = true ∨ (q = false ∧ k < 1) ∨ (q = false ∧ 1 ≤ k ∧ 8 < k) ∨ (q = false ∧ (1 ≤ k ∧ k ≤ 8) ∧ (bs.length : Int) < (p : Int) + k) ∨ (q = false ∧ (1 ≤ k ∧ k ≤ 8) ∧ (p : Int) + k ≤ (bs.length : Int) ∧ sg = true) ∨ (q = false ∧ (1 ≤ k ∧ k ≤ 8) ∧ (p : Int) + k ≤ (bs.length : Int) ∧ sg = false))) := by
      by_cases h1 : i < lo.length
      · by_cases h2 : i < 60
        · obtain ⟨ad, k, sg, e, ho⟩ := op_at hCo h1
          refine .inr (.inr ⟨h1, h2, ad, k, sg, e, ho, ?_⟩)
          cases q
          · by_cases a1 : k < 1
            · exact .inr (.inl ⟨rfl, a1⟩)
            · by_cases a2 : 8 < k
              · exact .inr (.inr (.inl ⟨rfl, by omega, a2⟩))
              · by_cases a3 : (bs.length : Int) < (p : Int) + k
                · exact .inr (.inr (.inr (.inl ⟨rfl, by omega, a3⟩)))
                · cases sg
                  · exact .inr (.inr (.inr (.inr (.inr ⟨rfl, by omega, by omega, rfl⟩))))
                  · exact .inr (.inr (.inr (.inr (.inl ⟨rfl, by omega, by omega, rfl⟩))))
          · exact .inl rfl
        · exact .inr (.inl ⟨h1, by omega⟩)
      · exact .inl (by omega)
    rcases hsp with hin | ⟨hin, h60⟩ | ⟨hin, h60, ad, k, sg, rfl, hop, rfl | ⟨rfl, hk⟩ | ⟨rfl, hk⟩ | ⟨rfl, hk, hk2⟩ | ⟨rfl, hk, hk2, rfl⟩ | ⟨rfl, hk, hk2, rfl⟩⟩
    · skip
      refine wp_region_list ?_
      refine skp (.int .i64 (i : Int)) ?_
      refine skp (.slice A1 lo.length c1) ?_
      refine sk (a' := (up (or1_b18 A0 c0 l0 A1 c1 lo bs g z i p q) [(22, .int .i64 (i : Int)), (23, .slice A1 lo.length c1), (24, .int .i64 (lo.length : Int))])) (.int .i64 (lo.length : Int)) ?_
      refine sep (.bool false) (Eq.trans (b := .ok (.value (.bool (decide (((i : Int) : Int) < (lo.length : Int))))) Wl) (by kernel_rfl) (st_ok (decide_eq_false (by omega)))) ?_
      refine st_ones (w' := Wl) (a' := (up (or1_b18 A0 c0 l0 A1 c1 lo bs g z i p q) [(22, .int .i64 (i : Int)), (23, .slice A1 lo.length c1), (24, .int .i64 (lo.length : Int)), (25, .bool false), (26, .bool false)])) (a2 := (up (or1_b20 A0 c0 l0 A1 c1 lo bs g z i p q) [])) 2 (.bool false) (by kernel_rfl) (by kernel_rfl) (by kernel_rfl) (by kernel_rfl) (by kernel_rfl) ?_
      refine sk (a' := (up (or1_b20 A0 c0 l0 A1 c1 lo bs g z i p q) [(29, .bool false)])) (.bool false) ?_
      refine wpList_nil ?_
      refine wp_cond (t := false) (by kernel_rfl) ?_
      refine wp_exit ?_
      refine wp_seq ?_
      refine wp_region_list ?_
      refine sk (a' := (up (or1_b20 A0 c0 l0 A1 c1 lo bs g z i p q) [(29, .bool false), (116, .pointer (some ⟨g, 0, none⟩))])) (.pointer (some ⟨g, 0, none⟩)) ?_
      refine st_call (rd_At hR) (by kernel_rfl) (by kernel_rfl) ?_
      rintro _ W3 ⟨rfl, hB⟩
      have hW := hW.step hB
      have hR := hR.below hB
      refine ⟨_, (up (or1_b20 A0 c0 l0 A1 c1 lo bs g z i p q) [(29, .bool false), (116, .pointer (some ⟨g, 0, none⟩)), (117, .int .i64 (p : Int))]), rfl, by kernel_rfl, ?_⟩
      refine skp (.int .i64 (p : Int)) ?_
      refine sep (.bool true) (Eq.trans (b := .ok (.value (.bool (((p : Int) : Int) == (p : Int)))) W3) (by kernel_rfl) (st_ok (beq_iff_eq.2 (by omega)))) ?_
      refine sk (a' := (up (or1_b24 A0 c0 l0 A1 c1 lo bs g z i p q) [])) (.bool true) ?_
      refine wpList_nil ?_
      refine wp_ret ?_
      (try simp only [Exit.then, Exit.inBlock])
      change bodyPost Try.prog Try.f5 _ .ret _ _
      refine bodyPost_ret (results_tmp rfl _ _ _) rfl ?_
      exact ⟨by kernel_rfl, hW.below⟩
    · skip
      refine wp_region_list ?_
      refine skp (.int .i64 (i : Int)) ?_
      refine skp (.slice A1 lo.length c1) ?_
      refine sk (a' := (up (or1_b18 A0 c0 l0 A1 c1 lo bs g z i p q) [(22, .int .i64 (i : Int)), (23, .slice A1 lo.length c1), (24, .int .i64 (lo.length : Int))])) (.int .i64 (lo.length : Int)) ?_
      refine sep (.bool true) (Eq.trans (b := .ok (.value (.bool (decide (((i : Int) : Int) < (lo.length : Int))))) Wl) (by kernel_rfl) (st_ok (decide_eq_true (by omega)))) ?_
      refine sk (a' := (up (or1_b18 A0 c0 l0 A1 c1 lo bs g z i p q) [(22, .int .i64 (i : Int)), (23, .slice A1 lo.length c1), (24, .int .i64 (lo.length : Int)), (25, .bool true), (26, .bool true)])) (.bool true) ?_
      refine sk (a' := (up (or1_b26 A0 c0 l0 A1 c1 lo bs g z i p q) [])) (.int .i64 (i : Int)) ?_
      refine sep (.bool false) (Eq.trans (b := .ok (.value (.bool (decide (((i : Int) : Int) < 60)))) Wl) (by kernel_rfl) (st_ok (decide_eq_false (by omega)))) ?_
      refine sk (a' := (up (or1_b26 A0 c0 l0 A1 c1 lo bs g z i p q) [(28, .bool false), (29, .bool false)])) (.bool false) ?_
      refine wpList_nil ?_
      refine wp_cond (t := false) (by kernel_rfl) ?_
      refine wp_exit ?_
      refine wp_seq ?_
      refine wp_region_list ?_
      refine sk (a' := (up (or1_b26 A0 c0 l0 A1 c1 lo bs g z i p q) [(28, .bool false), (29, .bool false), (116, .pointer (some ⟨g, 0, none⟩))])) (.pointer (some ⟨g, 0, none⟩)) ?_
      refine st_call (rd_At hR) (by kernel_rfl) (by kernel_rfl) ?_
      rintro _ W3 ⟨rfl, hB⟩
      have hW := hW.step hB
      have hR := hR.below hB
      refine ⟨_, (up (or1_b26 A0 c0 l0 A1 c1 lo bs g z i p q) [(28, .bool false), (29, .bool false), (116, .pointer (some ⟨g, 0, none⟩)), (117, .int .i64 (p : Int))]), rfl, by kernel_rfl, ?_⟩
      refine skp (.int .i64 (p : Int)) ?_
      refine sep (.bool true) (Eq.trans (b := .ok (.value (.bool (((p : Int) : Int) == (p : Int)))) W3) (by kernel_rfl) (st_ok (beq_iff_eq.2 (by omega)))) ?_
      refine sk (a' := (up (or1_b28 A0 c0 l0 A1 c1 lo bs g z i p q) [(4, .bool true)])) (.bool true) ?_
      refine wpList_nil ?_
      refine wp_ret ?_
      (try simp only [Exit.then, Exit.inBlock])
      change bodyPost Try.prog Try.f5 _ .ret _ _
      refine bodyPost_ret (results_tmp rfl _ _ _) rfl ?_
      exact ⟨by kernel_rfl, hW.below⟩
    · skip
      have hwi : IntKind.wrap .i64 ((i : Int) + 1) = ((i + 1 : Nat) : Int) := by rw [IntKind.wrap_i64]; omega
      refine wp_region_list ?_
      refine skp (.int .i64 (i : Int)) ?_
      refine skp (.slice (some ad) lo.length c1) ?_
      refine sk (a' := (up (or1_b31 A0 c0 l0 c1 lo bs g z i p ad) [(23, .slice (some ad) lo.length c1), (24, .int .i64 (lo.length : Int))])) (.int .i64 (lo.length : Int)) ?_
      refine sep (.bool true) (Eq.trans (b := .ok (.value (.bool (decide (((i : Int) : Int) < (lo.length : Int))))) Wl) (by kernel_rfl) (st_ok (decide_eq_true (by omega)))) ?_
      refine sk (a' := (up (or1_b31 A0 c0 l0 c1 lo bs g z i p ad) [(23, .slice (some ad) lo.length c1), (24, .int .i64 (lo.length : Int)), (25, .bool true), (26, .bool true)])) (.bool true) ?_
      refine sk (a' := (up (or1_b31 A0 c0 l0 c1 lo bs g z i p ad) [(23, .slice (some ad) lo.length c1), (24, .int .i64 (lo.length : Int)), (25, .bool true), (26, .bool true), (27, .int .i64 (i : Int))])) (.int .i64 (i : Int)) ?_
      refine sep (.bool true) (Eq.trans (b := .ok (.value (.bool (decide (((i : Int) : Int) < 60)))) Wl) (by kernel_rfl) (st_ok (decide_eq_true (by omega)))) ?_
      refine sk (a' := (up (or1_b33 A0 c0 l0 c1 lo bs g z i p ad) [(29, .bool true)])) (.bool true) ?_
      refine wpList_nil ?_
      refine wp_cond (t := true) (by kernel_rfl) ?_
      refine wp_skip ?_
      refine wp_seq ?_
      refine wp_block ?_
      refine wp_seq ?_
      refine wp_region_list ?_
      refine skp (.slice (some ad) lo.length c1) ?_
      refine skp (.int .i64 (i : Int)) ?_
      refine se (a' := (up (or1_b33 A0 c0 l0 c1 lo bs g z i p ad) [(29, .bool true), (32, .slice (some ad) lo.length c1), (33, .int .i64 (i : Int)), (34, .pointer (some (ad.add (i * 2))))])) (.pointer (some (ad.add (i * 2)))) (Eq.trans (b := (do pure (Next.value (← Instr.indexAt 35 (.slice (some ad) lo.length c1) (.int .i64 (i : Int)))) : Sem Next).run Try.prog Wl) (by kernel_rfl) (st_val (idx_op hin Wl))) ?_
      refine skp (.pointer (some (ad.add (i * 2)))) ?_
      refine sep (.int .i64 k) (Eq.trans (b := (do pure (Next.value (← Instr.loadAt 3 (.pointer (some (ad.add (i * 2)))))) : Sem Next).run Try.prog Wl) (by kernel_rfl) (st_val (load_one Wl _ 3 _ _ ((hop.below hW.below).cell 0 _ rfl) Try.underlying3 rfl))) ?_
      refine sk (a' := (up (or1_b36 A0 c0 l0 c1 lo bs g z i p ad k) [(9, .int .i64 k)])) (.int .i64 k) ?_
      refine wpList_nil ?_
      refine wp_seq ?_
      refine wp_region_list ?_
      refine skp (.bool true) ?_
      refine st_ones (w' := Wl) (a' := (up (or1_b36 A0 c0 l0 c1 lo bs g z i p ad k) [(9, .int .i64 k), (37, .bool true), (38, .bool true)])) (a2 := (up (or1_b36 A0 c0 l0 c1 lo bs g z i p ad k) [(9, .int .i64 k), (37, .bool true), (38, .bool true), (39, zz), (40, zz)])) 2 (.bool true) (by kernel_rfl) (by kernel_rfl) (by kernel_rfl) (by kernel_rfl) (by kernel_rfl) ?_
      refine skp (.bool true) ?_
      refine st_ones (w' := Wl) (a' := (up (or1_b39 A0 c0 l0 c1 lo bs g z i p ad k) [(42, .bool true)])) (a2 := (up (or1_b39 A0 c0 l0 c1 lo bs g z i p ad k) [(42, .bool true), (43, zz), (44, zz)])) 2 (.bool true) (by kernel_rfl) (by kernel_rfl) (by kernel_rfl) (by kernel_rfl) (by kernel_rfl) ?_
      refine sk (a' := (up (or1_b39 A0 c0 l0 c1 lo bs g z i p ad k) [(42, .bool true), (43, zz), (44, zz), (45, .bool true)])) (.bool true) ?_
      refine st_ones (w' := Wl) (a' := (up (or1_b39 A0 c0 l0 c1 lo bs g z i p ad k) [(42, .bool true), (43, zz), (44, zz), (45, .bool true), (46, .bool true)])) (a2 := (up (or1_b42 A0 c0 l0 c1 lo bs g z i p ad k) [])) 6 (.bool true) (by kernel_rfl) (by kernel_rfl) (by kernel_rfl) (by kernel_rfl) (by kernel_rfl) ?_
      refine skp (.bool true) ?_
      refine sk (a' := (up (or1_b42 A0 c0 l0 c1 lo bs g z i p ad k) [(53, .bool true)])) (.bool true) ?_
      refine wpList_nil ?_
      refine wp_seq ?_
      refine wp_region_list ?_
      refine sk (a' := (up (or1_b42 A0 c0 l0 c1 lo bs g z i p ad k) [(10, .int .i64 0), (53, .bool true)])) (.int .i64 0) ?_
      refine wpList_nil ?_
      refine wp_seq ?_
      refine wp_seq ?_
      refine wp_region_list ?_
      refine skp (.bool true) ?_
      refine sk (a' := (up (or1_b42 A0 c0 l0 c1 lo bs g z i p ad k) [(10, .int .i64 0), (53, .bool true), (54, .bool true), (55, .bool false)])) (.bool false) ?_
      refine wpList_nil ?_
      refine wp_cond (t := false) (by kernel_rfl) ?_
      refine wp_skip ?_
      refine wp_seq ?_
      refine wp_region_list ?_
      refine skp (.pointer (some ⟨g, 0, none⟩)) ?_
      refine skp (.slice (some ad) lo.length c1) ?_
      refine sk (a' := (up (or1_b47 A0 c0 l0 c1 lo bs g z i p ad k) [(81, .int .i64 (i : Int))])) (.int .i64 (i : Int)) ?_
      refine sep (.pointer (some (ad.add (i * 2)))) (Eq.trans (b := (do pure (Next.value (← Instr.indexAt 35 (.slice (some ad) lo.length c1) (.int .i64 (i : Int)))) : Sem Next).run Try.prog Wl) (by kernel_rfl) (st_val (idx_op hin Wl))) ?_
      refine se (a' := (up (or1_b47 A0 c0 l0 c1 lo bs g z i p ad k) [(81, .int .i64 (i : Int)), (82, .pointer (some (ad.add (i * 2)))), (83, .agg #[.int .i64 k, .bool sg])])) (.agg #[.int .i64 k, .bool sg]) (Eq.trans (b := (do pure (Next.value (← Instr.loadAt 39 (.pointer (some (ad.add (i * 2)))))) : Sem Next).run Try.prog Wl) (by kernel_rfl) (st_val (load_row Wl _ 39 _ _ (hop.below hW.below).cell Try.underlying39 rfl (by kernel_rfl)))) ?_
      refine st_call (cl_no hR k (rd_or (.inl rfl)) sg) (by kernel_rfl) (by kernel_rfl) ?_
      rintro _ W3 ⟨rfl, hR, wa, hba, hG⟩
      have hW := Ws.ofBelow (pw_below_grown (below_step hW.below hba) _ (below_step hW.below hba).size hG (by rintro k ⟨rfl⟩; exact hgw))
      refine ⟨_, (up (or1_b47 A0 c0 l0 c1 lo bs g z i p ad k) [(81, .int .i64 (i : Int)), (82, .pointer (some (ad.add (i * 2)))), (83, .agg #[.int .i64 k, .bool sg]), (84, .tuple #[.int .i64 0, .bool false])]), rfl, by kernel_rfl, ?_⟩
      refine skp (.tuple #[.int .i64 0, .bool false]) ?_
      refine skp (.int .i64 0) ?_
      refine sk (a' := (up (or1_b50 A0 c0 l0 c1 lo bs g z i p ad k sg) [(86, .bool false)])) (.bool false) ?_
      refine skp (.int .i64 0) ?_
      refine sk (a' := (up (or1_b50 A0 c0 l0 c1 lo bs g z i p ad k sg) [(11, .int .i64 0), (12, .bool false), (86, .bool false)])) (.bool false) ?_
      refine wpList_nil ?_
      refine wp_seq ?_
      refine wp_region_list ?_
      refine skp (.int .i64 0) ?_
      refine skp (.int .i64 0) ?_
      refine sk (a' := (up (or1_b53 A0 c0 l0 c1 lo bs g z i p ad k sg) [])) (.bool false) ?_
      refine sk (a' := (up (or1_b53 A0 c0 l0 c1 lo bs g z i p ad k sg) [(90, .bool false)])) (.bool false) ?_
      refine sk (a' := (up (or1_b53 A0 c0 l0 c1 lo bs g z i p ad k sg) [(90, .bool false), (91, .bool false)])) (.bool false) ?_
      refine sk (a' := (up (or1_b53 A0 c0 l0 c1 lo bs g z i p ad k sg) [(90, .bool false), (91, .bool false), (92, .bool true)])) (.bool true) ?_
      refine skp (.bool false) ?_
      refine skp (.bool false) ?_
      refine sk (a' := (up (or1_b55 A0 c0 l0 c1 lo bs g z i p ad k sg) [])) (.bool false) ?_
      refine sk (a' := (up (or1_b55 A0 c0 l0 c1 lo bs g z i p ad k sg) [(96, .pointer (some ⟨g, 0, none⟩))])) (.pointer (some ⟨g, 0, none⟩)) ?_
      refine st_call (rd_At hR) (by kernel_rfl) (by kernel_rfl) ?_
      rintro _ W4 ⟨rfl, hB⟩
      have hW := hW.step hB
      have hR := hR.below hB
      refine ⟨_, (up (or1_b55 A0 c0 l0 c1 lo bs g z i p ad k sg) [(96, .pointer (some ⟨g, 0, none⟩)), (97, .int .i64 (p : Int))]), rfl, by kernel_rfl, ?_⟩
      refine sk (a' := (up (or1_b55 A0 c0 l0 c1 lo bs g z i p ad k sg) [(96, .pointer (some ⟨g, 0, none⟩)), (97, .int .i64 (p : Int)), (98, .int .i64 (p : Int))])) (.int .i64 (p : Int)) ?_
      refine sep (.bool false) (Eq.trans (b := .ok (.value (.bool (((p : Int) : Int) != (p : Int)))) W4) (by kernel_rfl) (st_ok (bne_eq_false_iff_eq.2 (by omega)))) ?_
      refine skp (.bool false) ?_
      refine sk (a' := (up (or1_b57 A0 c0 l0 c1 lo bs g z i p ad k sg) [])) (.bool false) ?_
      refine sk (a' := (up (or1_b57 A0 c0 l0 c1 lo bs g z i p ad k sg) [(102, .pointer (some ⟨g, 0, none⟩))])) (.pointer (some ⟨g, 0, none⟩)) ?_
      refine st_call (rd_Left hR) (by kernel_rfl) (by kernel_rfl) ?_
      rintro _ W5 ⟨rfl, hB⟩
      have hW := hW.step hB
      have hR := hR.below hB
      refine ⟨_, (up (or1_b57 A0 c0 l0 c1 lo bs g z i p ad k sg) [(102, .pointer (some ⟨g, 0, none⟩)), (103, .int .i64 ((bs.length : Int) - (p : Int)))]), rfl, by kernel_rfl, ?_⟩
      refine sk (a' := (up (or1_b57 A0 c0 l0 c1 lo bs g z i p ad k sg) [(102, .pointer (some ⟨g, 0, none⟩)), (103, .int .i64 ((bs.length : Int) - (p : Int))), (104, .slice A0 bs.length c0)])) (.slice A0 bs.length c0) ?_
      refine sk (a' := (up (or1_b57 A0 c0 l0 c1 lo bs g z i p ad k sg) [(102, .pointer (some ⟨g, 0, none⟩)), (103, .int .i64 ((bs.length : Int) - (p : Int))), (104, .slice A0 bs.length c0), (105, .int .i64 (bs.length : Int))])) (.int .i64 (bs.length : Int)) ?_
      refine sk (a' := (up (or1_b57 A0 c0 l0 c1 lo bs g z i p ad k sg) [(102, .pointer (some ⟨g, 0, none⟩)), (103, .int .i64 ((bs.length : Int) - (p : Int))), (104, .slice A0 bs.length c0), (105, .int .i64 (bs.length : Int)), (106, .int .i64 (p : Int))])) (.int .i64 (p : Int)) ?_
      refine se (a' := (up (or1_b59 A0 c0 l0 c1 lo bs g z i p ad k sg) [])) (.int .i64 ((bs.length : Int) - (p : Int))) (Eq.trans (b := .ok (.value (.int .i64 (IntKind.wrap .i64 ((bs.length : Int) - (p : Int))))) W5) (by kernel_rfl) (by rw [hwl])) ?_
      refine sep (.bool false) (Eq.trans (b := .ok (.value (.bool ((((bs.length : Int) - (p : Int)) : Int) != ((bs.length : Int) - (p : Int))))) W5) (by kernel_rfl) (st_ok (bne_eq_false_iff_eq.2 (by omega)))) ?_
      refine skp (.bool false) ?_
      refine sk (a' := (up (or1_b59 A0 c0 l0 c1 lo bs g z i p ad k sg) [(108, .bool false), (109, .bool false), (110, .bool false)])) (.bool false) ?_
      refine sk (a' := (up (or1_b59 A0 c0 l0 c1 lo bs g z i p ad k sg) [(108, .bool false), (109, .bool false), (110, .bool false), (111, .pointer (some ⟨g, 0, none⟩))])) (.pointer (some ⟨g, 0, none⟩)) ?_
      refine st_call (rd_Bad hR) (by kernel_rfl) (by kernel_rfl) ?_
      rintro _ W6 ⟨rfl, hB⟩
      have hW := hW.step hB
      have hR := hR.below hB
      refine ⟨_, (up (or1_b59 A0 c0 l0 c1 lo bs g z i p ad k sg) [(108, .bool false), (109, .bool false), (110, .bool false), (111, .pointer (some ⟨g, 0, none⟩)), (112, .bool true)]), rfl, by kernel_rfl, ?_⟩
      refine sk (a' := (up (or1_b62 A0 c0 l0 c1 lo bs g z i p ad k sg) [])) (.bool true) ?_
      refine skp (.bool false) ?_
      refine sk (a' := (up (or1_b62 A0 c0 l0 c1 lo bs g z i p ad k sg) [(114, .bool false), (115, .bool false)])) (.bool false) ?_
      refine wpList_nil ?_
      refine wp_cond (t := false) (by kernel_rfl) ?_
      refine wp_skip ?_
      refine wp_region_list ?_
      refine skp (.int .i64 (i : Int)) ?_
      refine sep (.int .i64 ((i + 1 : Nat) : Int)) (Eq.trans (b := .ok (.value (.int .i64 (IntKind.wrap .i64 ((i : Int) + 1)))) W6) (by kernel_rfl) (by rw [hwi])) ?_
      refine sk (a' := (up (or1_b62 A0 c0 l0 c1 lo bs g z i p ad k sg) [(8, .int .i64 ((i + 1 : Nat) : Int)), (30, .int .i64 (i : Int)), (31, .int .i64 ((i + 1 : Nat) : Int)), (114, .bool false), (115, .bool false)])) (.int .i64 ((i + 1 : Nat) : Int)) ?_
      refine wpList_nil ?_
      exact lp_next (lo.length - (i + 1)) (by omega) ⟨(fun mm => ((up (or1_b62 A0 c0 l0 c1 lo bs g z i p ad k sg) [(8, .int .i64 ((i + 1 : Nat) : Int)), (30, .int .i64 (i : Int)), (31, .int .i64 ((i + 1 : Nat) : Int)), (114, .bool false), (115, .bool false)])).tmps.getD mm undef), (i + 1), p, true, by kernel_rfl, hW, hR, (by omega), (by omega), rfl⟩
    · skip
      have hwi : IntKind.wrap .i64 ((i : Int) + 1) = ((i + 1 : Nat) : Int) := by rw [IntKind.wrap_i64]; omega
      refine wp_region_list ?_
      refine skp (.int .i64 (i : Int)) ?_
      refine skp (.slice (some ad) lo.length c1) ?_
      refine sk (a' := (up (or1_b64 A0 c0 l0 c1 lo bs g z i p ad) [(23, .slice (some ad) lo.length c1), (24, .int .i64 (lo.length : Int))])) (.int .i64 (lo.length : Int)) ?_
      refine sep (.bool true) (Eq.trans (b := .ok (.value (.bool (decide (((i : Int) : Int) < (lo.length : Int))))) Wl) (by kernel_rfl) (st_ok (decide_eq_true (by omega)))) ?_
      refine sk (a' := (up (or1_b64 A0 c0 l0 c1 lo bs g z i p ad) [(23, .slice (some ad) lo.length c1), (24, .int .i64 (lo.length : Int)), (25, .bool true), (26, .bool true)])) (.bool true) ?_
      refine sk (a' := (up (or1_b64 A0 c0 l0 c1 lo bs g z i p ad) [(23, .slice (some ad) lo.length c1), (24, .int .i64 (lo.length : Int)), (25, .bool true), (26, .bool true), (27, .int .i64 (i : Int))])) (.int .i64 (i : Int)) ?_
      refine sep (.bool true) (Eq.trans (b := .ok (.value (.bool (decide (((i : Int) : Int) < 60)))) Wl) (by kernel_rfl) (st_ok (decide_eq_true (by omega)))) ?_
      refine sk (a' := (up (or1_b65 A0 c0 l0 c1 lo bs g z i p ad) [(29, .bool true)])) (.bool true) ?_
      refine wpList_nil ?_
      refine wp_cond (t := true) (by kernel_rfl) ?_
      refine wp_skip ?_
      refine wp_seq ?_
      refine wp_block ?_
      refine wp_seq ?_
      refine wp_region_list ?_
      refine skp (.slice (some ad) lo.length c1) ?_
      refine skp (.int .i64 (i : Int)) ?_
      refine se (a' := (up (or1_b65 A0 c0 l0 c1 lo bs g z i p ad) [(29, .bool true), (32, .slice (some ad) lo.length c1), (33, .int .i64 (i : Int)), (34, .pointer (some (ad.add (i * 2))))])) (.pointer (some (ad.add (i * 2)))) (Eq.trans (b := (do pure (Next.value (← Instr.indexAt 35 (.slice (some ad) lo.length c1) (.int .i64 (i : Int)))) : Sem Next).run Try.prog Wl) (by kernel_rfl) (st_val (idx_op hin Wl))) ?_
      refine skp (.pointer (some (ad.add (i * 2)))) ?_
      refine sep (.int .i64 k) (Eq.trans (b := (do pure (Next.value (← Instr.loadAt 3 (.pointer (some (ad.add (i * 2)))))) : Sem Next).run Try.prog Wl) (by kernel_rfl) (st_val (load_one Wl _ 3 _ _ ((hop.below hW.below).cell 0 _ rfl) Try.underlying3 rfl))) ?_
      refine sk (a' := (up (or1_b66 A0 c0 l0 c1 lo bs g z i p ad k) [(9, .int .i64 k)])) (.int .i64 k) ?_
      refine wpList_nil ?_
      refine wp_seq ?_
      refine wp_region_list ?_
      refine skp (.bool false) ?_
      refine sk (a' := (up (or1_b66 A0 c0 l0 c1 lo bs g z i p ad k) [(9, .int .i64 k), (37, .bool false), (38, .bool false)])) (.bool false) ?_
      refine sk (a' := (up (or1_b66 A0 c0 l0 c1 lo bs g z i p ad k) [(9, .int .i64 k), (37, .bool false), (38, .bool false), (39, .int .i64 k)])) (.int .i64 k) ?_
      refine sep (.bool true) (Eq.trans (b := .ok (.value (.bool (decide ((k : Int) < 1)))) Wl) (by kernel_rfl) (st_ok (decide_eq_true (by omega)))) ?_
      refine skp (.bool true) ?_
      refine st_ones (w' := Wl) (a' := (up (or1_b69 A0 c0 l0 c1 lo bs g z i p ad k) [(42, .bool true)])) (a2 := (up (or1_b69 A0 c0 l0 c1 lo bs g z i p ad k) [(42, .bool true), (43, zz), (44, zz)])) 2 (.bool true) (by kernel_rfl) (by kernel_rfl) (by kernel_rfl) (by kernel_rfl) (by kernel_rfl) ?_
      refine sk (a' := (up (or1_b69 A0 c0 l0 c1 lo bs g z i p ad k) [(42, .bool true), (43, zz), (44, zz), (45, .bool true)])) (.bool true) ?_
      refine st_ones (w' := Wl) (a' := (up (or1_b69 A0 c0 l0 c1 lo bs g z i p ad k) [(42, .bool true), (43, zz), (44, zz), (45, .bool true), (46, .bool true)])) (a2 := (up (or1_b71 A0 c0 l0 c1 lo bs g z i p ad k) [])) 6 (.bool true) (by kernel_rfl) (by kernel_rfl) (by kernel_rfl) (by kernel_rfl) (by kernel_rfl) ?_
      refine skp (.bool true) ?_
      refine sk (a' := (up (or1_b71 A0 c0 l0 c1 lo bs g z i p ad k) [(7, .bool true), (53, .bool true)])) (.bool true) ?_
      refine wpList_nil ?_
      refine wp_seq ?_
      refine wp_region_list ?_
      refine sk (a' := (up (or1_b71 A0 c0 l0 c1 lo bs g z i p ad k) [(7, .bool true), (10, .int .i64 0), (53, .bool true)])) (.int .i64 0) ?_
      refine wpList_nil ?_
      refine wp_seq ?_
      refine wp_seq ?_
      refine wp_region_list ?_
      refine skp (.bool true) ?_
      refine sk (a' := (up (or1_b71 A0 c0 l0 c1 lo bs g z i p ad k) [(7, .bool true), (10, .int .i64 0), (53, .bool true), (54, .bool true), (55, .bool false)])) (.bool false) ?_
      refine wpList_nil ?_
      refine wp_cond (t := false) (by kernel_rfl) ?_
      refine wp_skip ?_
      refine wp_seq ?_
      refine wp_region_list ?_
      refine skp (.pointer (some ⟨g, 0, none⟩)) ?_
      refine skp (.slice (some ad) lo.length c1) ?_
      refine sk (a' := (up (or1_b72 A0 c0 l0 c1 lo bs g z i p ad k) [(80, .slice (some ad) lo.length c1), (81, .int .i64 (i : Int))])) (.int .i64 (i : Int)) ?_
      refine sep (.pointer (some (ad.add (i * 2)))) (Eq.trans (b := (do pure (Next.value (← Instr.indexAt 35 (.slice (some ad) lo.length c1) (.int .i64 (i : Int)))) : Sem Next).run Try.prog Wl) (by kernel_rfl) (st_val (idx_op hin Wl))) ?_
      refine se (a' := (up (or1_b72 A0 c0 l0 c1 lo bs g z i p ad k) [(80, .slice (some ad) lo.length c1), (81, .int .i64 (i : Int)), (82, .pointer (some (ad.add (i * 2)))), (83, .agg #[.int .i64 k, .bool sg])])) (.agg #[.int .i64 k, .bool sg]) (Eq.trans (b := (do pure (Next.value (← Instr.loadAt 39 (.pointer (some (ad.add (i * 2)))))) : Sem Next).run Try.prog Wl) (by kernel_rfl) (st_val (load_row Wl _ 39 _ _ (hop.below hW.below).cell Try.underlying39 rfl (by kernel_rfl)))) ?_
      refine st_call (cl_no hR k (rd_or (.inr (.inl hk))) sg) (by kernel_rfl) (by kernel_rfl) ?_
      rintro _ W3 ⟨rfl, hR, wa, hba, hG⟩
      have hW := Ws.ofBelow (pw_below_grown (below_step hW.below hba) _ (below_step hW.below hba).size hG (by rintro k ⟨rfl⟩; exact hgw))
      refine ⟨_, (up (or1_b72 A0 c0 l0 c1 lo bs g z i p ad k) [(80, .slice (some ad) lo.length c1), (81, .int .i64 (i : Int)), (82, .pointer (some (ad.add (i * 2)))), (83, .agg #[.int .i64 k, .bool sg]), (84, .tuple #[.int .i64 0, .bool false])]), rfl, by kernel_rfl, ?_⟩
      refine skp (.tuple #[.int .i64 0, .bool false]) ?_
      refine skp (.int .i64 0) ?_
      refine sk (a' := (up (or1_b74 A0 c0 l0 c1 lo bs g z i p ad k sg) [(85, .int .i64 0), (86, .bool false)])) (.bool false) ?_
      refine skp (.int .i64 0) ?_
      refine sk (a' := (up (or1_b74 A0 c0 l0 c1 lo bs g z i p ad k sg) [(11, .int .i64 0), (12, .bool false), (85, .int .i64 0), (86, .bool false)])) (.bool false) ?_
      refine wpList_nil ?_
      refine wp_seq ?_
      refine wp_region_list ?_
      refine skp (.int .i64 0) ?_
      refine skp (.int .i64 0) ?_
      refine sk (a' := (up (or1_b76 A0 c0 l0 c1 lo bs g z i p ad k sg) [(89, .bool false)])) (.bool false) ?_
      refine sk (a' := (up (or1_b76 A0 c0 l0 c1 lo bs g z i p ad k sg) [(89, .bool false), (90, .bool false)])) (.bool false) ?_
      refine sk (a' := (up (or1_b76 A0 c0 l0 c1 lo bs g z i p ad k sg) [(89, .bool false), (90, .bool false), (91, .bool false)])) (.bool false) ?_
      refine sk (a' := (up (or1_b76 A0 c0 l0 c1 lo bs g z i p ad k sg) [(89, .bool false), (90, .bool false), (91, .bool false), (92, .bool true)])) (.bool true) ?_
      refine skp (.bool false) ?_
      refine skp (.bool false) ?_
      refine sk (a' := (up (or1_b78 A0 c0 l0 c1 lo bs g z i p ad k sg) [(95, .bool false)])) (.bool false) ?_
      refine sk (a' := (up (or1_b78 A0 c0 l0 c1 lo bs g z i p ad k sg) [(95, .bool false), (96, .pointer (some ⟨g, 0, none⟩))])) (.pointer (some ⟨g, 0, none⟩)) ?_
      refine st_call (rd_At hR) (by kernel_rfl) (by kernel_rfl) ?_
      rintro _ W4 ⟨rfl, hB⟩
      have hW := hW.step hB
      have hR := hR.below hB
      refine ⟨_, (up (or1_b78 A0 c0 l0 c1 lo bs g z i p ad k sg) [(95, .bool false), (96, .pointer (some ⟨g, 0, none⟩)), (97, .int .i64 (p : Int))]), rfl, by kernel_rfl, ?_⟩
      refine sk (a' := (up (or1_b78 A0 c0 l0 c1 lo bs g z i p ad k sg) [(95, .bool false), (96, .pointer (some ⟨g, 0, none⟩)), (97, .int .i64 (p : Int)), (98, .int .i64 (p : Int))])) (.int .i64 (p : Int)) ?_
      refine sep (.bool false) (Eq.trans (b := .ok (.value (.bool (((p : Int) : Int) != (p : Int)))) W4) (by kernel_rfl) (st_ok (bne_eq_false_iff_eq.2 (by omega)))) ?_
      refine skp (.bool false) ?_
      refine sk (a' := (up (or1_b80 A0 c0 l0 c1 lo bs g z i p ad k sg) [(101, .bool false)])) (.bool false) ?_
      refine sk (a' := (up (or1_b80 A0 c0 l0 c1 lo bs g z i p ad k sg) [(101, .bool false), (102, .pointer (some ⟨g, 0, none⟩))])) (.pointer (some ⟨g, 0, none⟩)) ?_
      refine st_call (rd_Left hR) (by kernel_rfl) (by kernel_rfl) ?_
      rintro _ W5 ⟨rfl, hB⟩
      have hW := hW.step hB
      have hR := hR.below hB
      refine ⟨_, (up (or1_b80 A0 c0 l0 c1 lo bs g z i p ad k sg) [(101, .bool false), (102, .pointer (some ⟨g, 0, none⟩)), (103, .int .i64 ((bs.length : Int) - (p : Int)))]), rfl, by kernel_rfl, ?_⟩
      refine sk (a' := (up (or1_b80 A0 c0 l0 c1 lo bs g z i p ad k sg) [(101, .bool false), (102, .pointer (some ⟨g, 0, none⟩)), (103, .int .i64 ((bs.length : Int) - (p : Int))), (104, .slice A0 bs.length c0)])) (.slice A0 bs.length c0) ?_
      refine sk (a' := (up (or1_b80 A0 c0 l0 c1 lo bs g z i p ad k sg) [(101, .bool false), (102, .pointer (some ⟨g, 0, none⟩)), (103, .int .i64 ((bs.length : Int) - (p : Int))), (104, .slice A0 bs.length c0), (105, .int .i64 (bs.length : Int))])) (.int .i64 (bs.length : Int)) ?_
      refine sk (a' := (up (or1_b82 A0 c0 l0 c1 lo bs g z i p ad k sg) [])) (.int .i64 (p : Int)) ?_
      refine se (a' := (up (or1_b82 A0 c0 l0 c1 lo bs g z i p ad k sg) [(107, .int .i64 ((bs.length : Int) - (p : Int)))])) (.int .i64 ((bs.length : Int) - (p : Int))) (Eq.trans (b := .ok (.value (.int .i64 (IntKind.wrap .i64 ((bs.length : Int) - (p : Int))))) W5) (by kernel_rfl) (by rw [hwl])) ?_
      refine sep (.bool false) (Eq.trans (b := .ok (.value (.bool ((((bs.length : Int) - (p : Int)) : Int) != ((bs.length : Int) - (p : Int))))) W5) (by kernel_rfl) (st_ok (bne_eq_false_iff_eq.2 (by omega)))) ?_
      refine skp (.bool false) ?_
      refine sk (a' := (up (or1_b82 A0 c0 l0 c1 lo bs g z i p ad k sg) [(107, .int .i64 ((bs.length : Int) - (p : Int))), (108, .bool false), (109, .bool false), (110, .bool false)])) (.bool false) ?_
      refine sk (a' := (up (or1_b82 A0 c0 l0 c1 lo bs g z i p ad k sg) [(107, .int .i64 ((bs.length : Int) - (p : Int))), (108, .bool false), (109, .bool false), (110, .bool false), (111, .pointer (some ⟨g, 0, none⟩))])) (.pointer (some ⟨g, 0, none⟩)) ?_
      refine st_call (rd_Bad hR) (by kernel_rfl) (by kernel_rfl) ?_
      rintro _ W6 ⟨rfl, hB⟩
      have hW := hW.step hB
      have hR := hR.below hB
      refine ⟨_, (up (or1_b84 A0 c0 l0 c1 lo bs g z i p ad k sg) []), rfl, by kernel_rfl, ?_⟩
      refine sk (a' := (up (or1_b84 A0 c0 l0 c1 lo bs g z i p ad k sg) [(113, .bool true)])) (.bool true) ?_
      refine skp (.bool false) ?_
      refine sk (a' := (up (or1_b84 A0 c0 l0 c1 lo bs g z i p ad k sg) [(113, .bool true), (114, .bool false), (115, .bool false)])) (.bool false) ?_
      refine wpList_nil ?_
      refine wp_cond (t := false) (by kernel_rfl) ?_
      refine wp_skip ?_
      refine wp_region_list ?_
      refine skp (.int .i64 (i : Int)) ?_
      refine sep (.int .i64 ((i + 1 : Nat) : Int)) (Eq.trans (b := .ok (.value (.int .i64 (IntKind.wrap .i64 ((i : Int) + 1)))) W6) (by kernel_rfl) (by rw [hwi])) ?_
      refine sk (a' := (up (or1_b88 A0 c0 l0 c1 lo bs g z i p ad k sg) [])) (.int .i64 ((i + 1 : Nat) : Int)) ?_
      refine wpList_nil ?_
      exact lp_next (lo.length - (i + 1)) (by omega) ⟨(fun mm => ((up (or1_b88 A0 c0 l0 c1 lo bs g z i p ad k sg) [])).tmps.getD mm undef), (i + 1), p, true, by kernel_rfl, hW, hR, (by omega), (by omega), rfl⟩
    · skip
      have hwi : IntKind.wrap .i64 ((i : Int) + 1) = ((i + 1 : Nat) : Int) := by rw [IntKind.wrap_i64]; omega
      refine wp_region_list ?_
      refine skp (.int .i64 (i : Int)) ?_
      refine skp (.slice (some ad) lo.length c1) ?_
      refine sk (a' := (up (or1_b64 A0 c0 l0 c1 lo bs g z i p ad) [(23, .slice (some ad) lo.length c1), (24, .int .i64 (lo.length : Int))])) (.int .i64 (lo.length : Int)) ?_
      refine sep (.bool true) (Eq.trans (b := .ok (.value (.bool (decide (((i : Int) : Int) < (lo.length : Int))))) Wl) (by kernel_rfl) (st_ok (decide_eq_true (by omega)))) ?_
      refine sk (a' := (up (or1_b64 A0 c0 l0 c1 lo bs g z i p ad) [(23, .slice (some ad) lo.length c1), (24, .int .i64 (lo.length : Int)), (25, .bool true), (26, .bool true)])) (.bool true) ?_
      refine sk (a' := (up (or1_b64 A0 c0 l0 c1 lo bs g z i p ad) [(23, .slice (some ad) lo.length c1), (24, .int .i64 (lo.length : Int)), (25, .bool true), (26, .bool true), (27, .int .i64 (i : Int))])) (.int .i64 (i : Int)) ?_
      refine sep (.bool true) (Eq.trans (b := .ok (.value (.bool (decide (((i : Int) : Int) < 60)))) Wl) (by kernel_rfl) (st_ok (decide_eq_true (by omega)))) ?_
      refine sk (a' := (up (or1_b65 A0 c0 l0 c1 lo bs g z i p ad) [(29, .bool true)])) (.bool true) ?_
      refine wpList_nil ?_
      refine wp_cond (t := true) (by kernel_rfl) ?_
      refine wp_skip ?_
      refine wp_seq ?_
      refine wp_block ?_
      refine wp_seq ?_
      refine wp_region_list ?_
      refine skp (.slice (some ad) lo.length c1) ?_
      refine skp (.int .i64 (i : Int)) ?_
      refine se (a' := (up (or1_b65 A0 c0 l0 c1 lo bs g z i p ad) [(29, .bool true), (32, .slice (some ad) lo.length c1), (33, .int .i64 (i : Int)), (34, .pointer (some (ad.add (i * 2))))])) (.pointer (some (ad.add (i * 2)))) (Eq.trans (b := (do pure (Next.value (← Instr.indexAt 35 (.slice (some ad) lo.length c1) (.int .i64 (i : Int)))) : Sem Next).run Try.prog Wl) (by kernel_rfl) (st_val (idx_op hin Wl))) ?_
      refine skp (.pointer (some (ad.add (i * 2)))) ?_
      refine sep (.int .i64 k) (Eq.trans (b := (do pure (Next.value (← Instr.loadAt 3 (.pointer (some (ad.add (i * 2)))))) : Sem Next).run Try.prog Wl) (by kernel_rfl) (st_val (load_one Wl _ 3 _ _ ((hop.below hW.below).cell 0 _ rfl) Try.underlying3 rfl))) ?_
      refine sk (a' := (up (or1_b66 A0 c0 l0 c1 lo bs g z i p ad k) [(9, .int .i64 k)])) (.int .i64 k) ?_
      refine wpList_nil ?_
      refine wp_seq ?_
      refine wp_region_list ?_
      refine skp (.bool false) ?_
      refine sk (a' := (up (or1_b66 A0 c0 l0 c1 lo bs g z i p ad k) [(9, .int .i64 k), (37, .bool false), (38, .bool false)])) (.bool false) ?_
      refine sk (a' := (up (or1_b66 A0 c0 l0 c1 lo bs g z i p ad k) [(9, .int .i64 k), (37, .bool false), (38, .bool false), (39, .int .i64 k)])) (.int .i64 k) ?_
      refine sep (.bool false) (Eq.trans (b := .ok (.value (.bool (decide ((k : Int) < 1)))) Wl) (by kernel_rfl) (st_ok (decide_eq_false (by omega)))) ?_
      refine skp (.bool false) ?_
      refine sk (a' := (up (or1_b90 A0 c0 l0 c1 lo bs g z i p ad k) [(42, .bool false)])) (.bool false) ?_
      refine sk (a' := (up (or1_b90 A0 c0 l0 c1 lo bs g z i p ad k) [(42, .bool false), (43, .int .i64 k)])) (.int .i64 k) ?_
      refine sep (.bool true) (Eq.trans (b := .ok (.value (.bool (decide ((k : Int) > 8)))) Wl) (by kernel_rfl) (st_ok (decide_eq_true (by omega)))) ?_
      refine skp (.bool true) ?_
      refine st_ones (w' := Wl) (a' := (up (or1_b90 A0 c0 l0 c1 lo bs g z i p ad k) [(42, .bool false), (43, .int .i64 k), (44, .bool true), (45, .bool true), (46, .bool true)])) (a2 := (up (or1_b92 A0 c0 l0 c1 lo bs g z i p ad k) [])) 6 (.bool true) (by kernel_rfl) (by kernel_rfl) (by kernel_rfl) (by kernel_rfl) (by kernel_rfl) ?_
      refine sk (a' := (up (or1_b92 A0 c0 l0 c1 lo bs g z i p ad k) [(53, .bool true)])) (.bool true) ?_
      refine sk (a' := (up (or1_b92 A0 c0 l0 c1 lo bs g z i p ad k) [(7, .bool true), (53, .bool true)])) (.bool true) ?_
      refine wpList_nil ?_
      refine wp_seq ?_
      refine wp_region_list ?_
      refine sk (a' := (up (or1_b92 A0 c0 l0 c1 lo bs g z i p ad k) [(7, .bool true), (10, .int .i64 0), (53, .bool true)])) (.int .i64 0) ?_
      refine wpList_nil ?_
      refine wp_seq ?_
      refine wp_seq ?_
      refine wp_region_list ?_
      refine skp (.bool true) ?_
      refine sk (a' := (up (or1_b92 A0 c0 l0 c1 lo bs g z i p ad k) [(7, .bool true), (10, .int .i64 0), (53, .bool true), (54, .bool true), (55, .bool false)])) (.bool false) ?_
      refine wpList_nil ?_
      refine wp_cond (t := false) (by kernel_rfl) ?_
      refine wp_skip ?_
      refine wp_seq ?_
      refine wp_region_list ?_
      refine skp (.pointer (some ⟨g, 0, none⟩)) ?_
      refine skp (.slice (some ad) lo.length c1) ?_
      refine sk (a' := (up (or1_b93 A0 c0 l0 c1 lo bs g z i p ad k) [(80, .slice (some ad) lo.length c1), (81, .int .i64 (i : Int))])) (.int .i64 (i : Int)) ?_
      refine sep (.pointer (some (ad.add (i * 2)))) (Eq.trans (b := (do pure (Next.value (← Instr.indexAt 35 (.slice (some ad) lo.length c1) (.int .i64 (i : Int)))) : Sem Next).run Try.prog Wl) (by kernel_rfl) (st_val (idx_op hin Wl))) ?_
      refine se (a' := (up (or1_b93 A0 c0 l0 c1 lo bs g z i p ad k) [(80, .slice (some ad) lo.length c1), (81, .int .i64 (i : Int)), (82, .pointer (some (ad.add (i * 2)))), (83, .agg #[.int .i64 k, .bool sg])])) (.agg #[.int .i64 k, .bool sg]) (Eq.trans (b := (do pure (Next.value (← Instr.loadAt 39 (.pointer (some (ad.add (i * 2)))))) : Sem Next).run Try.prog Wl) (by kernel_rfl) (st_val (load_row Wl _ 39 _ _ (hop.below hW.below).cell Try.underlying39 rfl (by kernel_rfl)))) ?_
      refine st_call (cl_no hR k (rd_or (.inr (.inr (.inl hk.2)))) sg) (by kernel_rfl) (by kernel_rfl) ?_
      rintro _ W3 ⟨rfl, hR, wa, hba, hG⟩
      have hW := Ws.ofBelow (pw_below_grown (below_step hW.below hba) _ (below_step hW.below hba).size hG (by rintro k ⟨rfl⟩; exact hgw))
      refine ⟨_, (up (or1_b93 A0 c0 l0 c1 lo bs g z i p ad k) [(80, .slice (some ad) lo.length c1), (81, .int .i64 (i : Int)), (82, .pointer (some (ad.add (i * 2)))), (83, .agg #[.int .i64 k, .bool sg]), (84, .tuple #[.int .i64 0, .bool false])]), rfl, by kernel_rfl, ?_⟩
      refine skp (.tuple #[.int .i64 0, .bool false]) ?_
      refine skp (.int .i64 0) ?_
      refine sk (a' := (up (or1_b94 A0 c0 l0 c1 lo bs g z i p ad k sg) [(85, .int .i64 0), (86, .bool false)])) (.bool false) ?_
      refine skp (.int .i64 0) ?_
      refine sk (a' := (up (or1_b94 A0 c0 l0 c1 lo bs g z i p ad k sg) [(11, .int .i64 0), (12, .bool false), (85, .int .i64 0), (86, .bool false)])) (.bool false) ?_
      refine wpList_nil ?_
      refine wp_seq ?_
      refine wp_region_list ?_
      refine skp (.int .i64 0) ?_
      refine skp (.int .i64 0) ?_
      refine sk (a' := (up (or1_b95 A0 c0 l0 c1 lo bs g z i p ad k sg) [(89, .bool false)])) (.bool false) ?_
      refine sk (a' := (up (or1_b95 A0 c0 l0 c1 lo bs g z i p ad k sg) [(89, .bool false), (90, .bool false)])) (.bool false) ?_
      refine sk (a' := (up (or1_b95 A0 c0 l0 c1 lo bs g z i p ad k sg) [(89, .bool false), (90, .bool false), (91, .bool false)])) (.bool false) ?_
      refine sk (a' := (up (or1_b95 A0 c0 l0 c1 lo bs g z i p ad k sg) [(89, .bool false), (90, .bool false), (91, .bool false), (92, .bool true)])) (.bool true) ?_
      refine skp (.bool false) ?_
      refine skp (.bool false) ?_
      refine sk (a' := (up (or1_b96 A0 c0 l0 c1 lo bs g z i p ad k sg) [(95, .bool false)])) (.bool false) ?_
      refine sk (a' := (up (or1_b96 A0 c0 l0 c1 lo bs g z i p ad k sg) [(95, .bool false), (96, .pointer (some ⟨g, 0, none⟩))])) (.pointer (some ⟨g, 0, none⟩)) ?_
      refine st_call (rd_At hR) (by kernel_rfl) (by kernel_rfl) ?_
      rintro _ W4 ⟨rfl, hB⟩
      have hW := hW.step hB
      have hR := hR.below hB
      refine ⟨_, (up (or1_b96 A0 c0 l0 c1 lo bs g z i p ad k sg) [(95, .bool false), (96, .pointer (some ⟨g, 0, none⟩)), (97, .int .i64 (p : Int))]), rfl, by kernel_rfl, ?_⟩
      refine sk (a' := (up (or1_b96 A0 c0 l0 c1 lo bs g z i p ad k sg) [(95, .bool false), (96, .pointer (some ⟨g, 0, none⟩)), (97, .int .i64 (p : Int)), (98, .int .i64 (p : Int))])) (.int .i64 (p : Int)) ?_
      refine sep (.bool false) (Eq.trans (b := .ok (.value (.bool (((p : Int) : Int) != (p : Int)))) W4) (by kernel_rfl) (st_ok (bne_eq_false_iff_eq.2 (by omega)))) ?_
      refine skp (.bool false) ?_
      refine sk (a' := (up (or1_b97 A0 c0 l0 c1 lo bs g z i p ad k sg) [(101, .bool false)])) (.bool false) ?_
      refine sk (a' := (up (or1_b97 A0 c0 l0 c1 lo bs g z i p ad k sg) [(101, .bool false), (102, .pointer (some ⟨g, 0, none⟩))])) (.pointer (some ⟨g, 0, none⟩)) ?_
      refine st_call (rd_Left hR) (by kernel_rfl) (by kernel_rfl) ?_
      rintro _ W5 ⟨rfl, hB⟩
      have hW := hW.step hB
      have hR := hR.below hB
      refine ⟨_, (up (or1_b97 A0 c0 l0 c1 lo bs g z i p ad k sg) [(101, .bool false), (102, .pointer (some ⟨g, 0, none⟩)), (103, .int .i64 ((bs.length : Int) - (p : Int)))]), rfl, by kernel_rfl, ?_⟩
      refine sk (a' := (up (or1_b97 A0 c0 l0 c1 lo bs g z i p ad k sg) [(101, .bool false), (102, .pointer (some ⟨g, 0, none⟩)), (103, .int .i64 ((bs.length : Int) - (p : Int))), (104, .slice A0 bs.length c0)])) (.slice A0 bs.length c0) ?_
      refine sk (a' := (up (or1_b97 A0 c0 l0 c1 lo bs g z i p ad k sg) [(101, .bool false), (102, .pointer (some ⟨g, 0, none⟩)), (103, .int .i64 ((bs.length : Int) - (p : Int))), (104, .slice A0 bs.length c0), (105, .int .i64 (bs.length : Int))])) (.int .i64 (bs.length : Int)) ?_
      refine sk (a' := (up (or1_b98 A0 c0 l0 c1 lo bs g z i p ad k sg) [])) (.int .i64 (p : Int)) ?_
      refine se (a' := (up (or1_b98 A0 c0 l0 c1 lo bs g z i p ad k sg) [(107, .int .i64 ((bs.length : Int) - (p : Int)))])) (.int .i64 ((bs.length : Int) - (p : Int))) (Eq.trans (b := .ok (.value (.int .i64 (IntKind.wrap .i64 ((bs.length : Int) - (p : Int))))) W5) (by kernel_rfl) (by rw [hwl])) ?_
      refine sep (.bool false) (Eq.trans (b := .ok (.value (.bool ((((bs.length : Int) - (p : Int)) : Int) != ((bs.length : Int) - (p : Int))))) W5) (by kernel_rfl) (st_ok (bne_eq_false_iff_eq.2 (by omega)))) ?_
      refine skp (.bool false) ?_
      refine sk (a' := (up (or1_b98 A0 c0 l0 c1 lo bs g z i p ad k sg) [(107, .int .i64 ((bs.length : Int) - (p : Int))), (108, .bool false), (109, .bool false), (110, .bool false)])) (.bool false) ?_
      refine sk (a' := (up (or1_b98 A0 c0 l0 c1 lo bs g z i p ad k sg) [(107, .int .i64 ((bs.length : Int) - (p : Int))), (108, .bool false), (109, .bool false), (110, .bool false), (111, .pointer (some ⟨g, 0, none⟩))])) (.pointer (some ⟨g, 0, none⟩)) ?_
      refine st_call (rd_Bad hR) (by kernel_rfl) (by kernel_rfl) ?_
      rintro _ W6 ⟨rfl, hB⟩
      have hW := hW.step hB
      have hR := hR.below hB
      refine ⟨_, (up (or1_b99 A0 c0 l0 c1 lo bs g z i p ad k sg) []), rfl, by kernel_rfl, ?_⟩
      refine sk (a' := (up (or1_b99 A0 c0 l0 c1 lo bs g z i p ad k sg) [(113, .bool true)])) (.bool true) ?_
      refine skp (.bool false) ?_
      refine sk (a' := (up (or1_b99 A0 c0 l0 c1 lo bs g z i p ad k sg) [(113, .bool true), (114, .bool false), (115, .bool false)])) (.bool false) ?_
      refine wpList_nil ?_
      refine wp_cond (t := false) (by kernel_rfl) ?_
      refine wp_skip ?_
      refine wp_region_list ?_
      refine skp (.int .i64 (i : Int)) ?_
      refine sep (.int .i64 ((i + 1 : Nat) : Int)) (Eq.trans (b := .ok (.value (.int .i64 (IntKind.wrap .i64 ((i : Int) + 1)))) W6) (by kernel_rfl) (by rw [hwi])) ?_
      refine sk (a' := (up (or1_b100 A0 c0 l0 c1 lo bs g z i p ad k sg) [])) (.int .i64 ((i + 1 : Nat) : Int)) ?_
      refine wpList_nil ?_
      exact lp_next (lo.length - (i + 1)) (by omega) ⟨(fun mm => ((up (or1_b100 A0 c0 l0 c1 lo bs g z i p ad k sg) [])).tmps.getD mm undef), (i + 1), p, true, by kernel_rfl, hW, hR, (by omega), (by omega), rfl⟩
    · skip
      have hwi : IntKind.wrap .i64 ((i : Int) + 1) = ((i + 1 : Nat) : Int) := by rw [IntKind.wrap_i64]; omega
      have hwpk : IntKind.wrap .i64 ((p : Int) + k) = ((p + k.toNat : Nat) : Int) := by rw [IntKind.wrap_i64]; omega
      refine wp_region_list ?_
      refine skp (.int .i64 (i : Int)) ?_
      refine skp (.slice (some ad) lo.length c1) ?_
      refine sk (a' := (up (or1_b64 A0 c0 l0 c1 lo bs g z i p ad) [(23, .slice (some ad) lo.length c1), (24, .int .i64 (lo.length : Int))])) (.int .i64 (lo.length : Int)) ?_
      refine sep (.bool true) (Eq.trans (b := .ok (.value (.bool (decide (((i : Int) : Int) < (lo.length : Int))))) Wl) (by kernel_rfl) (st_ok (decide_eq_true (by omega)))) ?_
      refine sk (a' := (up (or1_b64 A0 c0 l0 c1 lo bs g z i p ad) [(23, .slice (some ad) lo.length c1), (24, .int .i64 (lo.length : Int)), (25, .bool true), (26, .bool true)])) (.bool true) ?_
      refine sk (a' := (up (or1_b64 A0 c0 l0 c1 lo bs g z i p ad) [(23, .slice (some ad) lo.length c1), (24, .int .i64 (lo.length : Int)), (25, .bool true), (26, .bool true), (27, .int .i64 (i : Int))])) (.int .i64 (i : Int)) ?_
      refine sep (.bool true) (Eq.trans (b := .ok (.value (.bool (decide (((i : Int) : Int) < 60)))) Wl) (by kernel_rfl) (st_ok (decide_eq_true (by omega)))) ?_
      refine sk (a' := (up (or1_b65 A0 c0 l0 c1 lo bs g z i p ad) [(29, .bool true)])) (.bool true) ?_
      refine wpList_nil ?_
      refine wp_cond (t := true) (by kernel_rfl) ?_
      refine wp_skip ?_
      refine wp_seq ?_
      refine wp_block ?_
      refine wp_seq ?_
      refine wp_region_list ?_
      refine skp (.slice (some ad) lo.length c1) ?_
      refine skp (.int .i64 (i : Int)) ?_
      refine se (a' := (up (or1_b65 A0 c0 l0 c1 lo bs g z i p ad) [(29, .bool true), (32, .slice (some ad) lo.length c1), (33, .int .i64 (i : Int)), (34, .pointer (some (ad.add (i * 2))))])) (.pointer (some (ad.add (i * 2)))) (Eq.trans (b := (do pure (Next.value (← Instr.indexAt 35 (.slice (some ad) lo.length c1) (.int .i64 (i : Int)))) : Sem Next).run Try.prog Wl) (by kernel_rfl) (st_val (idx_op hin Wl))) ?_
      refine skp (.pointer (some (ad.add (i * 2)))) ?_
      refine sep (.int .i64 k) (Eq.trans (b := (do pure (Next.value (← Instr.loadAt 3 (.pointer (some (ad.add (i * 2)))))) : Sem Next).run Try.prog Wl) (by kernel_rfl) (st_val (load_one Wl _ 3 _ _ ((hop.below hW.below).cell 0 _ rfl) Try.underlying3 rfl))) ?_
      refine sk (a' := (up (or1_b66 A0 c0 l0 c1 lo bs g z i p ad k) [(9, .int .i64 k)])) (.int .i64 k) ?_
      refine wpList_nil ?_
      refine wp_seq ?_
      refine wp_region_list ?_
      refine skp (.bool false) ?_
      refine sk (a' := (up (or1_b66 A0 c0 l0 c1 lo bs g z i p ad k) [(9, .int .i64 k), (37, .bool false), (38, .bool false)])) (.bool false) ?_
      refine sk (a' := (up (or1_b66 A0 c0 l0 c1 lo bs g z i p ad k) [(9, .int .i64 k), (37, .bool false), (38, .bool false), (39, .int .i64 k)])) (.int .i64 k) ?_
      refine sep (.bool false) (Eq.trans (b := .ok (.value (.bool (decide ((k : Int) < 1)))) Wl) (by kernel_rfl) (st_ok (decide_eq_false (by omega)))) ?_
      refine skp (.bool false) ?_
      refine sk (a' := (up (or1_b90 A0 c0 l0 c1 lo bs g z i p ad k) [(42, .bool false)])) (.bool false) ?_
      refine sk (a' := (up (or1_b90 A0 c0 l0 c1 lo bs g z i p ad k) [(42, .bool false), (43, .int .i64 k)])) (.int .i64 k) ?_
      refine sep (.bool false) (Eq.trans (b := .ok (.value (.bool (decide ((k : Int) > 8)))) Wl) (by kernel_rfl) (st_ok (decide_eq_false (by omega)))) ?_
      refine skp (.bool false) ?_
      refine sk (a' := (up (or1_b90 A0 c0 l0 c1 lo bs g z i p ad k) [(42, .bool false), (43, .int .i64 k), (44, .bool false), (45, .bool false), (46, .bool false)])) (.bool false) ?_
      refine sk (a' := (up (or1_b102 A0 c0 l0 c1 lo bs g z i p ad k) [])) (.int .i64 (p : Int)) ?_
      refine sk (a' := (up (or1_b102 A0 c0 l0 c1 lo bs g z i p ad k) [(48, .int .i64 k)])) (.int .i64 k) ?_
      refine se (a' := (up (or1_b102 A0 c0 l0 c1 lo bs g z i p ad k) [(48, .int .i64 k), (49, .int .i64 ((p + k.toNat : Nat) : Int))])) (.int .i64 ((p + k.toNat : Nat) : Int)) (Eq.trans (b := .ok (.value (.int .i64 (IntKind.wrap .i64 ((p : Int) + k)))) Wl) (by kernel_rfl) (by rw [hwpk])) ?_
      refine sk (a' := (up (or1_b102 A0 c0 l0 c1 lo bs g z i p ad k) [(48, .int .i64 k), (49, .int .i64 ((p + k.toNat : Nat) : Int)), (50, .slice A0 bs.length c0)])) (.slice A0 bs.length c0) ?_
      refine sk (a' := (up (or1_b102 A0 c0 l0 c1 lo bs g z i p ad k) [(48, .int .i64 k), (49, .int .i64 ((p + k.toNat : Nat) : Int)), (50, .slice A0 bs.length c0), (51, .int .i64 (bs.length : Int))])) (.int .i64 (bs.length : Int)) ?_
      refine sep (.bool true) (Eq.trans (b := .ok (.value (.bool (decide ((((p + k.toNat : Nat) : Int) : Int) > (bs.length : Int))))) Wl) (by kernel_rfl) (st_ok (decide_eq_true (by omega)))) ?_
      refine skp (.bool true) ?_
      refine sk (a' := (up (or1_b104 A0 c0 l0 c1 lo bs g z i p ad k) [(7, .bool true)])) (.bool true) ?_
      refine wpList_nil ?_
      refine wp_seq ?_
      refine wp_region_list ?_
      refine sk (a' := (up (or1_b104 A0 c0 l0 c1 lo bs g z i p ad k) [(7, .bool true), (10, .int .i64 0)])) (.int .i64 0) ?_
      refine wpList_nil ?_
      refine wp_seq ?_
      refine wp_seq ?_
      refine wp_region_list ?_
      refine skp (.bool true) ?_
      refine sk (a' := (up (or1_b104 A0 c0 l0 c1 lo bs g z i p ad k) [(7, .bool true), (10, .int .i64 0), (54, .bool true), (55, .bool false)])) (.bool false) ?_
      refine wpList_nil ?_
      refine wp_cond (t := false) (by kernel_rfl) ?_
      refine wp_skip ?_
      refine wp_seq ?_
      refine wp_region_list ?_
      refine skp (.pointer (some ⟨g, 0, none⟩)) ?_
      refine skp (.slice (some ad) lo.length c1) ?_
      refine sk (a' := (up (or1_b106 A0 c0 l0 c1 lo bs g z i p ad k) [(81, .int .i64 (i : Int))])) (.int .i64 (i : Int)) ?_
      refine sep (.pointer (some (ad.add (i * 2)))) (Eq.trans (b := (do pure (Next.value (← Instr.indexAt 35 (.slice (some ad) lo.length c1) (.int .i64 (i : Int)))) : Sem Next).run Try.prog Wl) (by kernel_rfl) (st_val (idx_op hin Wl))) ?_
      refine se (a' := (up (or1_b106 A0 c0 l0 c1 lo bs g z i p ad k) [(81, .int .i64 (i : Int)), (82, .pointer (some (ad.add (i * 2)))), (83, .agg #[.int .i64 k, .bool sg])])) (.agg #[.int .i64 k, .bool sg]) (Eq.trans (b := (do pure (Next.value (← Instr.loadAt 39 (.pointer (some (ad.add (i * 2)))))) : Sem Next).run Try.prog Wl) (by kernel_rfl) (st_val (load_row Wl _ 39 _ _ (hop.below hW.below).cell Try.underlying39 rfl (by kernel_rfl)))) ?_
      refine st_call (cl_no hR k (rd_or (.inr (.inr (.inr (by omega))))) sg) (by kernel_rfl) (by kernel_rfl) ?_
      rintro _ W3 ⟨rfl, hR, wa, hba, hG⟩
      have hW := Ws.ofBelow (pw_below_grown (below_step hW.below hba) _ (below_step hW.below hba).size hG (by rintro k ⟨rfl⟩; exact hgw))
      refine ⟨_, (up (or1_b106 A0 c0 l0 c1 lo bs g z i p ad k) [(81, .int .i64 (i : Int)), (82, .pointer (some (ad.add (i * 2)))), (83, .agg #[.int .i64 k, .bool sg]), (84, .tuple #[.int .i64 0, .bool false])]), rfl, by kernel_rfl, ?_⟩
      refine skp (.tuple #[.int .i64 0, .bool false]) ?_
      refine skp (.int .i64 0) ?_
      refine sk (a' := (up (or1_b107 A0 c0 l0 c1 lo bs g z i p ad k sg) [(86, .bool false)])) (.bool false) ?_
      refine skp (.int .i64 0) ?_
      refine sk (a' := (up (or1_b107 A0 c0 l0 c1 lo bs g z i p ad k sg) [(11, .int .i64 0), (12, .bool false), (86, .bool false)])) (.bool false) ?_
      refine wpList_nil ?_
      refine wp_seq ?_
      refine wp_region_list ?_
      refine skp (.int .i64 0) ?_
      refine skp (.int .i64 0) ?_
      refine sk (a' := (up (or1_b108 A0 c0 l0 c1 lo bs g z i p ad k sg) [])) (.bool false) ?_
      refine sk (a' := (up (or1_b108 A0 c0 l0 c1 lo bs g z i p ad k sg) [(90, .bool false)])) (.bool false) ?_
      refine sk (a' := (up (or1_b108 A0 c0 l0 c1 lo bs g z i p ad k sg) [(90, .bool false), (91, .bool false)])) (.bool false) ?_
      refine sk (a' := (up (or1_b108 A0 c0 l0 c1 lo bs g z i p ad k sg) [(90, .bool false), (91, .bool false), (92, .bool true)])) (.bool true) ?_
      refine skp (.bool false) ?_
      refine skp (.bool false) ?_
      refine sk (a' := (up (or1_b109 A0 c0 l0 c1 lo bs g z i p ad k sg) [])) (.bool false) ?_
      refine sk (a' := (up (or1_b109 A0 c0 l0 c1 lo bs g z i p ad k sg) [(96, .pointer (some ⟨g, 0, none⟩))])) (.pointer (some ⟨g, 0, none⟩)) ?_
      refine st_call (rd_At hR) (by kernel_rfl) (by kernel_rfl) ?_
      rintro _ W4 ⟨rfl, hB⟩
      have hW := hW.step hB
      have hR := hR.below hB
      refine ⟨_, (up (or1_b109 A0 c0 l0 c1 lo bs g z i p ad k sg) [(96, .pointer (some ⟨g, 0, none⟩)), (97, .int .i64 (p : Int))]), rfl, by kernel_rfl, ?_⟩
      refine sk (a' := (up (or1_b109 A0 c0 l0 c1 lo bs g z i p ad k sg) [(96, .pointer (some ⟨g, 0, none⟩)), (97, .int .i64 (p : Int)), (98, .int .i64 (p : Int))])) (.int .i64 (p : Int)) ?_
      refine sep (.bool false) (Eq.trans (b := .ok (.value (.bool (((p : Int) : Int) != (p : Int)))) W4) (by kernel_rfl) (st_ok (bne_eq_false_iff_eq.2 (by omega)))) ?_
      refine skp (.bool false) ?_
      refine sk (a' := (up (or1_b110 A0 c0 l0 c1 lo bs g z i p ad k sg) [])) (.bool false) ?_
      refine sk (a' := (up (or1_b110 A0 c0 l0 c1 lo bs g z i p ad k sg) [(102, .pointer (some ⟨g, 0, none⟩))])) (.pointer (some ⟨g, 0, none⟩)) ?_
      refine st_call (rd_Left hR) (by kernel_rfl) (by kernel_rfl) ?_
      rintro _ W5 ⟨rfl, hB⟩
      have hW := hW.step hB
      have hR := hR.below hB
      refine ⟨_, (up (or1_b110 A0 c0 l0 c1 lo bs g z i p ad k sg) [(102, .pointer (some ⟨g, 0, none⟩)), (103, .int .i64 ((bs.length : Int) - (p : Int)))]), rfl, by kernel_rfl, ?_⟩
      refine sk (a' := (up (or1_b110 A0 c0 l0 c1 lo bs g z i p ad k sg) [(102, .pointer (some ⟨g, 0, none⟩)), (103, .int .i64 ((bs.length : Int) - (p : Int))), (104, .slice A0 bs.length c0)])) (.slice A0 bs.length c0) ?_
      refine sk (a' := (up (or1_b110 A0 c0 l0 c1 lo bs g z i p ad k sg) [(102, .pointer (some ⟨g, 0, none⟩)), (103, .int .i64 ((bs.length : Int) - (p : Int))), (104, .slice A0 bs.length c0), (105, .int .i64 (bs.length : Int))])) (.int .i64 (bs.length : Int)) ?_
      refine sk (a' := (up (or1_b110 A0 c0 l0 c1 lo bs g z i p ad k sg) [(102, .pointer (some ⟨g, 0, none⟩)), (103, .int .i64 ((bs.length : Int) - (p : Int))), (104, .slice A0 bs.length c0), (105, .int .i64 (bs.length : Int)), (106, .int .i64 (p : Int))])) (.int .i64 (p : Int)) ?_
      refine se (a' := (up (or1_b111 A0 c0 l0 c1 lo bs g z i p ad k sg) [])) (.int .i64 ((bs.length : Int) - (p : Int))) (Eq.trans (b := .ok (.value (.int .i64 (IntKind.wrap .i64 ((bs.length : Int) - (p : Int))))) W5) (by kernel_rfl) (by rw [hwl])) ?_
      refine sep (.bool false) (Eq.trans (b := .ok (.value (.bool ((((bs.length : Int) - (p : Int)) : Int) != ((bs.length : Int) - (p : Int))))) W5) (by kernel_rfl) (st_ok (bne_eq_false_iff_eq.2 (by omega)))) ?_
      refine skp (.bool false) ?_
      refine sk (a' := (up (or1_b111 A0 c0 l0 c1 lo bs g z i p ad k sg) [(108, .bool false), (109, .bool false), (110, .bool false)])) (.bool false) ?_
      refine sk (a' := (up (or1_b111 A0 c0 l0 c1 lo bs g z i p ad k sg) [(108, .bool false), (109, .bool false), (110, .bool false), (111, .pointer (some ⟨g, 0, none⟩))])) (.pointer (some ⟨g, 0, none⟩)) ?_
      refine st_call (rd_Bad hR) (by kernel_rfl) (by kernel_rfl) ?_
      rintro _ W6 ⟨rfl, hB⟩
      have hW := hW.step hB
      have hR := hR.below hB
      refine ⟨_, (up (or1_b111 A0 c0 l0 c1 lo bs g z i p ad k sg) [(108, .bool false), (109, .bool false), (110, .bool false), (111, .pointer (some ⟨g, 0, none⟩)), (112, .bool true)]), rfl, by kernel_rfl, ?_⟩
      refine sk (a' := (up (or1_b112 A0 c0 l0 c1 lo bs g z i p ad k sg) [])) (.bool true) ?_
      refine skp (.bool false) ?_
      refine sk (a' := (up (or1_b112 A0 c0 l0 c1 lo bs g z i p ad k sg) [(114, .bool false), (115, .bool false)])) (.bool false) ?_
      refine wpList_nil ?_
      refine wp_cond (t := false) (by kernel_rfl) ?_
      refine wp_skip ?_
      refine wp_region_list ?_
      refine skp (.int .i64 (i : Int)) ?_
      refine sep (.int .i64 ((i + 1 : Nat) : Int)) (Eq.trans (b := .ok (.value (.int .i64 (IntKind.wrap .i64 ((i : Int) + 1)))) W6) (by kernel_rfl) (by rw [hwi])) ?_
      refine sk (a' := (up (or1_b112 A0 c0 l0 c1 lo bs g z i p ad k sg) [(8, .int .i64 ((i + 1 : Nat) : Int)), (30, .int .i64 (i : Int)), (31, .int .i64 ((i + 1 : Nat) : Int)), (114, .bool false), (115, .bool false)])) (.int .i64 ((i + 1 : Nat) : Int)) ?_
      refine wpList_nil ?_
      exact lp_next (lo.length - (i + 1)) (by omega) ⟨(fun mm => ((up (or1_b112 A0 c0 l0 c1 lo bs g z i p ad k sg) [(8, .int .i64 ((i + 1 : Nat) : Int)), (30, .int .i64 (i : Int)), (31, .int .i64 ((i + 1 : Nat) : Int)), (114, .bool false), (115, .bool false)])).tmps.getD mm undef), (i + 1), p, true, by kernel_rfl, hW, hR, (by omega), (by omega), rfl⟩
    · skip
      have hwi : IntKind.wrap .i64 ((i : Int) + 1) = ((i + 1 : Nat) : Int) := by rw [IntKind.wrap_i64]; omega
      have hwpk : IntKind.wrap .i64 ((p : Int) + k) = ((p + k.toNat : Nat) : Int) := by rw [IntKind.wrap_i64]; omega
      have hwm : IntKind.wrap .i64 ((bs.length : Int) - ((p + k.toNat : Nat) : Int)) = (bs.length : Int) - ((p + k.toNat : Nat) : Int) := by rw [IntKind.wrap_i64]; omega
      obtain ⟨A2, c2, hcut, hC2, hc2, hcl⟩ := cut_in hC hbc p k.toNat (by omega)
      have hdc : ∀ b ∈ oct_cut bs p k.toNat, 0 ≤ b ∧ b < 256 := fun b hb => hdig b (List.mem_of_mem_drop (List.mem_of_mem_take hb))
      refine wp_region_list ?_
      refine skp (.int .i64 (i : Int)) ?_
      refine skp (.slice (some ad) lo.length c1) ?_
      refine sk (a' := (up (or1_b64 A0 c0 l0 c1 lo bs g z i p ad) [(23, .slice (some ad) lo.length c1), (24, .int .i64 (lo.length : Int))])) (.int .i64 (lo.length : Int)) ?_
      refine sep (.bool true) (Eq.trans (b := .ok (.value (.bool (decide (((i : Int) : Int) < (lo.length : Int))))) Wl) (by kernel_rfl) (st_ok (decide_eq_true (by omega)))) ?_
      refine sk (a' := (up (or1_b64 A0 c0 l0 c1 lo bs g z i p ad) [(23, .slice (some ad) lo.length c1), (24, .int .i64 (lo.length : Int)), (25, .bool true), (26, .bool true)])) (.bool true) ?_
      refine sk (a' := (up (or1_b64 A0 c0 l0 c1 lo bs g z i p ad) [(23, .slice (some ad) lo.length c1), (24, .int .i64 (lo.length : Int)), (25, .bool true), (26, .bool true), (27, .int .i64 (i : Int))])) (.int .i64 (i : Int)) ?_
      refine sep (.bool true) (Eq.trans (b := .ok (.value (.bool (decide (((i : Int) : Int) < 60)))) Wl) (by kernel_rfl) (st_ok (decide_eq_true (by omega)))) ?_
      refine sk (a' := (up (or1_b65 A0 c0 l0 c1 lo bs g z i p ad) [(29, .bool true)])) (.bool true) ?_
      refine wpList_nil ?_
      refine wp_cond (t := true) (by kernel_rfl) ?_
      refine wp_skip ?_
      refine wp_seq ?_
      refine wp_block ?_
      refine wp_seq ?_
      refine wp_region_list ?_
      refine skp (.slice (some ad) lo.length c1) ?_
      refine skp (.int .i64 (i : Int)) ?_
      refine se (a' := (up (or1_b65 A0 c0 l0 c1 lo bs g z i p ad) [(29, .bool true), (32, .slice (some ad) lo.length c1), (33, .int .i64 (i : Int)), (34, .pointer (some (ad.add (i * 2))))])) (.pointer (some (ad.add (i * 2)))) (Eq.trans (b := (do pure (Next.value (← Instr.indexAt 35 (.slice (some ad) lo.length c1) (.int .i64 (i : Int)))) : Sem Next).run Try.prog Wl) (by kernel_rfl) (st_val (idx_op hin Wl))) ?_
      refine skp (.pointer (some (ad.add (i * 2)))) ?_
      refine sep (.int .i64 k) (Eq.trans (b := (do pure (Next.value (← Instr.loadAt 3 (.pointer (some (ad.add (i * 2)))))) : Sem Next).run Try.prog Wl) (by kernel_rfl) (st_val (load_one Wl _ 3 _ _ ((hop.below hW.below).cell 0 _ rfl) Try.underlying3 rfl))) ?_
      refine sk (a' := (up (or1_b66 A0 c0 l0 c1 lo bs g z i p ad k) [(9, .int .i64 k)])) (.int .i64 k) ?_
      refine wpList_nil ?_
      refine wp_seq ?_
      refine wp_region_list ?_
      refine skp (.bool false) ?_
      refine sk (a' := (up (or1_b66 A0 c0 l0 c1 lo bs g z i p ad k) [(9, .int .i64 k), (37, .bool false), (38, .bool false)])) (.bool false) ?_
      refine sk (a' := (up (or1_b66 A0 c0 l0 c1 lo bs g z i p ad k) [(9, .int .i64 k), (37, .bool false), (38, .bool false), (39, .int .i64 k)])) (.int .i64 k) ?_
      refine sep (.bool false) (Eq.trans (b := .ok (.value (.bool (decide ((k : Int) < 1)))) Wl) (by kernel_rfl) (st_ok (decide_eq_false (by omega)))) ?_
      refine skp (.bool false) ?_
      refine sk (a' := (up (or1_b90 A0 c0 l0 c1 lo bs g z i p ad k) [(42, .bool false)])) (.bool false) ?_
      refine sk (a' := (up (or1_b90 A0 c0 l0 c1 lo bs g z i p ad k) [(42, .bool false), (43, .int .i64 k)])) (.int .i64 k) ?_
      refine sep (.bool false) (Eq.trans (b := .ok (.value (.bool (decide ((k : Int) > 8)))) Wl) (by kernel_rfl) (st_ok (decide_eq_false (by omega)))) ?_
      refine skp (.bool false) ?_
      refine sk (a' := (up (or1_b90 A0 c0 l0 c1 lo bs g z i p ad k) [(42, .bool false), (43, .int .i64 k), (44, .bool false), (45, .bool false), (46, .bool false)])) (.bool false) ?_
      refine sk (a' := (up (or1_b102 A0 c0 l0 c1 lo bs g z i p ad k) [])) (.int .i64 (p : Int)) ?_
      refine sk (a' := (up (or1_b102 A0 c0 l0 c1 lo bs g z i p ad k) [(48, .int .i64 k)])) (.int .i64 k) ?_
      refine se (a' := (up (or1_b102 A0 c0 l0 c1 lo bs g z i p ad k) [(48, .int .i64 k), (49, .int .i64 ((p + k.toNat : Nat) : Int))])) (.int .i64 ((p + k.toNat : Nat) : Int)) (Eq.trans (b := .ok (.value (.int .i64 (IntKind.wrap .i64 ((p : Int) + k)))) Wl) (by kernel_rfl) (by rw [hwpk])) ?_
      refine sk (a' := (up (or1_b102 A0 c0 l0 c1 lo bs g z i p ad k) [(48, .int .i64 k), (49, .int .i64 ((p + k.toNat : Nat) : Int)), (50, .slice A0 bs.length c0)])) (.slice A0 bs.length c0) ?_
      refine sk (a' := (up (or1_b102 A0 c0 l0 c1 lo bs g z i p ad k) [(48, .int .i64 k), (49, .int .i64 ((p + k.toNat : Nat) : Int)), (50, .slice A0 bs.length c0), (51, .int .i64 (bs.length : Int))])) (.int .i64 (bs.length : Int)) ?_
      refine sep (.bool false) (Eq.trans (b := .ok (.value (.bool (decide ((((p + k.toNat : Nat) : Int) : Int) > (bs.length : Int))))) Wl) (by kernel_rfl) (st_ok (decide_eq_false (by omega)))) ?_
      refine skp (.bool false) ?_
      refine sk (a' := (up (or1_b114 A0 c0 l0 c1 lo bs g z i p ad k) [])) (.bool false) ?_
      refine wpList_nil ?_
      refine wp_seq ?_
      refine wp_region_list ?_
      refine sk (a' := (up (or1_b114 A0 c0 l0 c1 lo bs g z i p ad k) [(10, .int .i64 0)])) (.int .i64 0) ?_
      refine wpList_nil ?_
      refine wp_seq ?_
      refine wp_seq ?_
      refine wp_region_list ?_
      refine skp (.bool false) ?_
      refine sk (a' := (up (or1_b114 A0 c0 l0 c1 lo bs g z i p ad k) [(10, .int .i64 0), (54, .bool false), (55, .bool true)])) (.bool true) ?_
      refine wpList_nil ?_
      refine wp_cond (t := true) (by kernel_rfl) ?_
      refine wp_seq ?_
      refine wp_region_list ?_
      refine skp (.slice A0 bs.length c0) ?_
      refine skp (.int .i64 (p : Int)) ?_
      refine sk (a' := (up (or1_b117 A0 c0 l0 c1 lo bs g z i p ad k) [])) (.int .i64 (p : Int)) ?_
      refine skp (.int .i64 k) ?_
      refine sep (.int .i64 ((p + k.toNat : Nat) : Int)) (Eq.trans (b := .ok (.value (.int .i64 (IntKind.wrap .i64 ((p : Int) + k)))) Wl) (by kernel_rfl) (by rw [hwpk])) ?_
      refine se (a' := (up (or1_b117 A0 c0 l0 c1 lo bs g z i p ad k) [(59, .int .i64 k), (60, .int .i64 ((p + k.toNat : Nat) : Int)), (61, .slice A2 ((oct_cut bs p k.toNat).length) c2)])) (.slice A2 ((oct_cut bs p k.toNat).length) c2) (Eq.trans (b := (do pure (Next.value (← Instr.sliceAt 32 (.slice A0 bs.length c0) (some (.int .i64 (p : Int))) (some (.int .i64 ((p + k.toNat : Nat) : Int))) none)) : Sem Next).run Try.prog Wl) (by kernel_rfl) (st_val (hcut Wl))) ?_
      refine st_call (warrenerref02_Take.calls 20 A2 c2 (oct_cut bs p k.toNat) _ Wl (Kd.C_below hC2 hW.below) hc2 (ref_take _ hdc (by omega))) (by kernel_rfl) (by kernel_rfl) ?_
      rintro _ W3 ⟨rfl, hB0⟩
      have hB := hB0.below
      have hW := hW.step hB
      have hR := hR.below hB
      refine ⟨_, (up (or1_b117 A0 c0 l0 c1 lo bs g z i p ad k) [(59, .int .i64 k), (60, .int .i64 ((p + k.toNat : Nat) : Int)), (61, .slice A2 ((oct_cut bs p k.toNat).length) c2), (62, .int .i64 (wrap64 (oct_take (oct_cut bs p k.toNat))))]), rfl, by kernel_rfl, ?_⟩
      refine sk (a' := (up (or1_b117 A0 c0 l0 c1 lo bs g z i p ad k) [(10, .int .i64 (wrap64 (oct_take (oct_cut bs p k.toNat)))), (59, .int .i64 k), (60, .int .i64 ((p + k.toNat : Nat) : Int)), (61, .slice A2 ((oct_cut bs p k.toNat).length) c2), (62, .int .i64 (wrap64 (oct_take (oct_cut bs p k.toNat))))])) (.int .i64 (wrap64 (oct_take (oct_cut bs p k.toNat)))) ?_
      refine wpList_nil ?_
      refine wp_seq ?_
      refine wp_seq ?_
      refine wp_region_list ?_
      refine skp (.slice (some ad) lo.length c1) ?_
      refine skp (.int .i64 (i : Int)) ?_
      refine se (a' := (up (or1_b120 A0 c0 l0 c1 lo bs g z i p ad k A2 c2) [(64, .int .i64 (i : Int)), (65, .pointer (some (ad.add (i * 2))))])) (.pointer (some (ad.add (i * 2)))) (Eq.trans (b := (do pure (Next.value (← Instr.indexAt 35 (.slice (some ad) lo.length c1) (.int .i64 (i : Int)))) : Sem Next).run Try.prog W3) (by kernel_rfl) (st_val (idx_op hin W3))) ?_
      refine skp (.pointer (some ((ad.add (i * 2)).add 1))) ?_
      refine se (a' := (up (or1_b120 A0 c0 l0 c1 lo bs g z i p ad k A2 c2) [(64, .int .i64 (i : Int)), (65, .pointer (some (ad.add (i * 2)))), (66, .pointer (some ((ad.add (i * 2)).add 1))), (67, .bool true)])) (.bool true) (Eq.trans (b := (do pure (Next.value (← Instr.loadAt 4 (.pointer (some ((ad.add (i * 2)).add 1))))) : Sem Next).run Try.prog W3) (by kernel_rfl) (st_val (load_one W3 _ 4 _ _ ((hop.below hW.below).cell 1 _ rfl) Try.underlying4 rfl))) ?_
      refine wpList_nil ?_
      refine wp_cond (t := true) (by kernel_rfl) ?_
      refine wp_region_list ?_
      refine skp (.slice A0 bs.length c0) ?_
      refine skp (.int .i64 (p : Int)) ?_
      refine sk (a' := (up (or1_b122 A0 c0 l0 c1 lo bs g z i p ad k A2 c2) [(70, .int .i64 (p : Int))])) (.int .i64 (p : Int)) ?_
      refine skp (.int .i64 k) ?_
      refine sep (.int .i64 ((p + k.toNat : Nat) : Int)) (Eq.trans (b := .ok (.value (.int .i64 (IntKind.wrap .i64 ((p : Int) + k)))) W3) (by kernel_rfl) (by rw [hwpk])) ?_
      refine se (a' := (up (or1_b122 A0 c0 l0 c1 lo bs g z i p ad k A2 c2) [(70, .int .i64 (p : Int)), (71, .int .i64 k), (72, .int .i64 ((p + k.toNat : Nat) : Int)), (73, .slice A2 ((oct_cut bs p k.toNat).length) c2)])) (.slice A2 ((oct_cut bs p k.toNat).length) c2) (Eq.trans (b := (do pure (Next.value (← Instr.sliceAt 32 (.slice A0 bs.length c0) (some (.int .i64 (p : Int))) (some (.int .i64 ((p + k.toNat : Nat) : Int))) none)) : Sem Next).run Try.prog W3) (by kernel_rfl) (st_val (hcut W3))) ?_
      refine st_call (warrenerref02_Signed.calls 20 A2 c2 (oct_cut bs p k.toNat) (oct_signed (wrap64 (oct_take (oct_cut bs p k.toNat))) k) W3 (Kd.C_below hC2 hW.below) hc2 (by rw [ref_signed _ hdc (by omega) (by omega), hcl, show ((k.toNat : Nat) : Int) = k by omega])) (by kernel_rfl) (by kernel_rfl) ?_
      rintro _ W4 ⟨rfl, hB0⟩
      have hB := hB0.below
      have hW := hW.step hB
      have hR := hR.below hB
      refine ⟨_, (up (or1_b122 A0 c0 l0 c1 lo bs g z i p ad k A2 c2) [(70, .int .i64 (p : Int)), (71, .int .i64 k), (72, .int .i64 ((p + k.toNat : Nat) : Int)), (73, .slice A2 ((oct_cut bs p k.toNat).length) c2), (74, .int .i64 (oct_signed (wrap64 (oct_take (oct_cut bs p k.toNat))) k))]), rfl, by kernel_rfl, ?_⟩
      refine sk (a' := (up (or1_b125 A0 c0 l0 c1 lo bs g z i p ad k A2 c2) [])) (.int .i64 (oct_signed (wrap64 (oct_take (oct_cut bs p k.toNat))) k)) ?_
      refine wpList_nil ?_
      refine wp_region_list ?_
      refine skp (.int .i64 (p : Int)) ?_
      refine skp (.int .i64 k) ?_
      refine se (a' := (up (or1_b125 A0 c0 l0 c1 lo bs g z i p ad k A2 c2) [(75, .int .i64 (p : Int)), (76, .int .i64 k), (77, .int .i64 ((p + k.toNat : Nat) : Int))])) (.int .i64 ((p + k.toNat : Nat) : Int)) (Eq.trans (b := .ok (.value (.int .i64 (IntKind.wrap .i64 ((p : Int) + k)))) W4) (by kernel_rfl) (by rw [hwpk])) ?_
      refine sk (a' := (up (or1_b125 A0 c0 l0 c1 lo bs g z i p ad k A2 c2) [(6, .int .i64 ((p + k.toNat : Nat) : Int)), (75, .int .i64 (p : Int)), (76, .int .i64 k), (77, .int .i64 ((p + k.toNat : Nat) : Int))])) (.int .i64 ((p + k.toNat : Nat) : Int)) ?_
      refine wpList_nil ?_
      refine wp_seq ?_
      refine wp_region_list ?_
      refine skp (.pointer (some ⟨g, 0, none⟩)) ?_
      refine skp (.slice (some ad) lo.length c1) ?_
      refine sk (a' := (up (or1_b128 A0 c0 l0 c1 lo bs g z i p ad k A2 c2) [(81, .int .i64 (i : Int))])) (.int .i64 (i : Int)) ?_
      refine sep (.pointer (some (ad.add (i * 2)))) (Eq.trans (b := (do pure (Next.value (← Instr.indexAt 35 (.slice (some ad) lo.length c1) (.int .i64 (i : Int)))) : Sem Next).run Try.prog W4) (by kernel_rfl) (st_val (idx_op hin W4))) ?_
      refine se (a' := (up (or1_b128 A0 c0 l0 c1 lo bs g z i p ad k A2 c2) [(81, .int .i64 (i : Int)), (82, .pointer (some (ad.add (i * 2)))), (83, .agg #[.int .i64 k, .bool true])])) (.agg #[.int .i64 k, .bool true]) (Eq.trans (b := (do pure (Next.value (← Instr.loadAt 39 (.pointer (some (ad.add (i * 2)))))) : Sem Next).run Try.prog W4) (by kernel_rfl) (st_val (load_row W4 _ 39 _ _ (hop.below hW.below).cell Try.underlying39 rfl (by kernel_rfl)))) ?_
      refine st_call (cl_ok_s (bad := false) hR k ⟨by omega, by omega, by omega⟩) (by kernel_rfl) (by kernel_rfl) ?_
      rintro _ W5 ⟨rfl, hR, wa, hba, hG⟩
      have hW := Ws.ofBelow (pw_below_grown (below_step hW.below hba) _ (below_step hW.below hba).size hG (by rintro k ⟨rfl⟩; exact hgw))
      refine ⟨_, (up (or1_b128 A0 c0 l0 c1 lo bs g z i p ad k A2 c2) [(81, .int .i64 (i : Int)), (82, .pointer (some (ad.add (i * 2)))), (83, .agg #[.int .i64 k, .bool true]), (84, .tuple #[.int .i64 (oct_signed (wrap64 (oct_take (oct_cut bs p k.toNat))) k), .bool true])]), rfl, by kernel_rfl, ?_⟩
      refine skp (.tuple #[.int .i64 (oct_signed (wrap64 (oct_take (oct_cut bs p k.toNat))) k), .bool true]) ?_
      refine skp (.int .i64 (oct_signed (wrap64 (oct_take (oct_cut bs p k.toNat))) k)) ?_
      refine sk (a' := (up (or1_b131 A0 c0 l0 c1 lo bs g z i p ad k A2 c2) [(86, .bool true)])) (.bool true) ?_
      refine skp (.int .i64 (oct_signed (wrap64 (oct_take (oct_cut bs p k.toNat))) k)) ?_
      refine sk (a' := (up (or1_b131 A0 c0 l0 c1 lo bs g z i p ad k A2 c2) [(11, .int .i64 (oct_signed (wrap64 (oct_take (oct_cut bs p k.toNat))) k)), (12, .bool true), (86, .bool true)])) (.bool true) ?_
      refine wpList_nil ?_
      refine wp_seq ?_
      refine wp_region_list ?_
      refine skp (.int .i64 (oct_signed (wrap64 (oct_take (oct_cut bs p k.toNat))) k)) ?_
      refine skp (.int .i64 (oct_signed (wrap64 (oct_take (oct_cut bs p k.toNat))) k)) ?_
      refine se (a' := (up (or1_b134 A0 c0 l0 c1 lo bs g z i p ad k A2 c2) [])) (.bool false) (Eq.trans (b := .ok (.value (.bool (((oct_signed (wrap64 (oct_take (oct_cut bs p k.toNat))) k) : Int) != (oct_signed (wrap64 (oct_take (oct_cut bs p k.toNat))) k)))) W5) (by kernel_rfl) (st_ok (bne_eq_false_iff_eq.2 (by omega)))) ?_
      refine sk (a' := (up (or1_b134 A0 c0 l0 c1 lo bs g z i p ad k A2 c2) [(90, .bool false)])) (.bool false) ?_
      refine sk (a' := (up (or1_b134 A0 c0 l0 c1 lo bs g z i p ad k A2 c2) [(90, .bool false), (91, .bool true)])) (.bool true) ?_
      refine sk (a' := (up (or1_b134 A0 c0 l0 c1 lo bs g z i p ad k A2 c2) [(90, .bool false), (91, .bool true), (92, .bool false)])) (.bool false) ?_
      refine skp (.bool false) ?_
      refine skp (.bool false) ?_
      refine sk (a' := (up (or1_b136 A0 c0 l0 c1 lo bs g z i p ad k A2 c2) [])) (.bool false) ?_
      refine sk (a' := (up (or1_b136 A0 c0 l0 c1 lo bs g z i p ad k A2 c2) [(96, .pointer (some ⟨g, 0, none⟩))])) (.pointer (some ⟨g, 0, none⟩)) ?_
      refine st_call (rd_At hR) (by kernel_rfl) (by kernel_rfl) ?_
      rintro _ W6 ⟨rfl, hB⟩
      have hW := hW.step hB
      have hR := hR.below hB
      refine ⟨_, (up (or1_b136 A0 c0 l0 c1 lo bs g z i p ad k A2 c2) [(96, .pointer (some ⟨g, 0, none⟩)), (97, .int .i64 ((p + k.toNat : Nat) : Int))]), rfl, by kernel_rfl, ?_⟩
      refine sk (a' := (up (or1_b136 A0 c0 l0 c1 lo bs g z i p ad k A2 c2) [(96, .pointer (some ⟨g, 0, none⟩)), (97, .int .i64 ((p + k.toNat : Nat) : Int)), (98, .int .i64 ((p + k.toNat : Nat) : Int))])) (.int .i64 ((p + k.toNat : Nat) : Int)) ?_
      refine sep (.bool false) (Eq.trans (b := .ok (.value (.bool ((((p + k.toNat : Nat) : Int) : Int) != ((p + k.toNat : Nat) : Int)))) W6) (by kernel_rfl) (st_ok (bne_eq_false_iff_eq.2 (by omega)))) ?_
      refine skp (.bool false) ?_
      refine sk (a' := (up (or1_b138 A0 c0 l0 c1 lo bs g z i p ad k A2 c2) [])) (.bool false) ?_
      refine sk (a' := (up (or1_b138 A0 c0 l0 c1 lo bs g z i p ad k A2 c2) [(102, .pointer (some ⟨g, 0, none⟩))])) (.pointer (some ⟨g, 0, none⟩)) ?_
      refine st_call (rd_Left hR) (by kernel_rfl) (by kernel_rfl) ?_
      rintro _ W7 ⟨rfl, hB⟩
      have hW := hW.step hB
      have hR := hR.below hB
      refine ⟨_, (up (or1_b138 A0 c0 l0 c1 lo bs g z i p ad k A2 c2) [(102, .pointer (some ⟨g, 0, none⟩)), (103, .int .i64 ((bs.length : Int) - ((p + k.toNat : Nat) : Int)))]), rfl, by kernel_rfl, ?_⟩
      refine sk (a' := (up (or1_b138 A0 c0 l0 c1 lo bs g z i p ad k A2 c2) [(102, .pointer (some ⟨g, 0, none⟩)), (103, .int .i64 ((bs.length : Int) - ((p + k.toNat : Nat) : Int))), (104, .slice A0 bs.length c0)])) (.slice A0 bs.length c0) ?_
      refine sk (a' := (up (or1_b138 A0 c0 l0 c1 lo bs g z i p ad k A2 c2) [(102, .pointer (some ⟨g, 0, none⟩)), (103, .int .i64 ((bs.length : Int) - ((p + k.toNat : Nat) : Int))), (104, .slice A0 bs.length c0), (105, .int .i64 (bs.length : Int))])) (.int .i64 (bs.length : Int)) ?_
      refine sk (a' := (up (or1_b138 A0 c0 l0 c1 lo bs g z i p ad k A2 c2) [(102, .pointer (some ⟨g, 0, none⟩)), (103, .int .i64 ((bs.length : Int) - ((p + k.toNat : Nat) : Int))), (104, .slice A0 bs.length c0), (105, .int .i64 (bs.length : Int)), (106, .int .i64 ((p + k.toNat : Nat) : Int))])) (.int .i64 ((p + k.toNat : Nat) : Int)) ?_
      refine se (a' := (up (or1_b140 A0 c0 l0 c1 lo bs g z i p ad k A2 c2) [])) (.int .i64 ((bs.length : Int) - ((p + k.toNat : Nat) : Int))) (Eq.trans (b := .ok (.value (.int .i64 (IntKind.wrap .i64 ((bs.length : Int) - ((p + k.toNat : Nat) : Int))))) W7) (by kernel_rfl) (by rw [hwm])) ?_
      refine sep (.bool false) (Eq.trans (b := .ok (.value (.bool ((((bs.length : Int) - ((p + k.toNat : Nat) : Int)) : Int) != ((bs.length : Int) - ((p + k.toNat : Nat) : Int))))) W7) (by kernel_rfl) (st_ok (bne_eq_false_iff_eq.2 (by omega)))) ?_
      refine skp (.bool false) ?_
      refine sk (a' := (up (or1_b140 A0 c0 l0 c1 lo bs g z i p ad k A2 c2) [(108, .bool false), (109, .bool false), (110, .bool false)])) (.bool false) ?_
      refine sk (a' := (up (or1_b140 A0 c0 l0 c1 lo bs g z i p ad k A2 c2) [(108, .bool false), (109, .bool false), (110, .bool false), (111, .pointer (some ⟨g, 0, none⟩))])) (.pointer (some ⟨g, 0, none⟩)) ?_
      refine st_call (rd_Bad hR) (by kernel_rfl) (by kernel_rfl) ?_
      rintro _ W8 ⟨rfl, hB⟩
      have hW := hW.step hB
      have hR := hR.below hB
      refine ⟨_, (up (or1_b140 A0 c0 l0 c1 lo bs g z i p ad k A2 c2) [(108, .bool false), (109, .bool false), (110, .bool false), (111, .pointer (some ⟨g, 0, none⟩)), (112, .bool false)]), rfl, by kernel_rfl, ?_⟩
      refine sk (a' := (up (or1_b143 A0 c0 l0 c1 lo bs g z i p ad k A2 c2) [])) (.bool false) ?_
      refine skp (.bool false) ?_
      refine sk (a' := (up (or1_b143 A0 c0 l0 c1 lo bs g z i p ad k A2 c2) [(114, .bool false), (115, .bool false)])) (.bool false) ?_
      refine wpList_nil ?_
      refine wp_cond (t := false) (by kernel_rfl) ?_
      refine wp_skip ?_
      refine wp_region_list ?_
      refine skp (.int .i64 (i : Int)) ?_
      refine sep (.int .i64 ((i + 1 : Nat) : Int)) (Eq.trans (b := .ok (.value (.int .i64 (IntKind.wrap .i64 ((i : Int) + 1)))) W8) (by kernel_rfl) (by rw [hwi])) ?_
      refine sk (a' := (up (or1_b143 A0 c0 l0 c1 lo bs g z i p ad k A2 c2) [(8, .int .i64 ((i + 1 : Nat) : Int)), (30, .int .i64 (i : Int)), (31, .int .i64 ((i + 1 : Nat) : Int)), (114, .bool false), (115, .bool false)])) (.int .i64 ((i + 1 : Nat) : Int)) ?_
      refine wpList_nil ?_
      exact lp_next (lo.length - (i + 1)) (by omega) ⟨(fun mm => ((up (or1_b143 A0 c0 l0 c1 lo bs g z i p ad k A2 c2) [(8, .int .i64 ((i + 1 : Nat) : Int)), (30, .int .i64 (i : Int)), (31, .int .i64 ((i + 1 : Nat) : Int)), (114, .bool false), (115, .bool false)])).tmps.getD mm undef), (i + 1), (p + k.toNat), false, by kernel_rfl, hW, hR, (by omega), (by omega), rfl⟩
    · skip
      have hwi : IntKind.wrap .i64 ((i : Int) + 1) = ((i + 1 : Nat) : Int) := by rw [IntKind.wrap_i64]; omega
      have hwpk : IntKind.wrap .i64 ((p : Int) + k) = ((p + k.toNat : Nat) : Int) := by rw [IntKind.wrap_i64]; omega
      have hwm : IntKind.wrap .i64 ((bs.length : Int) - ((p + k.toNat : Nat) : Int)) = (bs.length : Int) - ((p + k.toNat : Nat) : Int) := by rw [IntKind.wrap_i64]; omega
      obtain ⟨A2, c2, hcut, hC2, hc2, hcl⟩ := cut_in hC hbc p k.toNat (by omega)
      have hdc : ∀ b ∈ oct_cut bs p k.toNat, 0 ≤ b ∧ b < 256 := fun b hb => hdig b (List.mem_of_mem_drop (List.mem_of_mem_take hb))
      refine wp_region_list ?_
      refine skp (.int .i64 (i : Int)) ?_
      refine skp (.slice (some ad) lo.length c1) ?_
      refine sk (a' := (up (or1_b64 A0 c0 l0 c1 lo bs g z i p ad) [(23, .slice (some ad) lo.length c1), (24, .int .i64 (lo.length : Int))])) (.int .i64 (lo.length : Int)) ?_
      refine sep (.bool true) (Eq.trans (b := .ok (.value (.bool (decide (((i : Int) : Int) < (lo.length : Int))))) Wl) (by kernel_rfl) (st_ok (decide_eq_true (by omega)))) ?_
      refine sk (a' := (up (or1_b64 A0 c0 l0 c1 lo bs g z i p ad) [(23, .slice (some ad) lo.length c1), (24, .int .i64 (lo.length : Int)), (25, .bool true), (26, .bool true)])) (.bool true) ?_
      refine sk (a' := (up (or1_b64 A0 c0 l0 c1 lo bs g z i p ad) [(23, .slice (some ad) lo.length c1), (24, .int .i64 (lo.length : Int)), (25, .bool true), (26, .bool true), (27, .int .i64 (i : Int))])) (.int .i64 (i : Int)) ?_
      refine sep (.bool true) (Eq.trans (b := .ok (.value (.bool (decide (((i : Int) : Int) < 60)))) Wl) (by kernel_rfl) (st_ok (decide_eq_true (by omega)))) ?_
      refine sk (a' := (up (or1_b65 A0 c0 l0 c1 lo bs g z i p ad) [(29, .bool true)])) (.bool true) ?_
      refine wpList_nil ?_
      refine wp_cond (t := true) (by kernel_rfl) ?_
      refine wp_skip ?_
      refine wp_seq ?_
      refine wp_block ?_
      refine wp_seq ?_
      refine wp_region_list ?_
      refine skp (.slice (some ad) lo.length c1) ?_
      refine skp (.int .i64 (i : Int)) ?_
      refine se (a' := (up (or1_b65 A0 c0 l0 c1 lo bs g z i p ad) [(29, .bool true), (32, .slice (some ad) lo.length c1), (33, .int .i64 (i : Int)), (34, .pointer (some (ad.add (i * 2))))])) (.pointer (some (ad.add (i * 2)))) (Eq.trans (b := (do pure (Next.value (← Instr.indexAt 35 (.slice (some ad) lo.length c1) (.int .i64 (i : Int)))) : Sem Next).run Try.prog Wl) (by kernel_rfl) (st_val (idx_op hin Wl))) ?_
      refine skp (.pointer (some (ad.add (i * 2)))) ?_
      refine sep (.int .i64 k) (Eq.trans (b := (do pure (Next.value (← Instr.loadAt 3 (.pointer (some (ad.add (i * 2)))))) : Sem Next).run Try.prog Wl) (by kernel_rfl) (st_val (load_one Wl _ 3 _ _ ((hop.below hW.below).cell 0 _ rfl) Try.underlying3 rfl))) ?_
      refine sk (a' := (up (or1_b66 A0 c0 l0 c1 lo bs g z i p ad k) [(9, .int .i64 k)])) (.int .i64 k) ?_
      refine wpList_nil ?_
      refine wp_seq ?_
      refine wp_region_list ?_
      refine skp (.bool false) ?_
      refine sk (a' := (up (or1_b66 A0 c0 l0 c1 lo bs g z i p ad k) [(9, .int .i64 k), (37, .bool false), (38, .bool false)])) (.bool false) ?_
      refine sk (a' := (up (or1_b66 A0 c0 l0 c1 lo bs g z i p ad k) [(9, .int .i64 k), (37, .bool false), (38, .bool false), (39, .int .i64 k)])) (.int .i64 k) ?_
      refine sep (.bool false) (Eq.trans (b := .ok (.value (.bool (decide ((k : Int) < 1)))) Wl) (by kernel_rfl) (st_ok (decide_eq_false (by omega)))) ?_
      refine skp (.bool false) ?_
      refine sk (a' := (up (or1_b90 A0 c0 l0 c1 lo bs g z i p ad k) [(42, .bool false)])) (.bool false) ?_
      refine sk (a' := (up (or1_b90 A0 c0 l0 c1 lo bs g z i p ad k) [(42, .bool false), (43, .int .i64 k)])) (.int .i64 k) ?_
      refine sep (.bool false) (Eq.trans (b := .ok (.value (.bool (decide ((k : Int) > 8)))) Wl) (by kernel_rfl) (st_ok (decide_eq_false (by omega)))) ?_
      refine skp (.bool false) ?_
      refine sk (a' := (up (or1_b90 A0 c0 l0 c1 lo bs g z i p ad k) [(42, .bool false), (43, .int .i64 k), (44, .bool false), (45, .bool false), (46, .bool false)])) (.bool false) ?_
      refine sk (a' := (up (or1_b102 A0 c0 l0 c1 lo bs g z i p ad k) [])) (.int .i64 (p : Int)) ?_
      refine sk (a' := (up (or1_b102 A0 c0 l0 c1 lo bs g z i p ad k) [(48, .int .i64 k)])) (.int .i64 k) ?_
      refine se (a' := (up (or1_b102 A0 c0 l0 c1 lo bs g z i p ad k) [(48, .int .i64 k), (49, .int .i64 ((p + k.toNat : Nat) : Int))])) (.int .i64 ((p + k.toNat : Nat) : Int)) (Eq.trans (b := .ok (.value (.int .i64 (IntKind.wrap .i64 ((p : Int) + k)))) Wl) (by kernel_rfl) (by rw [hwpk])) ?_
      refine sk (a' := (up (or1_b102 A0 c0 l0 c1 lo bs g z i p ad k) [(48, .int .i64 k), (49, .int .i64 ((p + k.toNat : Nat) : Int)), (50, .slice A0 bs.length c0)])) (.slice A0 bs.length c0) ?_
      refine sk (a' := (up (or1_b102 A0 c0 l0 c1 lo bs g z i p ad k) [(48, .int .i64 k), (49, .int .i64 ((p + k.toNat : Nat) : Int)), (50, .slice A0 bs.length c0), (51, .int .i64 (bs.length : Int))])) (.int .i64 (bs.length : Int)) ?_
      refine sep (.bool false) (Eq.trans (b := .ok (.value (.bool (decide ((((p + k.toNat : Nat) : Int) : Int) > (bs.length : Int))))) Wl) (by kernel_rfl) (st_ok (decide_eq_false (by omega)))) ?_
      refine skp (.bool false) ?_
      refine sk (a' := (up (or1_b114 A0 c0 l0 c1 lo bs g z i p ad k) [])) (.bool false) ?_
      refine wpList_nil ?_
      refine wp_seq ?_
      refine wp_region_list ?_
      refine sk (a' := (up (or1_b114 A0 c0 l0 c1 lo bs g z i p ad k) [(10, .int .i64 0)])) (.int .i64 0) ?_
      refine wpList_nil ?_
      refine wp_seq ?_
      refine wp_seq ?_
      refine wp_region_list ?_
      refine skp (.bool false) ?_
      refine sk (a' := (up (or1_b114 A0 c0 l0 c1 lo bs g z i p ad k) [(10, .int .i64 0), (54, .bool false), (55, .bool true)])) (.bool true) ?_
      refine wpList_nil ?_
      refine wp_cond (t := true) (by kernel_rfl) ?_
      refine wp_seq ?_
      refine wp_region_list ?_
      refine skp (.slice A0 bs.length c0) ?_
      refine skp (.int .i64 (p : Int)) ?_
      refine sk (a' := (up (or1_b117 A0 c0 l0 c1 lo bs g z i p ad k) [])) (.int .i64 (p : Int)) ?_
      refine skp (.int .i64 k) ?_
      refine sep (.int .i64 ((p + k.toNat : Nat) : Int)) (Eq.trans (b := .ok (.value (.int .i64 (IntKind.wrap .i64 ((p : Int) + k)))) Wl) (by kernel_rfl) (by rw [hwpk])) ?_
      refine se (a' := (up (or1_b117 A0 c0 l0 c1 lo bs g z i p ad k) [(59, .int .i64 k), (60, .int .i64 ((p + k.toNat : Nat) : Int)), (61, .slice A2 ((oct_cut bs p k.toNat).length) c2)])) (.slice A2 ((oct_cut bs p k.toNat).length) c2) (Eq.trans (b := (do pure (Next.value (← Instr.sliceAt 32 (.slice A0 bs.length c0) (some (.int .i64 (p : Int))) (some (.int .i64 ((p + k.toNat : Nat) : Int))) none)) : Sem Next).run Try.prog Wl) (by kernel_rfl) (st_val (hcut Wl))) ?_
      refine st_call (warrenerref02_Take.calls 20 A2 c2 (oct_cut bs p k.toNat) _ Wl (Kd.C_below hC2 hW.below) hc2 (ref_take _ hdc (by omega))) (by kernel_rfl) (by kernel_rfl) ?_
      rintro _ W3 ⟨rfl, hB0⟩
      have hB := hB0.below
      have hW := hW.step hB
      have hR := hR.below hB
      refine ⟨_, (up (or1_b117 A0 c0 l0 c1 lo bs g z i p ad k) [(59, .int .i64 k), (60, .int .i64 ((p + k.toNat : Nat) : Int)), (61, .slice A2 ((oct_cut bs p k.toNat).length) c2), (62, .int .i64 (wrap64 (oct_take (oct_cut bs p k.toNat))))]), rfl, by kernel_rfl, ?_⟩
      refine sk (a' := (up (or1_b117 A0 c0 l0 c1 lo bs g z i p ad k) [(10, .int .i64 (wrap64 (oct_take (oct_cut bs p k.toNat)))), (59, .int .i64 k), (60, .int .i64 ((p + k.toNat : Nat) : Int)), (61, .slice A2 ((oct_cut bs p k.toNat).length) c2), (62, .int .i64 (wrap64 (oct_take (oct_cut bs p k.toNat))))])) (.int .i64 (wrap64 (oct_take (oct_cut bs p k.toNat)))) ?_
      refine wpList_nil ?_
      refine wp_seq ?_
      refine wp_seq ?_
      refine wp_region_list ?_
      refine skp (.slice (some ad) lo.length c1) ?_
      refine skp (.int .i64 (i : Int)) ?_
      refine se (a' := (up (or1_b120 A0 c0 l0 c1 lo bs g z i p ad k A2 c2) [(64, .int .i64 (i : Int)), (65, .pointer (some (ad.add (i * 2))))])) (.pointer (some (ad.add (i * 2)))) (Eq.trans (b := (do pure (Next.value (← Instr.indexAt 35 (.slice (some ad) lo.length c1) (.int .i64 (i : Int)))) : Sem Next).run Try.prog W3) (by kernel_rfl) (st_val (idx_op hin W3))) ?_
      refine skp (.pointer (some ((ad.add (i * 2)).add 1))) ?_
      refine se (a' := (up (or1_b120 A0 c0 l0 c1 lo bs g z i p ad k A2 c2) [(64, .int .i64 (i : Int)), (65, .pointer (some (ad.add (i * 2)))), (66, .pointer (some ((ad.add (i * 2)).add 1))), (67, .bool false)])) (.bool false) (Eq.trans (b := (do pure (Next.value (← Instr.loadAt 4 (.pointer (some ((ad.add (i * 2)).add 1))))) : Sem Next).run Try.prog W3) (by kernel_rfl) (st_val (load_one W3 _ 4 _ _ ((hop.below hW.below).cell 1 _ rfl) Try.underlying4 rfl))) ?_
      refine wpList_nil ?_
      refine wp_cond (t := false) (by kernel_rfl) ?_
      refine wp_skip ?_
      refine wp_region_list ?_
      refine skp (.int .i64 (p : Int)) ?_
      refine skp (.int .i64 k) ?_
      refine se (a' := (up (or1_b145 A0 c0 l0 c1 lo bs g z i p ad k A2 c2) [(77, .int .i64 ((p + k.toNat : Nat) : Int))])) (.int .i64 ((p + k.toNat : Nat) : Int)) (Eq.trans (b := .ok (.value (.int .i64 (IntKind.wrap .i64 ((p : Int) + k)))) W3) (by kernel_rfl) (by rw [hwpk])) ?_
      refine sk (a' := (up (or1_b145 A0 c0 l0 c1 lo bs g z i p ad k A2 c2) [(6, .int .i64 ((p + k.toNat : Nat) : Int)), (77, .int .i64 ((p + k.toNat : Nat) : Int))])) (.int .i64 ((p + k.toNat : Nat) : Int)) ?_
      refine wpList_nil ?_
      refine wp_seq ?_
      refine wp_region_list ?_
      refine skp (.pointer (some ⟨g, 0, none⟩)) ?_
      refine skp (.slice (some ad) lo.length c1) ?_
      refine sk (a' := (up (or1_b145 A0 c0 l0 c1 lo bs g z i p ad k A2 c2) [(6, .int .i64 ((p + k.toNat : Nat) : Int)), (77, .int .i64 ((p + k.toNat : Nat) : Int)), (79, .pointer (some ⟨g, 0, none⟩)), (80, .slice (some ad) lo.length c1), (81, .int .i64 (i : Int))])) (.int .i64 (i : Int)) ?_
      refine sep (.pointer (some (ad.add (i * 2)))) (Eq.trans (b := (do pure (Next.value (← Instr.indexAt 35 (.slice (some ad) lo.length c1) (.int .i64 (i : Int)))) : Sem Next).run Try.prog W3) (by kernel_rfl) (st_val (idx_op hin W3))) ?_
      refine se (a' := (up (or1_b149 A0 c0 l0 c1 lo bs g z i p ad k A2 c2) [(83, .agg #[.int .i64 k, .bool false])])) (.agg #[.int .i64 k, .bool false]) (Eq.trans (b := (do pure (Next.value (← Instr.loadAt 39 (.pointer (some (ad.add (i * 2)))))) : Sem Next).run Try.prog W3) (by kernel_rfl) (st_val (load_row W3 _ 39 _ _ (hop.below hW.below).cell Try.underlying39 rfl (by kernel_rfl)))) ?_
      refine st_call (cl_ok_n (bad := false) hR k ⟨by omega, by omega, by omega⟩) (by kernel_rfl) (by kernel_rfl) ?_
      rintro _ W4 ⟨rfl, hR, wa, hba, hG⟩
      have hW := Ws.ofBelow (pw_below_grown (below_step hW.below hba) _ (below_step hW.below hba).size hG (by rintro k ⟨rfl⟩; exact hgw))
      refine ⟨_, (up (or1_b149 A0 c0 l0 c1 lo bs g z i p ad k A2 c2) [(83, .agg #[.int .i64 k, .bool false]), (84, .tuple #[.int .i64 (wrap64 (oct_take (oct_cut bs p k.toNat))), .bool true])]), rfl, by kernel_rfl, ?_⟩
      refine skp (.tuple #[.int .i64 (wrap64 (oct_take (oct_cut bs p k.toNat))), .bool true]) ?_
      refine skp (.int .i64 (wrap64 (oct_take (oct_cut bs p k.toNat)))) ?_
      refine sk (a' := (up (or1_b149 A0 c0 l0 c1 lo bs g z i p ad k A2 c2) [(78, .tuple #[.int .i64 (wrap64 (oct_take (oct_cut bs p k.toNat))), .bool true]), (83, .agg #[.int .i64 k, .bool false]), (84, .tuple #[.int .i64 (wrap64 (oct_take (oct_cut bs p k.toNat))), .bool true]), (85, .int .i64 (wrap64 (oct_take (oct_cut bs p k.toNat)))), (86, .bool true)])) (.bool true) ?_
      refine skp (.int .i64 (wrap64 (oct_take (oct_cut bs p k.toNat)))) ?_
      refine sk (a' := (up (or1_b153 A0 c0 l0 c1 lo bs g z i p ad k A2 c2) [(12, .bool true)])) (.bool true) ?_
      refine wpList_nil ?_
      refine wp_seq ?_
      refine wp_region_list ?_
      refine skp (.int .i64 (wrap64 (oct_take (oct_cut bs p k.toNat)))) ?_
      refine skp (.int .i64 (wrap64 (oct_take (oct_cut bs p k.toNat)))) ?_
      refine se (a' := (up (or1_b153 A0 c0 l0 c1 lo bs g z i p ad k A2 c2) [(12, .bool true), (87, .int .i64 (wrap64 (oct_take (oct_cut bs p k.toNat)))), (88, .int .i64 (wrap64 (oct_take (oct_cut bs p k.toNat)))), (89, .bool false)])) (.bool false) (Eq.trans (b := .ok (.value (.bool (((wrap64 (oct_take (oct_cut bs p k.toNat))) : Int) != (wrap64 (oct_take (oct_cut bs p k.toNat)))))) W4) (by kernel_rfl) (st_ok (bne_eq_false_iff_eq.2 (by omega)))) ?_
      refine sk (a' := (up (or1_b153 A0 c0 l0 c1 lo bs g z i p ad k A2 c2) [(12, .bool true), (87, .int .i64 (wrap64 (oct_take (oct_cut bs p k.toNat)))), (88, .int .i64 (wrap64 (oct_take (oct_cut bs p k.toNat)))), (89, .bool false), (90, .bool false)])) (.bool false) ?_
      refine sk (a' := (up (or1_b156 A0 c0 l0 c1 lo bs g z i p ad k A2 c2) [])) (.bool true) ?_
      refine sk (a' := (up (or1_b156 A0 c0 l0 c1 lo bs g z i p ad k A2 c2) [(92, .bool false)])) (.bool false) ?_
      refine skp (.bool false) ?_
      refine skp (.bool false) ?_
      refine sk (a' := (up (or1_b156 A0 c0 l0 c1 lo bs g z i p ad k A2 c2) [(92, .bool false), (93, .bool false), (94, .bool false), (95, .bool false)])) (.bool false) ?_
      refine sk (a' := (up (or1_b156 A0 c0 l0 c1 lo bs g z i p ad k A2 c2) [(92, .bool false), (93, .bool false), (94, .bool false), (95, .bool false), (96, .pointer (some ⟨g, 0, none⟩))])) (.pointer (some ⟨g, 0, none⟩)) ?_
      refine st_call (rd_At hR) (by kernel_rfl) (by kernel_rfl) ?_
      rintro _ W5 ⟨rfl, hB⟩
      have hW := hW.step hB
      have hR := hR.below hB
      refine ⟨_, (up (or1_b159 A0 c0 l0 c1 lo bs g z i p ad k A2 c2) []), rfl, by kernel_rfl, ?_⟩
      refine sk (a' := (up (or1_b159 A0 c0 l0 c1 lo bs g z i p ad k A2 c2) [(98, .int .i64 ((p + k.toNat : Nat) : Int))])) (.int .i64 ((p + k.toNat : Nat) : Int)) ?_
      refine sep (.bool false) (Eq.trans (b := .ok (.value (.bool ((((p + k.toNat : Nat) : Int) : Int) != ((p + k.toNat : Nat) : Int)))) W5) (by kernel_rfl) (st_ok (bne_eq_false_iff_eq.2 (by omega)))) ?_
      refine skp (.bool false) ?_
      refine sk (a' := (up (or1_b159 A0 c0 l0 c1 lo bs g z i p ad k A2 c2) [(98, .int .i64 ((p + k.toNat : Nat) : Int)), (99, .bool false), (100, .bool false), (101, .bool false)])) (.bool false) ?_
      refine sk (a' := (up (or1_b159 A0 c0 l0 c1 lo bs g z i p ad k A2 c2) [(98, .int .i64 ((p + k.toNat : Nat) : Int)), (99, .bool false), (100, .bool false), (101, .bool false), (102, .pointer (some ⟨g, 0, none⟩))])) (.pointer (some ⟨g, 0, none⟩)) ?_
      refine st_call (rd_Left hR) (by kernel_rfl) (by kernel_rfl) ?_
      rintro _ W6 ⟨rfl, hB⟩
      have hW := hW.step hB
      have hR := hR.below hB
      refine ⟨_, (up (or1_b161 A0 c0 l0 c1 lo bs g z i p ad k A2 c2) []), rfl, by kernel_rfl, ?_⟩
      refine sk (a' := (up (or1_b161 A0 c0 l0 c1 lo bs g z i p ad k A2 c2) [(104, .slice A0 bs.length c0)])) (.slice A0 bs.length c0) ?_
      refine sk (a' := (up (or1_b161 A0 c0 l0 c1 lo bs g z i p ad k A2 c2) [(104, .slice A0 bs.length c0), (105, .int .i64 (bs.length : Int))])) (.int .i64 (bs.length : Int)) ?_
      refine sk (a' := (up (or1_b161 A0 c0 l0 c1 lo bs g z i p ad k A2 c2) [(104, .slice A0 bs.length c0), (105, .int .i64 (bs.length : Int)), (106, .int .i64 ((p + k.toNat : Nat) : Int))])) (.int .i64 ((p + k.toNat : Nat) : Int)) ?_
      refine se (a' := (up (or1_b161 A0 c0 l0 c1 lo bs g z i p ad k A2 c2) [(104, .slice A0 bs.length c0), (105, .int .i64 (bs.length : Int)), (106, .int .i64 ((p + k.toNat : Nat) : Int)), (107, .int .i64 ((bs.length : Int) - ((p + k.toNat : Nat) : Int)))])) (.int .i64 ((bs.length : Int) - ((p + k.toNat : Nat) : Int))) (Eq.trans (b := .ok (.value (.int .i64 (IntKind.wrap .i64 ((bs.length : Int) - ((p + k.toNat : Nat) : Int))))) W6) (by kernel_rfl) (by rw [hwm])) ?_
      refine sep (.bool false) (Eq.trans (b := .ok (.value (.bool ((((bs.length : Int) - ((p + k.toNat : Nat) : Int)) : Int) != ((bs.length : Int) - ((p + k.toNat : Nat) : Int))))) W6) (by kernel_rfl) (st_ok (bne_eq_false_iff_eq.2 (by omega)))) ?_
      refine skp (.bool false) ?_
      refine sk (a' := (up (or1_b163 A0 c0 l0 c1 lo bs g z i p ad k A2 c2) [(110, .bool false)])) (.bool false) ?_
      refine sk (a' := (up (or1_b163 A0 c0 l0 c1 lo bs g z i p ad k A2 c2) [(110, .bool false), (111, .pointer (some ⟨g, 0, none⟩))])) (.pointer (some ⟨g, 0, none⟩)) ?_
      refine st_call (rd_Bad hR) (by kernel_rfl) (by kernel_rfl) ?_
      rintro _ W7 ⟨rfl, hB⟩
      have hW := hW.step hB
      have hR := hR.below hB
      refine ⟨_, (up (or1_b163 A0 c0 l0 c1 lo bs g z i p ad k A2 c2) [(110, .bool false), (111, .pointer (some ⟨g, 0, none⟩)), (112, .bool false)]), rfl, by kernel_rfl, ?_⟩
      refine sk (a' := (up (or1_b163 A0 c0 l0 c1 lo bs g z i p ad k A2 c2) [(110, .bool false), (111, .pointer (some ⟨g, 0, none⟩)), (112, .bool false), (113, .bool false)])) (.bool false) ?_
      refine skp (.bool false) ?_
      refine sk (a' := (up (or1_b165 A0 c0 l0 c1 lo bs g z i p ad k A2 c2) [])) (.bool false) ?_
      refine wpList_nil ?_
      refine wp_cond (t := false) (by kernel_rfl) ?_
      refine wp_skip ?_
      refine wp_region_list ?_
      refine skp (.int .i64 (i : Int)) ?_
      refine sep (.int .i64 ((i + 1 : Nat) : Int)) (Eq.trans (b := .ok (.value (.int .i64 (IntKind.wrap .i64 ((i : Int) + 1)))) W7) (by kernel_rfl) (by rw [hwi])) ?_
      refine sk (a' := (up (or1_b165 A0 c0 l0 c1 lo bs g z i p ad k A2 c2) [(8, .int .i64 ((i + 1 : Nat) : Int)), (30, .int .i64 (i : Int)), (31, .int .i64 ((i + 1 : Nat) : Int))])) (.int .i64 ((i + 1 : Nat) : Int)) ?_
      refine wpList_nil ?_
      exact lp_next (lo.length - (i + 1)) (by omega) ⟨(fun mm => ((up (or1_b165 A0 c0 l0 c1 lo bs g z i p ad k A2 c2) [(8, .int .i64 ((i + 1 : Nat) : Int)), (30, .int .i64 (i : Int)), (31, .int .i64 ((i + 1 : Nat) : Int))])).tmps.getD mm undef), (i + 1), (p + k.toNat), false, by kernel_rfl, hW, hR, (by omega), (by omega), rfl⟩
  · skip
    have hC := hr0
    have hbc := hc0
    have hb4 : l0.length ≤ 400 := by omega
    have hdig := hdg
    have hI := C_ints hC
    refine calls_of_wp Try.func5 rfl ?_
    have hW := Ws.nil w
    refine wp_seq ?_
    refine wp_region_list ?_
    refine sk (a' := (up (or0_b3 A0 c0 l0 A1 c1 lo) [])) (.bool false) ?_
    refine wpList_nil ?_
    refine wp_seq ?_
    refine wp_seq ?_
    refine wp_region_list ?_
    refine st_call (alive_calls w) (by kernel_rfl) (by kernel_rfl) ?_
    rintro _ W1 ⟨rfl, hB⟩
    have hW := hW.step hB
    refine ⟨_, (up (or0_b3 A0 c0 l0 A1 c1 lo) [(13, .bool true)]), rfl, by kernel_rfl, ?_⟩
    refine sk (a' := (up (or0_b3 A0 c0 l0 A1 c1 lo) [(13, .bool true), (14, .bool false)])) (.bool false) ?_
    refine wpList_nil ?_
    refine wp_cond (t := false) (by kernel_rfl) ?_
    refine wp_skip ?_
    refine wp_seq ?_
    refine wp_seq ?_
    refine wp_region_list ?_
    refine skp (.slice A0 l0.length c0) ?_
    refine skp (.int .i64 (l0.length : Int)) ?_
    refine se (a' := (up (or0_b3 A0 c0 l0 A1 c1 lo) [(13, .bool true), (14, .bool false), (15, .slice A0 l0.length c0), (16, .int .i64 (l0.length : Int)), (17, .bool false)])) (.bool false) (Eq.trans (b := .ok (.value (.bool (decide (((l0.length : Int) : Int) > 400)))) W1) (by kernel_rfl) (st_ok (decide_eq_false (by omega)))) ?_
    refine wpList_nil ?_
    refine wp_cond (t := false) (by kernel_rfl) ?_
    refine wp_skip ?_
    refine wp_seq ?_
    refine wp_region_list ?_
    refine sk (a' := (up (or0_b6 A0 c0 l0 A1 c1 lo) [])) (.slice A0 l0.length c0) ?_
    refine st_call (rd_New (bs := l0) (c := c0) (hI.below hW.below) (by omega)) (by kernel_rfl) (by kernel_rfl) ?_
    rintro _ W2 ⟨g, v, rfl, hR, hB⟩
    have hWold := hW
    have hW := hW.step hB
    have hgw : w.heap.size ≤ g := Nat.le_trans (hWold.below.size) hR.1
    refine ⟨_, (up (or0_b6 A0 c0 l0 A1 c1 lo) [(21, .pointer (some ⟨g, 0, none⟩))]), rfl, by kernel_rfl, ?_⟩
    refine sk (a' := (up (or0_b6 A0 c0 l0 A1 c1 lo) [(5, .pointer (some ⟨g, 0, none⟩)), (21, .pointer (some ⟨g, 0, none⟩))])) (.pointer (some ⟨g, 0, none⟩)) ?_
    refine wpList_nil ?_
    refine wp_seq ?_
    refine wp_region_list ?_
    refine skp (.int .i64 0) ?_
    refine sk (a' := (up (or0_b6 A0 c0 l0 A1 c1 lo) [(5, .pointer (some ⟨g, 0, none⟩)), (6, .int .i64 0), (7, .bool false), (21, .pointer (some ⟨g, 0, none⟩))])) (.bool false) ?_
    refine wpList_nil ?_
    refine wp_seq ?_
    refine wp_seq ?_
    refine wp_region_list ?_
    refine sk (a' := (up (or0_b6 A0 c0 l0 A1 c1 lo) [(5, .pointer (some ⟨g, 0, none⟩)), (6, .int .i64 0), (7, .bool false), (8, .int .i64 0), (21, .pointer (some ⟨g, 0, none⟩))])) (.int .i64 0) ?_
    refine wpList_nil ?_
    refine wp_block ?_
    refine wp_loop_ghost (fun (mm : Nat) (a' : Act) (W' : World) => ∃ z : Nat → Value, ∃ i : Nat, ∃ p : Nat, ∃ q : Bool, a' = (up (or0_b15 A0 c0 l0 A1 c1 lo g z i p q) []) ∧ Ws w W' [] ∧ Rdr W' W1.heap.size g v l0 p q ∧ i ≤ lo.length ∧ p ≤ l0.length ∧ mm = lo.length - i) (lo.length - 0) ⟨(fun mm => ((up (or0_b6 A0 c0 l0 A1 c1 lo) [(5, .pointer (some ⟨g, 0, none⟩)), (6, .int .i64 0), (7, .bool false), (8, .int .i64 0), (21, .pointer (some ⟨g, 0, none⟩))])).tmps.getD mm undef), 0, 0, false, by kernel_rfl, hW, hR, Nat.zero_le _, Nat.zero_le _, rfl⟩ ?_
    rintro mm _ Wl ⟨z, i, p, q, rfl, hW, hR, hi, hpl, rfl⟩
    refine wp_seq ?_
    refine wp_seq ?_
    have hwl : IntKind.wrap .i64 ((l0.length : Int) - (p : Int)) = (l0.length : Int) - (p : Int) := by rw [IntKind.wrap_i64]; omega
    have hsp : lo.length ≤ i ∨ (i < lo.length ∧ 60 ≤ i) ∨ (i < lo.length ∧ i < 60 ∧ ∃ ad k sg, A1 = some ad ∧ OpAt w ad i k sg ∧ (q = true ∨ (q = false ∧ k < 1) ∨ (q = false ∧ 1 ≤ k ∧ 8 < k) ∨ (q = false ∧ (1 ≤ k ∧ k ≤ 8) ∧ (l0.length : Int) < (p : Int) + k) ∨ (q = false ∧ (1 ≤ k ∧ k ≤ 8) ∧ (p : Int) + k ≤ (l0.length : Int) ∧ sg = true) ∨ (q = false ∧ (1 ≤ k ∧ k ≤ 8) ∧ (p : Int) + k ≤ (l0.length : Int) ∧ sg = false))) := by
      by_cases h1 : i < lo.length
      · by_cases h2 : i < 60
        · obtain ⟨ad, k, sg, e, ho⟩ := op_at hCo h1
          refine .inr (.inr ⟨h1, h2, ad, k, sg, e, ho, ?_⟩)
          cases q
          · by_cases a1 : k < 1
            · exact .inr (.inl ⟨rfl, a1⟩)
            · by_cases a2 : 8 < k
              · exact .inr (.inr (.inl ⟨rfl, by omega, a2⟩))
              · by_cases a3 : (l0.length : Int) < (p : Int) + k
                · exact .inr (.inr (.inr (.inl ⟨rfl, by omega, a3⟩)))
                · cases sg
                  · exact .inr (.inr (.inr (.inr (.inr ⟨rfl, by omega, by omega, rfl⟩))))
                  · exact .inr (.inr (.inr (.inr (.inl ⟨rfl, by omega, by omega, rfl⟩))))
          · exact .inl rfl
        · exact .inr (.inl ⟨h1, by omega⟩)
      · exact .inl (by omega)
    rcases hsp with hin | ⟨hin, h60⟩ | ⟨hin, h60, ad, k, sg, rfl, hop, rfl | ⟨rfl, hk⟩ | ⟨rfl, hk⟩ | ⟨rfl, hk, hk2⟩ | ⟨rfl, hk, hk2, rfl⟩ | ⟨rfl, hk, hk2, rfl⟩⟩
    · skip
      refine wp_region_list ?_
      refine skp (.int .i64 (i : Int)) ?_
      refine skp (.slice A1 lo.length c1) ?_
      refine sk (a' := (up (or0_b15 A0 c0 l0 A1 c1 lo g z i p q) [(22, .int .i64 (i : Int)), (23, .slice A1 lo.length c1), (24, .int .i64 (lo.length : Int))])) (.int .i64 (lo.length : Int)) ?_
      refine sep (.bool false) (Eq.trans (b := .ok (.value (.bool (decide (((i : Int) : Int) < (lo.length : Int))))) Wl) (by kernel_rfl) (st_ok (decide_eq_false (by omega)))) ?_
      refine st_ones (w' := Wl) (a' := (up (or0_b15 A0 c0 l0 A1 c1 lo g z i p q) [(22, .int .i64 (i : Int)), (23, .slice A1 lo.length c1), (24, .int .i64 (lo.length : Int)), (25, .bool false), (26, .bool false)])) (a2 := (up (or0_b17 A0 c0 l0 A1 c1 lo g z i p q) [])) 2 (.bool false) (by kernel_rfl) (by kernel_rfl) (by kernel_rfl) (by kernel_rfl) (by kernel_rfl) ?_
      refine sk (a' := (up (or0_b17 A0 c0 l0 A1 c1 lo g z i p q) [(29, .bool false)])) (.bool false) ?_
      refine wpList_nil ?_
      refine wp_cond (t := false) (by kernel_rfl) ?_
      refine wp_exit ?_
      refine wp_seq ?_
      refine wp_region_list ?_
      refine sk (a' := (up (or0_b17 A0 c0 l0 A1 c1 lo g z i p q) [(29, .bool false), (116, .pointer (some ⟨g, 0, none⟩))])) (.pointer (some ⟨g, 0, none⟩)) ?_
      refine st_call (rd_At hR) (by kernel_rfl) (by kernel_rfl) ?_
      rintro _ W3 ⟨rfl, hB⟩
      have hW := hW.step hB
      have hR := hR.below hB
      refine ⟨_, (up (or0_b17 A0 c0 l0 A1 c1 lo g z i p q) [(29, .bool false), (116, .pointer (some ⟨g, 0, none⟩)), (117, .int .i64 (p : Int))]), rfl, by kernel_rfl, ?_⟩
      refine skp (.int .i64 (p : Int)) ?_
      refine sep (.bool true) (Eq.trans (b := .ok (.value (.bool (((p : Int) : Int) == (p : Int)))) W3) (by kernel_rfl) (st_ok (beq_iff_eq.2 (by omega)))) ?_
      refine sk (a' := (up (or0_b21 A0 c0 l0 A1 c1 lo g z i p q) [])) (.bool true) ?_
      refine wpList_nil ?_
      refine wp_ret ?_
      (try simp only [Exit.then, Exit.inBlock])
      change bodyPost Try.prog Try.f5 _ .ret _ _
      refine bodyPost_ret (results_tmp rfl _ _ _) rfl ?_
      exact ⟨by kernel_rfl, hW.below⟩
    · skip
      refine wp_region_list ?_
      refine skp (.int .i64 (i : Int)) ?_
      refine skp (.slice A1 lo.length c1) ?_
      refine sk (a' := (up (or0_b15 A0 c0 l0 A1 c1 lo g z i p q) [(22, .int .i64 (i : Int)), (23, .slice A1 lo.length c1), (24, .int .i64 (lo.length : Int))])) (.int .i64 (lo.length : Int)) ?_
      refine sep (.bool true) (Eq.trans (b := .ok (.value (.bool (decide (((i : Int) : Int) < (lo.length : Int))))) Wl) (by kernel_rfl) (st_ok (decide_eq_true (by omega)))) ?_
      refine sk (a' := (up (or0_b15 A0 c0 l0 A1 c1 lo g z i p q) [(22, .int .i64 (i : Int)), (23, .slice A1 lo.length c1), (24, .int .i64 (lo.length : Int)), (25, .bool true), (26, .bool true)])) (.bool true) ?_
      refine sk (a' := (up (or0_b23 A0 c0 l0 A1 c1 lo g z i p q) [])) (.int .i64 (i : Int)) ?_
      refine sep (.bool false) (Eq.trans (b := .ok (.value (.bool (decide (((i : Int) : Int) < 60)))) Wl) (by kernel_rfl) (st_ok (decide_eq_false (by omega)))) ?_
      refine sk (a' := (up (or0_b23 A0 c0 l0 A1 c1 lo g z i p q) [(28, .bool false), (29, .bool false)])) (.bool false) ?_
      refine wpList_nil ?_
      refine wp_cond (t := false) (by kernel_rfl) ?_
      refine wp_exit ?_
      refine wp_seq ?_
      refine wp_region_list ?_
      refine sk (a' := (up (or0_b23 A0 c0 l0 A1 c1 lo g z i p q) [(28, .bool false), (29, .bool false), (116, .pointer (some ⟨g, 0, none⟩))])) (.pointer (some ⟨g, 0, none⟩)) ?_
      refine st_call (rd_At hR) (by kernel_rfl) (by kernel_rfl) ?_
      rintro _ W3 ⟨rfl, hB⟩
      have hW := hW.step hB
      have hR := hR.below hB
      refine ⟨_, (up (or0_b23 A0 c0 l0 A1 c1 lo g z i p q) [(28, .bool false), (29, .bool false), (116, .pointer (some ⟨g, 0, none⟩)), (117, .int .i64 (p : Int))]), rfl, by kernel_rfl, ?_⟩
      refine skp (.int .i64 (p : Int)) ?_
      refine sep (.bool true) (Eq.trans (b := .ok (.value (.bool (((p : Int) : Int) == (p : Int)))) W3) (by kernel_rfl) (st_ok (beq_iff_eq.2 (by omega)))) ?_
      refine sk (a' := (up (or0_b25 A0 c0 l0 A1 c1 lo g z i p q) [(4, .bool true)])) (.bool true) ?_
      refine wpList_nil ?_
      refine wp_ret ?_
      (try simp only [Exit.then, Exit.inBlock])
      change bodyPost Try.prog Try.f5 _ .ret _ _
      refine bodyPost_ret (results_tmp rfl _ _ _) rfl ?_
      exact ⟨by kernel_rfl, hW.below⟩
    · skip
      have hwi : IntKind.wrap .i64 ((i : Int) + 1) = ((i + 1 : Nat) : Int) := by rw [IntKind.wrap_i64]; omega
      refine wp_region_list ?_
      refine skp (.int .i64 (i : Int)) ?_
      refine skp (.slice (some ad) lo.length c1) ?_
      refine sk (a' := (up (or0_b28 A0 c0 l0 c1 lo g z i p ad) [(23, .slice (some ad) lo.length c1), (24, .int .i64 (lo.length : Int))])) (.int .i64 (lo.length : Int)) ?_
      refine sep (.bool true) (Eq.trans (b := .ok (.value (.bool (decide (((i : Int) : Int) < (lo.length : Int))))) Wl) (by kernel_rfl) (st_ok (decide_eq_true (by omega)))) ?_
      refine sk (a' := (up (or0_b28 A0 c0 l0 c1 lo g z i p ad) [(23, .slice (some ad) lo.length c1), (24, .int .i64 (lo.length : Int)), (25, .bool true), (26, .bool true)])) (.bool true) ?_
      refine sk (a' := (up (or0_b28 A0 c0 l0 c1 lo g z i p ad) [(23, .slice (some ad) lo.length c1), (24, .int .i64 (lo.length : Int)), (25, .bool true), (26, .bool true), (27, .int .i64 (i : Int))])) (.int .i64 (i : Int)) ?_
      refine sep (.bool true) (Eq.trans (b := .ok (.value (.bool (decide (((i : Int) : Int) < 60)))) Wl) (by kernel_rfl) (st_ok (decide_eq_true (by omega)))) ?_
      refine sk (a' := (up (or0_b30 A0 c0 l0 c1 lo g z i p ad) [(29, .bool true)])) (.bool true) ?_
      refine wpList_nil ?_
      refine wp_cond (t := true) (by kernel_rfl) ?_
      refine wp_skip ?_
      refine wp_seq ?_
      refine wp_block ?_
      refine wp_seq ?_
      refine wp_region_list ?_
      refine skp (.slice (some ad) lo.length c1) ?_
      refine skp (.int .i64 (i : Int)) ?_
      refine se (a' := (up (or0_b30 A0 c0 l0 c1 lo g z i p ad) [(29, .bool true), (32, .slice (some ad) lo.length c1), (33, .int .i64 (i : Int)), (34, .pointer (some (ad.add (i * 2))))])) (.pointer (some (ad.add (i * 2)))) (Eq.trans (b := (do pure (Next.value (← Instr.indexAt 35 (.slice (some ad) lo.length c1) (.int .i64 (i : Int)))) : Sem Next).run Try.prog Wl) (by kernel_rfl) (st_val (idx_op hin Wl))) ?_
      refine skp (.pointer (some (ad.add (i * 2)))) ?_
      refine sep (.int .i64 k) (Eq.trans (b := (do pure (Next.value (← Instr.loadAt 3 (.pointer (some (ad.add (i * 2)))))) : Sem Next).run Try.prog Wl) (by kernel_rfl) (st_val (load_one Wl _ 3 _ _ ((hop.below hW.below).cell 0 _ rfl) Try.underlying3 rfl))) ?_
      refine sk (a' := (up (or0_b33 A0 c0 l0 c1 lo g z i p ad k) [(9, .int .i64 k)])) (.int .i64 k) ?_
      refine wpList_nil ?_
      refine wp_seq ?_
      refine wp_region_list ?_
      refine skp (.bool true) ?_
      refine st_ones (w' := Wl) (a' := (up (or0_b33 A0 c0 l0 c1 lo g z i p ad k) [(9, .int .i64 k), (37, .bool true), (38, .bool true)])) (a2 := (up (or0_b33 A0 c0 l0 c1 lo g z i p ad k) [(9, .int .i64 k), (37, .bool true), (38, .bool true), (39, zz), (40, zz)])) 2 (.bool true) (by kernel_rfl) (by kernel_rfl) (by kernel_rfl) (by kernel_rfl) (by kernel_rfl) ?_
      refine skp (.bool true) ?_
      refine st_ones (w' := Wl) (a' := (up (or0_b36 A0 c0 l0 c1 lo g z i p ad k) [(42, .bool true)])) (a2 := (up (or0_b36 A0 c0 l0 c1 lo g z i p ad k) [(42, .bool true), (43, zz), (44, zz)])) 2 (.bool true) (by kernel_rfl) (by kernel_rfl) (by kernel_rfl) (by kernel_rfl) (by kernel_rfl) ?_
      refine sk (a' := (up (or0_b36 A0 c0 l0 c1 lo g z i p ad k) [(42, .bool true), (43, zz), (44, zz), (45, .bool true)])) (.bool true) ?_
      refine st_ones (w' := Wl) (a' := (up (or0_b36 A0 c0 l0 c1 lo g z i p ad k) [(42, .bool true), (43, zz), (44, zz), (45, .bool true), (46, .bool true)])) (a2 := (up (or0_b39 A0 c0 l0 c1 lo g z i p ad k) [])) 6 (.bool true) (by kernel_rfl) (by kernel_rfl) (by kernel_rfl) (by kernel_rfl) (by kernel_rfl) ?_
      refine skp (.bool true) ?_
      refine sk (a' := (up (or0_b39 A0 c0 l0 c1 lo g z i p ad k) [(53, .bool true)])) (.bool true) ?_
      refine wpList_nil ?_
      refine wp_seq ?_
      refine wp_region_list ?_
      refine sk (a' := (up (or0_b39 A0 c0 l0 c1 lo g z i p ad k) [(10, .int .i64 0), (53, .bool true)])) (.int .i64 0) ?_
      refine wpList_nil ?_
      refine wp_seq ?_
      refine wp_seq ?_
      refine wp_region_list ?_
      refine skp (.bool true) ?_
      refine sk (a' := (up (or0_b39 A0 c0 l0 c1 lo g z i p ad k) [(10, .int .i64 0), (53, .bool true), (54, .bool true), (55, .bool false)])) (.bool false) ?_
      refine wpList_nil ?_
      refine wp_cond (t := false) (by kernel_rfl) ?_
      refine wp_skip ?_
      refine wp_seq ?_
      refine wp_region_list ?_
      refine skp (.pointer (some ⟨g, 0, none⟩)) ?_
      refine skp (.slice (some ad) lo.length c1) ?_
      refine sk (a' := (up (or0_b44 A0 c0 l0 c1 lo g z i p ad k) [(81, .int .i64 (i : Int))])) (.int .i64 (i : Int)) ?_
      refine sep (.pointer (some (ad.add (i * 2)))) (Eq.trans (b := (do pure (Next.value (← Instr.indexAt 35 (.slice (some ad) lo.length c1) (.int .i64 (i : Int)))) : Sem Next).run Try.prog Wl) (by kernel_rfl) (st_val (idx_op hin Wl))) ?_
      refine se (a' := (up (or0_b44 A0 c0 l0 c1 lo g z i p ad k) [(81, .int .i64 (i : Int)), (82, .pointer (some (ad.add (i * 2)))), (83, .agg #[.int .i64 k, .bool sg])])) (.agg #[.int .i64 k, .bool sg]) (Eq.trans (b := (do pure (Next.value (← Instr.loadAt 39 (.pointer (some (ad.add (i * 2)))))) : Sem Next).run Try.prog Wl) (by kernel_rfl) (st_val (load_row Wl _ 39 _ _ (hop.below hW.below).cell Try.underlying39 rfl (by kernel_rfl)))) ?_
      refine st_call (cl_no hR k (rd_or (.inl rfl)) sg) (by kernel_rfl) (by kernel_rfl) ?_
      rintro _ W3 ⟨rfl, hR, wa, hba, hG⟩
      have hW := Ws.ofBelow (pw_below_grown (below_step hW.below hba) _ (below_step hW.below hba).size hG (by rintro k ⟨rfl⟩; exact hgw))
      refine ⟨_, (up (or0_b44 A0 c0 l0 c1 lo g z i p ad k) [(81, .int .i64 (i : Int)), (82, .pointer (some (ad.add (i * 2)))), (83, .agg #[.int .i64 k, .bool sg]), (84, .tuple #[.int .i64 0, .bool false])]), rfl, by kernel_rfl, ?_⟩
      refine skp (.tuple #[.int .i64 0, .bool false]) ?_
      refine skp (.int .i64 0) ?_
      refine sk (a' := (up (or0_b47 A0 c0 l0 c1 lo g z i p ad k sg) [(86, .bool false)])) (.bool false) ?_
      refine skp (.int .i64 0) ?_
      refine sk (a' := (up (or0_b47 A0 c0 l0 c1 lo g z i p ad k sg) [(11, .int .i64 0), (12, .bool false), (86, .bool false)])) (.bool false) ?_
      refine wpList_nil ?_
      refine wp_seq ?_
      refine wp_region_list ?_
      refine skp (.int .i64 0) ?_
      refine skp (.int .i64 0) ?_
      refine sk (a' := (up (or0_b50 A0 c0 l0 c1 lo g z i p ad k sg) [])) (.bool false) ?_
      refine sk (a' := (up (or0_b50 A0 c0 l0 c1 lo g z i p ad k sg) [(90, .bool false)])) (.bool false) ?_
      refine sk (a' := (up (or0_b50 A0 c0 l0 c1 lo g z i p ad k sg) [(90, .bool false), (91, .bool false)])) (.bool false) ?_
      refine sk (a' := (up (or0_b50 A0 c0 l0 c1 lo g z i p ad k sg) [(90, .bool false), (91, .bool false), (92, .bool true)])) (.bool true) ?_
      refine skp (.bool false) ?_
      refine skp (.bool false) ?_
      refine sk (a' := (up (or0_b52 A0 c0 l0 c1 lo g z i p ad k sg) [])) (.bool false) ?_
      refine sk (a' := (up (or0_b52 A0 c0 l0 c1 lo g z i p ad k sg) [(96, .pointer (some ⟨g, 0, none⟩))])) (.pointer (some ⟨g, 0, none⟩)) ?_
      refine st_call (rd_At hR) (by kernel_rfl) (by kernel_rfl) ?_
      rintro _ W4 ⟨rfl, hB⟩
      have hW := hW.step hB
      have hR := hR.below hB
      refine ⟨_, (up (or0_b52 A0 c0 l0 c1 lo g z i p ad k sg) [(96, .pointer (some ⟨g, 0, none⟩)), (97, .int .i64 (p : Int))]), rfl, by kernel_rfl, ?_⟩
      refine sk (a' := (up (or0_b52 A0 c0 l0 c1 lo g z i p ad k sg) [(96, .pointer (some ⟨g, 0, none⟩)), (97, .int .i64 (p : Int)), (98, .int .i64 (p : Int))])) (.int .i64 (p : Int)) ?_
      refine sep (.bool false) (Eq.trans (b := .ok (.value (.bool (((p : Int) : Int) != (p : Int)))) W4) (by kernel_rfl) (st_ok (bne_eq_false_iff_eq.2 (by omega)))) ?_
      refine skp (.bool false) ?_
      refine sk (a' := (up (or0_b54 A0 c0 l0 c1 lo g z i p ad k sg) [])) (.bool false) ?_
      refine sk (a' := (up (or0_b54 A0 c0 l0 c1 lo g z i p ad k sg) [(102, .pointer (some ⟨g, 0, none⟩))])) (.pointer (some ⟨g, 0, none⟩)) ?_
      refine st_call (rd_Left hR) (by kernel_rfl) (by kernel_rfl) ?_
      rintro _ W5 ⟨rfl, hB⟩
      have hW := hW.step hB
      have hR := hR.below hB
      refine ⟨_, (up (or0_b54 A0 c0 l0 c1 lo g z i p ad k sg) [(102, .pointer (some ⟨g, 0, none⟩)), (103, .int .i64 ((l0.length : Int) - (p : Int)))]), rfl, by kernel_rfl, ?_⟩
      refine sk (a' := (up (or0_b54 A0 c0 l0 c1 lo g z i p ad k sg) [(102, .pointer (some ⟨g, 0, none⟩)), (103, .int .i64 ((l0.length : Int) - (p : Int))), (104, .slice A0 l0.length c0)])) (.slice A0 l0.length c0) ?_
      refine sk (a' := (up (or0_b54 A0 c0 l0 c1 lo g z i p ad k sg) [(102, .pointer (some ⟨g, 0, none⟩)), (103, .int .i64 ((l0.length : Int) - (p : Int))), (104, .slice A0 l0.length c0), (105, .int .i64 (l0.length : Int))])) (.int .i64 (l0.length : Int)) ?_
      refine sk (a' := (up (or0_b54 A0 c0 l0 c1 lo g z i p ad k sg) [(102, .pointer (some ⟨g, 0, none⟩)), (103, .int .i64 ((l0.length : Int) - (p : Int))), (104, .slice A0 l0.length c0), (105, .int .i64 (l0.length : Int)), (106, .int .i64 (p : Int))])) (.int .i64 (p : Int)) ?_
      refine se (a' := (up (or0_b56 A0 c0 l0 c1 lo g z i p ad k sg) [])) (.int .i64 ((l0.length : Int) - (p : Int))) (Eq.trans (b := .ok (.value (.int .i64 (IntKind.wrap .i64 ((l0.length : Int) - (p : Int))))) W5) (by kernel_rfl) (by rw [hwl])) ?_
      refine sep (.bool false) (Eq.trans (b := .ok (.value (.bool ((((l0.length : Int) - (p : Int)) : Int) != ((l0.length : Int) - (p : Int))))) W5) (by kernel_rfl) (st_ok (bne_eq_false_iff_eq.2 (by omega)))) ?_
      refine skp (.bool false) ?_
      refine sk (a' := (up (or0_b56 A0 c0 l0 c1 lo g z i p ad k sg) [(108, .bool false), (109, .bool false), (110, .bool false)])) (.bool false) ?_
      refine sk (a' := (up (or0_b56 A0 c0 l0 c1 lo g z i p ad k sg) [(108, .bool false), (109, .bool false), (110, .bool false), (111, .pointer (some ⟨g, 0, none⟩))])) (.pointer (some ⟨g, 0, none⟩)) ?_
      refine st_call (rd_Bad hR) (by kernel_rfl) (by kernel_rfl) ?_
      rintro _ W6 ⟨rfl, hB⟩
      have hW := hW.step hB
      have hR := hR.below hB
      refine ⟨_, (up (or0_b56 A0 c0 l0 c1 lo g z i p ad k sg) [(108, .bool false), (109, .bool false), (110, .bool false), (111, .pointer (some ⟨g, 0, none⟩)), (112, .bool true)]), rfl, by kernel_rfl, ?_⟩
      refine sk (a' := (up (or0_b59 A0 c0 l0 c1 lo g z i p ad k sg) [])) (.bool true) ?_
      refine skp (.bool false) ?_
      refine sk (a' := (up (or0_b59 A0 c0 l0 c1 lo g z i p ad k sg) [(114, .bool false), (115, .bool false)])) (.bool false) ?_
      refine wpList_nil ?_
      refine wp_cond (t := false) (by kernel_rfl) ?_
      refine wp_skip ?_
      refine wp_region_list ?_
      refine skp (.int .i64 (i : Int)) ?_
      refine sep (.int .i64 ((i + 1 : Nat) : Int)) (Eq.trans (b := .ok (.value (.int .i64 (IntKind.wrap .i64 ((i : Int) + 1)))) W6) (by kernel_rfl) (by rw [hwi])) ?_
      refine sk (a' := (up (or0_b59 A0 c0 l0 c1 lo g z i p ad k sg) [(8, .int .i64 ((i + 1 : Nat) : Int)), (30, .int .i64 (i : Int)), (31, .int .i64 ((i + 1 : Nat) : Int)), (114, .bool false), (115, .bool false)])) (.int .i64 ((i + 1 : Nat) : Int)) ?_
      refine wpList_nil ?_
      exact lp_next (lo.length - (i + 1)) (by omega) ⟨(fun mm => ((up (or0_b59 A0 c0 l0 c1 lo g z i p ad k sg) [(8, .int .i64 ((i + 1 : Nat) : Int)), (30, .int .i64 (i : Int)), (31, .int .i64 ((i + 1 : Nat) : Int)), (114, .bool false), (115, .bool false)])).tmps.getD mm undef), (i + 1), p, true, by kernel_rfl, hW, hR, (by omega), (by omega), rfl⟩
    · skip
      have hwi : IntKind.wrap .i64 ((i : Int) + 1) = ((i + 1 : Nat) : Int) := by rw [IntKind.wrap_i64]; omega
      refine wp_region_list ?_
      refine skp (.int .i64 (i : Int)) ?_
      refine skp (.slice (some ad) lo.length c1) ?_
      refine sk (a' := (up (or0_b61 A0 c0 l0 c1 lo g z i p ad) [(23, .slice (some ad) lo.length c1), (24, .int .i64 (lo.length : Int))])) (.int .i64 (lo.length : Int)) ?_
      refine sep (.bool true) (Eq.trans (b := .ok (.value (.bool (decide (((i : Int) : Int) < (lo.length : Int))))) Wl) (by kernel_rfl) (st_ok (decide_eq_true (by omega)))) ?_
      refine sk (a' := (up (or0_b61 A0 c0 l0 c1 lo g z i p ad) [(23, .slice (some ad) lo.length c1), (24, .int .i64 (lo.length : Int)), (25, .bool true), (26, .bool true)])) (.bool true) ?_
      refine sk (a' := (up (or0_b61 A0 c0 l0 c1 lo g z i p ad) [(23, .slice (some ad) lo.length c1), (24, .int .i64 (lo.length : Int)), (25, .bool true), (26, .bool true), (27, .int .i64 (i : Int))])) (.int .i64 (i : Int)) ?_
      refine sep (.bool true) (Eq.trans (b := .ok (.value (.bool (decide (((i : Int) : Int) < 60)))) Wl) (by kernel_rfl) (st_ok (decide_eq_true (by omega)))) ?_
      refine sk (a' := (up (or0_b62 A0 c0 l0 c1 lo g z i p ad) [(29, .bool true)])) (.bool true) ?_
      refine wpList_nil ?_
      refine wp_cond (t := true) (by kernel_rfl) ?_
      refine wp_skip ?_
      refine wp_seq ?_
      refine wp_block ?_
      refine wp_seq ?_
      refine wp_region_list ?_
      refine skp (.slice (some ad) lo.length c1) ?_
      refine skp (.int .i64 (i : Int)) ?_
      refine se (a' := (up (or0_b62 A0 c0 l0 c1 lo g z i p ad) [(29, .bool true), (32, .slice (some ad) lo.length c1), (33, .int .i64 (i : Int)), (34, .pointer (some (ad.add (i * 2))))])) (.pointer (some (ad.add (i * 2)))) (Eq.trans (b := (do pure (Next.value (← Instr.indexAt 35 (.slice (some ad) lo.length c1) (.int .i64 (i : Int)))) : Sem Next).run Try.prog Wl) (by kernel_rfl) (st_val (idx_op hin Wl))) ?_
      refine skp (.pointer (some (ad.add (i * 2)))) ?_
      refine sep (.int .i64 k) (Eq.trans (b := (do pure (Next.value (← Instr.loadAt 3 (.pointer (some (ad.add (i * 2)))))) : Sem Next).run Try.prog Wl) (by kernel_rfl) (st_val (load_one Wl _ 3 _ _ ((hop.below hW.below).cell 0 _ rfl) Try.underlying3 rfl))) ?_
      refine sk (a' := (up (or0_b63 A0 c0 l0 c1 lo g z i p ad k) [(9, .int .i64 k)])) (.int .i64 k) ?_
      refine wpList_nil ?_
      refine wp_seq ?_
      refine wp_region_list ?_
      refine skp (.bool false) ?_
      refine sk (a' := (up (or0_b63 A0 c0 l0 c1 lo g z i p ad k) [(9, .int .i64 k), (37, .bool false), (38, .bool false)])) (.bool false) ?_
      refine sk (a' := (up (or0_b63 A0 c0 l0 c1 lo g z i p ad k) [(9, .int .i64 k), (37, .bool false), (38, .bool false), (39, .int .i64 k)])) (.int .i64 k) ?_
      refine sep (.bool true) (Eq.trans (b := .ok (.value (.bool (decide ((k : Int) < 1)))) Wl) (by kernel_rfl) (st_ok (decide_eq_true (by omega)))) ?_
      refine skp (.bool true) ?_
      refine st_ones (w' := Wl) (a' := (up (or0_b66 A0 c0 l0 c1 lo g z i p ad k) [(42, .bool true)])) (a2 := (up (or0_b66 A0 c0 l0 c1 lo g z i p ad k) [(42, .bool true), (43, zz), (44, zz)])) 2 (.bool true) (by kernel_rfl) (by kernel_rfl) (by kernel_rfl) (by kernel_rfl) (by kernel_rfl) ?_
      refine sk (a' := (up (or0_b66 A0 c0 l0 c1 lo g z i p ad k) [(42, .bool true), (43, zz), (44, zz), (45, .bool true)])) (.bool true) ?_
      refine st_ones (w' := Wl) (a' := (up (or0_b66 A0 c0 l0 c1 lo g z i p ad k) [(42, .bool true), (43, zz), (44, zz), (45, .bool true), (46, .bool true)])) (a2 := (up (or0_b68 A0 c0 l0 c1 lo g z i p ad k) [])) 6 (.bool true) (by kernel_rfl) (by kernel_rfl) (by kernel_rfl) (by kernel_rfl) (by kernel_rfl) ?_
      refine skp (.bool true) ?_
      refine sk (a' := (up (or0_b68 A0 c0 l0 c1 lo g z i p ad k) [(7, .bool true), (53, .bool true)])) (.bool true) ?_
      refine wpList_nil ?_
      refine wp_seq ?_
      refine wp_region_list ?_
      refine sk (a' := (up (or0_b68 A0 c0 l0 c1 lo g z i p ad k) [(7, .bool true), (10, .int .i64 0), (53, .bool true)])) (.int .i64 0) ?_
      refine wpList_nil ?_
      refine wp_seq ?_
      refine wp_seq ?_
      refine wp_region_list ?_
      refine skp (.bool true) ?_
      refine sk (a' := (up (or0_b68 A0 c0 l0 c1 lo g z i p ad k) [(7, .bool true), (10, .int .i64 0), (53, .bool true), (54, .bool true), (55, .bool false)])) (.bool false) ?_
      refine wpList_nil ?_
      refine wp_cond (t := false) (by kernel_rfl) ?_
      refine wp_skip ?_
      refine wp_seq ?_
      refine wp_region_list ?_
      refine skp (.pointer (some ⟨g, 0, none⟩)) ?_
      refine skp (.slice (some ad) lo.length c1) ?_
      refine sk (a' := (up (or0_b69 A0 c0 l0 c1 lo g z i p ad k) [(80, .slice (some ad) lo.length c1), (81, .int .i64 (i : Int))])) (.int .i64 (i : Int)) ?_
      refine sep (.pointer (some (ad.add (i * 2)))) (Eq.trans (b := (do pure (Next.value (← Instr.indexAt 35 (.slice (some ad) lo.length c1) (.int .i64 (i : Int)))) : Sem Next).run Try.prog Wl) (by kernel_rfl) (st_val (idx_op hin Wl))) ?_
      refine se (a' := (up (or0_b69 A0 c0 l0 c1 lo g z i p ad k) [(80, .slice (some ad) lo.length c1), (81, .int .i64 (i : Int)), (82, .pointer (some (ad.add (i * 2)))), (83, .agg #[.int .i64 k, .bool sg])])) (.agg #[.int .i64 k, .bool sg]) (Eq.trans (b := (do pure (Next.value (← Instr.loadAt 39 (.pointer (some (ad.add (i * 2)))))) : Sem Next).run Try.prog Wl) (by kernel_rfl) (st_val (load_row Wl _ 39 _ _ (hop.below hW.below).cell Try.underlying39 rfl (by kernel_rfl)))) ?_
      refine st_call (cl_no hR k (rd_or (.inr (.inl hk))) sg) (by kernel_rfl) (by kernel_rfl) ?_
      rintro _ W3 ⟨rfl, hR, wa, hba, hG⟩
      have hW := Ws.ofBelow (pw_below_grown (below_step hW.below hba) _ (below_step hW.below hba).size hG (by rintro k ⟨rfl⟩; exact hgw))
      refine ⟨_, (up (or0_b69 A0 c0 l0 c1 lo g z i p ad k) [(80, .slice (some ad) lo.length c1), (81, .int .i64 (i : Int)), (82, .pointer (some (ad.add (i * 2)))), (83, .agg #[.int .i64 k, .bool sg]), (84, .tuple #[.int .i64 0, .bool false])]), rfl, by kernel_rfl, ?_⟩
      refine skp (.tuple #[.int .i64 0, .bool false]) ?_
      refine skp (.int .i64 0) ?_
      refine sk (a' := (up (or0_b71 A0 c0 l0 c1 lo g z i p ad k sg) [(85, .int .i64 0), (86, .bool false)])) (.bool false) ?_
      refine skp (.int .i64 0) ?_
      refine sk (a' := (up (or0_b71 A0 c0 l0 c1 lo g z i p ad k sg) [(11, .int .i64 0), (12, .bool false), (85, .int .i64 0), (86, .bool false)])) (.bool false) ?_
      refine wpList_nil ?_
      refine wp_seq ?_
      refine wp_region_list ?_
      refine skp (.int .i64 0) ?_
      refine skp (.int .i64 0) ?_
      refine sk (a' := (up (or0_b73 A0 c0 l0 c1 lo g z i p ad k sg) [(89, .bool false)])) (.bool false) ?_
      refine sk (a' := (up (or0_b73 A0 c0 l0 c1 lo g z i p ad k sg) [(89, .bool false), (90, .bool false)])) (.bool false) ?_
      refine sk (a' := (up (or0_b73 A0 c0 l0 c1 lo g z i p ad k sg) [(89, .bool false), (90, .bool false), (91, .bool false)])) (.bool false) ?_
      refine sk (a' := (up (or0_b73 A0 c0 l0 c1 lo g z i p ad k sg) [(89, .bool false), (90, .bool false), (91, .bool false), (92, .bool true)])) (.bool true) ?_
      refine skp (.bool false) ?_
      refine skp (.bool false) ?_
      refine sk (a' := (up (or0_b75 A0 c0 l0 c1 lo g z i p ad k sg) [(95, .bool false)])) (.bool false) ?_
      refine sk (a' := (up (or0_b75 A0 c0 l0 c1 lo g z i p ad k sg) [(95, .bool false), (96, .pointer (some ⟨g, 0, none⟩))])) (.pointer (some ⟨g, 0, none⟩)) ?_
      refine st_call (rd_At hR) (by kernel_rfl) (by kernel_rfl) ?_
      rintro _ W4 ⟨rfl, hB⟩
      have hW := hW.step hB
      have hR := hR.below hB
      refine ⟨_, (up (or0_b75 A0 c0 l0 c1 lo g z i p ad k sg) [(95, .bool false), (96, .pointer (some ⟨g, 0, none⟩)), (97, .int .i64 (p : Int))]), rfl, by kernel_rfl, ?_⟩
      refine sk (a' := (up (or0_b75 A0 c0 l0 c1 lo g z i p ad k sg) [(95, .bool false), (96, .pointer (some ⟨g, 0, none⟩)), (97, .int .i64 (p : Int)), (98, .int .i64 (p : Int))])) (.int .i64 (p : Int)) ?_
      refine sep (.bool false) (Eq.trans (b := .ok (.value (.bool (((p : Int) : Int) != (p : Int)))) W4) (by kernel_rfl) (st_ok (bne_eq_false_iff_eq.2 (by omega)))) ?_
      refine skp (.bool false) ?_
      refine sk (a' := (up (or0_b77 A0 c0 l0 c1 lo g z i p ad k sg) [(101, .bool false)])) (.bool false) ?_
      refine sk (a' := (up (or0_b77 A0 c0 l0 c1 lo g z i p ad k sg) [(101, .bool false), (102, .pointer (some ⟨g, 0, none⟩))])) (.pointer (some ⟨g, 0, none⟩)) ?_
      refine st_call (rd_Left hR) (by kernel_rfl) (by kernel_rfl) ?_
      rintro _ W5 ⟨rfl, hB⟩
      have hW := hW.step hB
      have hR := hR.below hB
      refine ⟨_, (up (or0_b77 A0 c0 l0 c1 lo g z i p ad k sg) [(101, .bool false), (102, .pointer (some ⟨g, 0, none⟩)), (103, .int .i64 ((l0.length : Int) - (p : Int)))]), rfl, by kernel_rfl, ?_⟩
      refine sk (a' := (up (or0_b77 A0 c0 l0 c1 lo g z i p ad k sg) [(101, .bool false), (102, .pointer (some ⟨g, 0, none⟩)), (103, .int .i64 ((l0.length : Int) - (p : Int))), (104, .slice A0 l0.length c0)])) (.slice A0 l0.length c0) ?_
      refine sk (a' := (up (or0_b77 A0 c0 l0 c1 lo g z i p ad k sg) [(101, .bool false), (102, .pointer (some ⟨g, 0, none⟩)), (103, .int .i64 ((l0.length : Int) - (p : Int))), (104, .slice A0 l0.length c0), (105, .int .i64 (l0.length : Int))])) (.int .i64 (l0.length : Int)) ?_
      refine sk (a' := (up (or0_b79 A0 c0 l0 c1 lo g z i p ad k sg) [])) (.int .i64 (p : Int)) ?_
      refine se (a' := (up (or0_b79 A0 c0 l0 c1 lo g z i p ad k sg) [(107, .int .i64 ((l0.length : Int) - (p : Int)))])) (.int .i64 ((l0.length : Int) - (p : Int))) (Eq.trans (b := .ok (.value (.int .i64 (IntKind.wrap .i64 ((l0.length : Int) - (p : Int))))) W5) (by kernel_rfl) (by rw [hwl])) ?_
      refine sep (.bool false) (Eq.trans (b := .ok (.value (.bool ((((l0.length : Int) - (p : Int)) : Int) != ((l0.length : Int) - (p : Int))))) W5) (by kernel_rfl) (st_ok (bne_eq_false_iff_eq.2 (by omega)))) ?_
      refine skp (.bool false) ?_
      refine sk (a' := (up (or0_b79 A0 c0 l0 c1 lo g z i p ad k sg) [(107, .int .i64 ((l0.length : Int) - (p : Int))), (108, .bool false), (109, .bool false), (110, .bool false)])) (.bool false) ?_
      refine sk (a' := (up (or0_b79 A0 c0 l0 c1 lo g z i p ad k sg) [(107, .int .i64 ((l0.length : Int) - (p : Int))), (108, .bool false), (109, .bool false), (110, .bool false), (111, .pointer (some ⟨g, 0, none⟩))])) (.pointer (some ⟨g, 0, none⟩)) ?_
      refine st_call (rd_Bad hR) (by kernel_rfl) (by kernel_rfl) ?_
      rintro _ W6 ⟨rfl, hB⟩
      have hW := hW.step hB
      have hR := hR.below hB
      refine ⟨_, (up (or0_b81 A0 c0 l0 c1 lo g z i p ad k sg) []), rfl, by kernel_rfl, ?_⟩
      refine sk (a' := (up (or0_b81 A0 c0 l0 c1 lo g z i p ad k sg) [(113, .bool true)])) (.bool true) ?_
      refine skp (.bool false) ?_
      refine sk (a' := (up (or0_b81 A0 c0 l0 c1 lo g z i p ad k sg) [(113, .bool true), (114, .bool false), (115, .bool false)])) (.bool false) ?_
      refine wpList_nil ?_
      refine wp_cond (t := false) (by kernel_rfl) ?_
      refine wp_skip ?_
      refine wp_region_list ?_
      refine skp (.int .i64 (i : Int)) ?_
      refine sep (.int .i64 ((i + 1 : Nat) : Int)) (Eq.trans (b := .ok (.value (.int .i64 (IntKind.wrap .i64 ((i : Int) + 1)))) W6) (by kernel_rfl) (by rw [hwi])) ?_
      refine sk (a' := (up (or0_b85 A0 c0 l0 c1 lo g z i p ad k sg) [])) (.int .i64 ((i + 1 : Nat) : Int)) ?_
      refine wpList_nil ?_
      exact lp_next (lo.length - (i + 1)) (by omega) ⟨(fun mm => ((up (or0_b85 A0 c0 l0 c1 lo g z i p ad k sg) [])).tmps.getD mm undef), (i + 1), p, true, by kernel_rfl, hW, hR, (by omega), (by omega), rfl⟩
    · skip
      have hwi : IntKind.wrap .i64 ((i : Int) + 1) = ((i + 1 : Nat) : Int) := by rw [IntKind.wrap_i64]; omega
      refine wp_region_list ?_
      refine skp (.int .i64 (i : Int)) ?_
      refine skp (.slice (some ad) lo.length c1) ?_
      refine sk (a' := (up (or0_b61 A0 c0 l0 c1 lo g z i p ad) [(23, .slice (some ad) lo.length c1), (24, .int .i64 (lo.length : Int))])) (.int .i64 (lo.length : Int)) ?_
      refine sep (.bool true) (Eq.trans (b := .ok (.value (.bool (decide (((i : Int) : Int) < (lo.length : Int))))) Wl) (by kernel_rfl) (st_ok (decide_eq_true (by omega)))) ?_
      refine sk (a' := (up (or0_b61 A0 c0 l0 c1 lo g z i p ad) [(23, .slice (some ad) lo.length c1), (24, .int .i64 (lo.length : Int)), (25, .bool true), (26, .bool true)])) (.bool true) ?_
      refine sk (a' := (up (or0_b61 A0 c0 l0 c1 lo g z i p ad) [(23, .slice (some ad) lo.length c1), (24, .int .i64 (lo.length : Int)), (25, .bool true), (26, .bool true), (27, .int .i64 (i : Int))])) (.int .i64 (i : Int)) ?_
      refine sep (.bool true) (Eq.trans (b := .ok (.value (.bool (decide (((i : Int) : Int) < 60)))) Wl) (by kernel_rfl) (st_ok (decide_eq_true (by omega)))) ?_
      refine sk (a' := (up (or0_b62 A0 c0 l0 c1 lo g z i p ad) [(29, .bool true)])) (.bool true) ?_
      refine wpList_nil ?_
      refine wp_cond (t := true) (by kernel_rfl) ?_
      refine wp_skip ?_
      refine wp_seq ?_
      refine wp_block ?_
      refine wp_seq ?_
      refine wp_region_list ?_
      refine skp (.slice (some ad) lo.length c1) ?_
      refine skp (.int .i64 (i : Int)) ?_
      refine se (a' := (up (or0_b62 A0 c0 l0 c1 lo g z i p ad) [(29, .bool true), (32, .slice (some ad) lo.length c1), (33, .int .i64 (i : Int)), (34, .pointer (some (ad.add (i * 2))))])) (.pointer (some (ad.add (i * 2)))) (Eq.trans (b := (do pure (Next.value (← Instr.indexAt 35 (.slice (some ad) lo.length c1) (.int .i64 (i : Int)))) : Sem Next).run Try.prog Wl) (by kernel_rfl) (st_val (idx_op hin Wl))) ?_
      refine skp (.pointer (some (ad.add (i * 2)))) ?_
      refine sep (.int .i64 k) (Eq.trans (b := (do pure (Next.value (← Instr.loadAt 3 (.pointer (some (ad.add (i * 2)))))) : Sem Next).run Try.prog Wl) (by kernel_rfl) (st_val (load_one Wl _ 3 _ _ ((hop.below hW.below).cell 0 _ rfl) Try.underlying3 rfl))) ?_
      refine sk (a' := (up (or0_b63 A0 c0 l0 c1 lo g z i p ad k) [(9, .int .i64 k)])) (.int .i64 k) ?_
      refine wpList_nil ?_
      refine wp_seq ?_
      refine wp_region_list ?_
      refine skp (.bool false) ?_
      refine sk (a' := (up (or0_b63 A0 c0 l0 c1 lo g z i p ad k) [(9, .int .i64 k), (37, .bool false), (38, .bool false)])) (.bool false) ?_
      refine sk (a' := (up (or0_b63 A0 c0 l0 c1 lo g z i p ad k) [(9, .int .i64 k), (37, .bool false), (38, .bool false), (39, .int .i64 k)])) (.int .i64 k) ?_
      refine sep (.bool false) (Eq.trans (b := .ok (.value (.bool (decide ((k : Int) < 1)))) Wl) (by kernel_rfl) (st_ok (decide_eq_false (by omega)))) ?_
      refine skp (.bool false) ?_
      refine sk (a' := (up (or0_b87 A0 c0 l0 c1 lo g z i p ad k) [(42, .bool false)])) (.bool false) ?_
      refine sk (a' := (up (or0_b87 A0 c0 l0 c1 lo g z i p ad k) [(42, .bool false), (43, .int .i64 k)])) (.int .i64 k) ?_
      refine sep (.bool true) (Eq.trans (b := .ok (.value (.bool (decide ((k : Int) > 8)))) Wl) (by kernel_rfl) (st_ok (decide_eq_true (by omega)))) ?_
      refine skp (.bool true) ?_
      refine st_ones (w' := Wl) (a' := (up (or0_b87 A0 c0 l0 c1 lo g z i p ad k) [(42, .bool false), (43, .int .i64 k), (44, .bool true), (45, .bool true), (46, .bool true)])) (a2 := (up (or0_b89 A0 c0 l0 c1 lo g z i p ad k) [])) 6 (.bool true) (by kernel_rfl) (by kernel_rfl) (by kernel_rfl) (by kernel_rfl) (by kernel_rfl) ?_
      refine sk (a' := (up (or0_b89 A0 c0 l0 c1 lo g z i p ad k) [(53, .bool true)])) (.bool true) ?_
      refine sk (a' := (up (or0_b89 A0 c0 l0 c1 lo g z i p ad k) [(7, .bool true), (53, .bool true)])) (.bool true) ?_
      refine wpList_nil ?_
      refine wp_seq ?_
      refine wp_region_list ?_
      refine sk (a' := (up (or0_b89 A0 c0 l0 c1 lo g z i p ad k) [(7, .bool true), (10, .int .i64 0), (53, .bool true)])) (.int .i64 0) ?_
      refine wpList_nil ?_
      refine wp_seq ?_
      refine wp_seq ?_
      refine wp_region_list ?_
      refine skp (.bool true) ?_
      refine sk (a' := (up (or0_b89 A0 c0 l0 c1 lo g z i p ad k) [(7, .bool true), (10, .int .i64 0), (53, .bool true), (54, .bool true), (55, .bool false)])) (.bool false) ?_
      refine wpList_nil ?_
      refine wp_cond (t := false) (by kernel_rfl) ?_
      refine wp_skip ?_
      refine wp_seq ?_
      refine wp_region_list ?_
      refine skp (.pointer (some ⟨g, 0, none⟩)) ?_
      refine skp (.slice (some ad) lo.length c1) ?_
      refine sk (a' := (up (or0_b90 A0 c0 l0 c1 lo g z i p ad k) [(80, .slice (some ad) lo.length c1), (81, .int .i64 (i : Int))])) (.int .i64 (i : Int)) ?_
      refine sep (.pointer (some (ad.add (i * 2)))) (Eq.trans (b := (do pure (Next.value (← Instr.indexAt 35 (.slice (some ad) lo.length c1) (.int .i64 (i : Int)))) : Sem Next).run Try.prog Wl) (by kernel_rfl) (st_val (idx_op hin Wl))) ?_
      refine se (a' := (up (or0_b90 A0 c0 l0 c1 lo g z i p ad k) [(80, .slice (some ad) lo.length c1), (81, .int .i64 (i : Int)), (82, .pointer (some (ad.add (i * 2)))), (83, .agg #[.int .i64 k, .bool sg])])) (.agg #[.int .i64 k, .bool sg]) (Eq.trans (b := (do pure (Next.value (← Instr.loadAt 39 (.pointer (some (ad.add (i * 2)))))) : Sem Next).run Try.prog Wl) (by kernel_rfl) (st_val (load_row Wl _ 39 _ _ (hop.below hW.below).cell Try.underlying39 rfl (by kernel_rfl)))) ?_
      refine st_call (cl_no hR k (rd_or (.inr (.inr (.inl hk.2)))) sg) (by kernel_rfl) (by kernel_rfl) ?_
      rintro _ W3 ⟨rfl, hR, wa, hba, hG⟩
      have hW := Ws.ofBelow (pw_below_grown (below_step hW.below hba) _ (below_step hW.below hba).size hG (by rintro k ⟨rfl⟩; exact hgw))
      refine ⟨_, (up (or0_b90 A0 c0 l0 c1 lo g z i p ad k) [(80, .slice (some ad) lo.length c1), (81, .int .i64 (i : Int)), (82, .pointer (some (ad.add (i * 2)))), (83, .agg #[.int .i64 k, .bool sg]), (84, .tuple #[.int .i64 0, .bool false])]), rfl, by kernel_rfl, ?_⟩
      refine skp (.tuple #[.int .i64 0, .bool false]) ?_
      refine skp (.int .i64 0) ?_
      refine sk (a' := (up (or0_b91 A0 c0 l0 c1 lo g z i p ad k sg) [(85, .int .i64 0), (86, .bool false)])) (.bool false) ?_
      refine skp (.int .i64 0) ?_
      refine sk (a' := (up (or0_b91 A0 c0 l0 c1 lo g z i p ad k sg) [(11, .int .i64 0), (12, .bool false), (85, .int .i64 0), (86, .bool false)])) (.bool false) ?_
      refine wpList_nil ?_
      refine wp_seq ?_
      refine wp_region_list ?_
      refine skp (.int .i64 0) ?_
      refine skp (.int .i64 0) ?_
      refine sk (a' := (up (or0_b92 A0 c0 l0 c1 lo g z i p ad k sg) [(89, .bool false)])) (.bool false) ?_
      refine sk (a' := (up (or0_b92 A0 c0 l0 c1 lo g z i p ad k sg) [(89, .bool false), (90, .bool false)])) (.bool false) ?_
      refine sk (a' := (up (or0_b92 A0 c0 l0 c1 lo g z i p ad k sg) [(89, .bool false), (90, .bool false), (91, .bool false)])) (.bool false) ?_
      refine sk (a' := (up (or0_b92 A0 c0 l0 c1 lo g z i p ad k sg) [(89, .bool false), (90, .bool false), (91, .bool false), (92, .bool true)])) (.bool true) ?_
      refine skp (.bool false) ?_
      refine skp (.bool false) ?_
      refine sk (a' := (up (or0_b93 A0 c0 l0 c1 lo g z i p ad k sg) [(95, .bool false)])) (.bool false) ?_
      refine sk (a' := (up (or0_b93 A0 c0 l0 c1 lo g z i p ad k sg) [(95, .bool false), (96, .pointer (some ⟨g, 0, none⟩))])) (.pointer (some ⟨g, 0, none⟩)) ?_
      refine st_call (rd_At hR) (by kernel_rfl) (by kernel_rfl) ?_
      rintro _ W4 ⟨rfl, hB⟩
      have hW := hW.step hB
      have hR := hR.below hB
      refine ⟨_, (up (or0_b93 A0 c0 l0 c1 lo g z i p ad k sg) [(95, .bool false), (96, .pointer (some ⟨g, 0, none⟩)), (97, .int .i64 (p : Int))]), rfl, by kernel_rfl, ?_⟩
      refine sk (a' := (up (or0_b93 A0 c0 l0 c1 lo g z i p ad k sg) [(95, .bool false), (96, .pointer (some ⟨g, 0, none⟩)), (97, .int .i64 (p : Int)), (98, .int .i64 (p : Int))])) (.int .i64 (p : Int)) ?_
      refine sep (.bool false) (Eq.trans (b := .ok (.value (.bool (((p : Int) : Int) != (p : Int)))) W4) (by kernel_rfl) (st_ok (bne_eq_false_iff_eq.2 (by omega)))) ?_
      refine skp (.bool false) ?_
      refine sk (a' := (up (or0_b94 A0 c0 l0 c1 lo g z i p ad k sg) [(101, .bool false)])) (.bool false) ?_
      refine sk (a' := (up (or0_b94 A0 c0 l0 c1 lo g z i p ad k sg) [(101, .bool false), (102, .pointer (some ⟨g, 0, none⟩))])) (.pointer (some ⟨g, 0, none⟩)) ?_
      refine st_call (rd_Left hR) (by kernel_rfl) (by kernel_rfl) ?_
      rintro _ W5 ⟨rfl, hB⟩
      have hW := hW.step hB
      have hR := hR.below hB
      refine ⟨_, (up (or0_b94 A0 c0 l0 c1 lo g z i p ad k sg) [(101, .bool false), (102, .pointer (some ⟨g, 0, none⟩)), (103, .int .i64 ((l0.length : Int) - (p : Int)))]), rfl, by kernel_rfl, ?_⟩
      refine sk (a' := (up (or0_b94 A0 c0 l0 c1 lo g z i p ad k sg) [(101, .bool false), (102, .pointer (some ⟨g, 0, none⟩)), (103, .int .i64 ((l0.length : Int) - (p : Int))), (104, .slice A0 l0.length c0)])) (.slice A0 l0.length c0) ?_
      refine sk (a' := (up (or0_b94 A0 c0 l0 c1 lo g z i p ad k sg) [(101, .bool false), (102, .pointer (some ⟨g, 0, none⟩)), (103, .int .i64 ((l0.length : Int) - (p : Int))), (104, .slice A0 l0.length c0), (105, .int .i64 (l0.length : Int))])) (.int .i64 (l0.length : Int)) ?_
      refine sk (a' := (up (or0_b95 A0 c0 l0 c1 lo g z i p ad k sg) [])) (.int .i64 (p : Int)) ?_
      refine se (a' := (up (or0_b95 A0 c0 l0 c1 lo g z i p ad k sg) [(107, .int .i64 ((l0.length : Int) - (p : Int)))])) (.int .i64 ((l0.length : Int) - (p : Int))) (Eq.trans (b := .ok (.value (.int .i64 (IntKind.wrap .i64 ((l0.length : Int) - (p : Int))))) W5) (by kernel_rfl) (by rw [hwl])) ?_
      refine sep (.bool false) (Eq.trans (b := .ok (.value (.bool ((((l0.length : Int) - (p : Int)) : Int) != ((l0.length : Int) - (p : Int))))) W5) (by kernel_rfl) (st_ok (bne_eq_false_iff_eq.2 (by omega)))) ?_
      refine skp (.bool false) ?_
      refine sk (a' := (up (or0_b95 A0 c0 l0 c1 lo g z i p ad k sg) [(107, .int .i64 ((l0.length : Int) - (p : Int))), (108, .bool false), (109, .bool false), (110, .bool false)])) (.bool false) ?_
      refine sk (a' := (up (or0_b95 A0 c0 l0 c1 lo g z i p ad k sg) [(107, .int .i64 ((l0.length : Int) - (p : Int))), (108, .bool false), (109, .bool false), (110, .bool false), (111, .pointer (some ⟨g, 0, none⟩))])) (.pointer (some ⟨g, 0, none⟩)) ?_
      refine st_call (rd_Bad hR) (by kernel_rfl) (by kernel_rfl) ?_
      rintro _ W6 ⟨rfl, hB⟩
      have hW := hW.step hB
      have hR := hR.below hB
      refine ⟨_, (up (or0_b96 A0 c0 l0 c1 lo g z i p ad k sg) []), rfl, by kernel_rfl, ?_⟩
      refine sk (a' := (up (or0_b96 A0 c0 l0 c1 lo g z i p ad k sg) [(113, .bool true)])) (.bool true) ?_
      refine skp (.bool false) ?_
      refine sk (a' := (up (or0_b96 A0 c0 l0 c1 lo g z i p ad k sg) [(113, .bool true), (114, .bool false), (115, .bool false)])) (.bool false) ?_
      refine wpList_nil ?_
      refine wp_cond (t := false) (by kernel_rfl) ?_
      refine wp_skip ?_
      refine wp_region_list ?_
      refine skp (.int .i64 (i : Int)) ?_
      refine sep (.int .i64 ((i + 1 : Nat) : Int)) (Eq.trans (b := .ok (.value (.int .i64 (IntKind.wrap .i64 ((i : Int) + 1)))) W6) (by kernel_rfl) (by rw [hwi])) ?_
      refine sk (a' := (up (or0_b97 A0 c0 l0 c1 lo g z i p ad k sg) [])) (.int .i64 ((i + 1 : Nat) : Int)) ?_
      refine wpList_nil ?_
      exact lp_next (lo.length - (i + 1)) (by omega) ⟨(fun mm => ((up (or0_b97 A0 c0 l0 c1 lo g z i p ad k sg) [])).tmps.getD mm undef), (i + 1), p, true, by kernel_rfl, hW, hR, (by omega), (by omega), rfl⟩
    · skip
      have hwi : IntKind.wrap .i64 ((i : Int) + 1) = ((i + 1 : Nat) : Int) := by rw [IntKind.wrap_i64]; omega
      have hwpk : IntKind.wrap .i64 ((p : Int) + k) = ((p + k.toNat : Nat) : Int) := by rw [IntKind.wrap_i64]; omega
      refine wp_region_list ?_
      refine skp (.int .i64 (i : Int)) ?_
      refine skp (.slice (some ad) lo.length c1) ?_
      refine sk (a' := (up (or0_b61 A0 c0 l0 c1 lo g z i p ad) [(23, .slice (some ad) lo.length c1), (24, .int .i64 (lo.length : Int))])) (.int .i64 (lo.length : Int)) ?_
      refine sep (.bool true) (Eq.trans (b := .ok (.value (.bool (decide (((i : Int) : Int) < (lo.length : Int))))) Wl) (by kernel_rfl) (st_ok (decide_eq_true (by omega)))) ?_
      refine sk (a' := (up (or0_b61 A0 c0 l0 c1 lo g z i p ad) [(23, .slice (some ad) lo.length c1), (24, .int .i64 (lo.length : Int)), (25, .bool true), (26, .bool true)])) (.bool true) ?_
      refine sk (a' := (up (or0_b61 A0 c0 l0 c1 lo g z i p ad) [(23, .slice (some ad) lo.length c1), (24, .int .i64 (lo.length : Int)), (25, .bool true), (26, .bool true), (27, .int .i64 (i : Int))])) (.int .i64 (i : Int)) ?_
      refine sep (.bool true) (Eq.trans (b := .ok (.value (.bool (decide (((i : Int) : Int) < 60)))) Wl) (by kernel_rfl) (st_ok (decide_eq_true (by omega)))) ?_
      refine sk (a' := (up (or0_b62 A0 c0 l0 c1 lo g z i p ad) [(29, .bool true)])) (.bool true) ?_
      refine wpList_nil ?_
      refine wp_cond (t := true) (by kernel_rfl) ?_
      refine wp_skip ?_
      refine wp_seq ?_
      refine wp_block ?_
      refine wp_seq ?_
      refine wp_region_list ?_
      refine skp (.slice (some ad) lo.length c1) ?_
      refine skp (.int .i64 (i : Int)) ?_
      refine se (a' := (up (or0_b62 A0 c0 l0 c1 lo g z i p ad) [(29, .bool true), (32, .slice (some ad) lo.length c1), (33, .int .i64 (i : Int)), (34, .pointer (some (ad.add (i * 2))))])) (.pointer (some (ad.add (i * 2)))) (Eq.trans (b := (do pure (Next.value (← Instr.indexAt 35 (.slice (some ad) lo.length c1) (.int .i64 (i : Int)))) : Sem Next).run Try.prog Wl) (by kernel_rfl) (st_val (idx_op hin Wl))) ?_
      refine skp (.pointer (some (ad.add (i * 2)))) ?_
      refine sep (.int .i64 k) (Eq.trans (b := (do pure (Next.value (← Instr.loadAt 3 (.pointer (some (ad.add (i * 2)))))) : Sem Next).run Try.prog Wl) (by kernel_rfl) (st_val (load_one Wl _ 3 _ _ ((hop.below hW.below).cell 0 _ rfl) Try.underlying3 rfl))) ?_
      refine sk (a' := (up (or0_b63 A0 c0 l0 c1 lo g z i p ad k) [(9, .int .i64 k)])) (.int .i64 k) ?_
      refine wpList_nil ?_
      refine wp_seq ?_
      refine wp_region_list ?_
      refine skp (.bool false) ?_
      refine sk (a' := (up (or0_b63 A0 c0 l0 c1 lo g z i p ad k) [(9, .int .i64 k), (37, .bool false), (38, .bool false)])) (.bool false) ?_
      refine sk (a' := (up (or0_b63 A0 c0 l0 c1 lo g z i p ad k) [(9, .int .i64 k), (37, .bool false), (38, .bool false), (39, .int .i64 k)])) (.int .i64 k) ?_
      refine sep (.bool false) (Eq.trans (b := .ok (.value (.bool (decide ((k : Int) < 1)))) Wl) (by kernel_rfl) (st_ok (decide_eq_false (by omega)))) ?_
      refine skp (.bool false) ?_
      refine sk (a' := (up (or0_b87 A0 c0 l0 c1 lo g z i p ad k) [(42, .bool false)])) (.bool false) ?_
      refine sk (a' := (up (or0_b87 A0 c0 l0 c1 lo g z i p ad k) [(42, .bool false), (43, .int .i64 k)])) (.int .i64 k) ?_
      refine sep (.bool false) (Eq.trans (b := .ok (.value (.bool (decide ((k : Int) > 8)))) Wl) (by kernel_rfl) (st_ok (decide_eq_false (by omega)))) ?_
      refine skp (.bool false) ?_
      refine sk (a' := (up (or0_b87 A0 c0 l0 c1 lo g z i p ad k) [(42, .bool false), (43, .int .i64 k), (44, .bool false), (45, .bool false), (46, .bool false)])) (.bool false) ?_
      refine sk (a' := (up (or0_b99 A0 c0 l0 c1 lo g z i p ad k) [])) (.int .i64 (p : Int)) ?_
      refine sk (a' := (up (or0_b99 A0 c0 l0 c1 lo g z i p ad k) [(48, .int .i64 k)])) (.int .i64 k) ?_
      refine se (a' := (up (or0_b99 A0 c0 l0 c1 lo g z i p ad k) [(48, .int .i64 k), (49, .int .i64 ((p + k.toNat : Nat) : Int))])) (.int .i64 ((p + k.toNat : Nat) : Int)) (Eq.trans (b := .ok (.value (.int .i64 (IntKind.wrap .i64 ((p : Int) + k)))) Wl) (by kernel_rfl) (by rw [hwpk])) ?_
      refine sk (a' := (up (or0_b99 A0 c0 l0 c1 lo g z i p ad k) [(48, .int .i64 k), (49, .int .i64 ((p + k.toNat : Nat) : Int)), (50, .slice A0 l0.length c0)])) (.slice A0 l0.length c0) ?_
      refine sk (a' := (up (or0_b99 A0 c0 l0 c1 lo g z i p ad k) [(48, .int .i64 k), (49, .int .i64 ((p + k.toNat : Nat) : Int)), (50, .slice A0 l0.length c0), (51, .int .i64 (l0.length : Int))])) (.int .i64 (l0.length : Int)) ?_
      refine sep (.bool true) (Eq.trans (b := .ok (.value (.bool (decide ((((p + k.toNat : Nat) : Int) : Int) > (l0.length : Int))))) Wl) (by kernel_rfl) (st_ok (decide_eq_true (by omega)))) ?_
      refine skp (.bool true) ?_
      refine sk (a' := (up (or0_b101 A0 c0 l0 c1 lo g z i p ad k) [(7, .bool true)])) (.bool true) ?_
      refine wpList_nil ?_
      refine wp_seq ?_
      refine wp_region_list ?_
      refine sk (a' := (up (or0_b101 A0 c0 l0 c1 lo g z i p ad k) [(7, .bool true), (10, .int .i64 0)])) (.int .i64 0) ?_
      refine wpList_nil ?_
      refine wp_seq ?_
      refine wp_seq ?_
      refine wp_region_list ?_
      refine skp (.bool true) ?_
      refine sk (a' := (up (or0_b101 A0 c0 l0 c1 lo g z i p ad k) [(7, .bool true), (10, .int .i64 0), (54, .bool true), (55, .bool false)])) (.bool false) ?_
      refine wpList_nil ?_
      refine wp_cond (t := false) (by kernel_rfl) ?_
      refine wp_skip ?_
      refine wp_seq ?_
      refine wp_region_list ?_
      refine skp (.pointer (some ⟨g, 0, none⟩)) ?_
      refine skp (.slice (some ad) lo.length c1) ?_
      refine sk (a' := (up (or0_b103 A0 c0 l0 c1 lo g z i p ad k) [(81, .int .i64 (i : Int))])) (.int .i64 (i : Int)) ?_
      refine sep (.pointer (some (ad.add (i * 2)))) (Eq.trans (b := (do pure (Next.value (← Instr.indexAt 35 (.slice (some ad) lo.length c1) (.int .i64 (i : Int)))) : Sem Next).run Try.prog Wl) (by kernel_rfl) (st_val (idx_op hin Wl))) ?_
      refine se (a' := (up (or0_b103 A0 c0 l0 c1 lo g z i p ad k) [(81, .int .i64 (i : Int)), (82, .pointer (some (ad.add (i * 2)))), (83, .agg #[.int .i64 k, .bool sg])])) (.agg #[.int .i64 k, .bool sg]) (Eq.trans (b := (do pure (Next.value (← Instr.loadAt 39 (.pointer (some (ad.add (i * 2)))))) : Sem Next).run Try.prog Wl) (by kernel_rfl) (st_val (load_row Wl _ 39 _ _ (hop.below hW.below).cell Try.underlying39 rfl (by kernel_rfl)))) ?_
      refine st_call (cl_no hR k (rd_or (.inr (.inr (.inr (by omega))))) sg) (by kernel_rfl) (by kernel_rfl) ?_
      rintro _ W3 ⟨rfl, hR, wa, hba, hG⟩
      have hW := Ws.ofBelow (pw_below_grown (below_step hW.below hba) _ (below_step hW.below hba).size hG (by rintro k ⟨rfl⟩; exact hgw))
      refine ⟨_, (up (or0_b103 A0 c0 l0 c1 lo g z i p ad k) [(81, .int .i64 (i : Int)), (82, .pointer (some (ad.add (i * 2)))), (83, .agg #[.int .i64 k, .bool sg]), (84, .tuple #[.int .i64 0, .bool false])]), rfl, by kernel_rfl, ?_⟩
      refine skp (.tuple #[.int .i64 0, .bool false]) ?_
      refine skp (.int .i64 0) ?_
      refine sk (a' := (up (or0_b104 A0 c0 l0 c1 lo g z i p ad k sg) [(86, .bool false)])) (.bool false) ?_
      refine skp (.int .i64 0) ?_
      refine sk (a' := (up (or0_b104 A0 c0 l0 c1 lo g z i p ad k sg) [(11, .int .i64 0), (12, .bool false), (86, .bool false)])) (.bool false) ?_
      refine wpList_nil ?_
      refine wp_seq ?_
      refine wp_region_list ?_
      refine skp (.int .i64 0) ?_
      refine skp (.int .i64 0) ?_
      refine sk (a' := (up (or0_b105 A0 c0 l0 c1 lo g z i p ad k sg) [])) (.bool false) ?_
      refine sk (a' := (up (or0_b105 A0 c0 l0 c1 lo g z i p ad k sg) [(90, .bool false)])) (.bool false) ?_
      refine sk (a' := (up (or0_b105 A0 c0 l0 c1 lo g z i p ad k sg) [(90, .bool false), (91, .bool false)])) (.bool false) ?_
      refine sk (a' := (up (or0_b105 A0 c0 l0 c1 lo g z i p ad k sg) [(90, .bool false), (91, .bool false), (92, .bool true)])) (.bool true) ?_
      refine skp (.bool false) ?_
      refine skp (.bool false) ?_
      refine sk (a' := (up (or0_b106 A0 c0 l0 c1 lo g z i p ad k sg) [])) (.bool false) ?_
      refine sk (a' := (up (or0_b106 A0 c0 l0 c1 lo g z i p ad k sg) [(96, .pointer (some ⟨g, 0, none⟩))])) (.pointer (some ⟨g, 0, none⟩)) ?_
      refine st_call (rd_At hR) (by kernel_rfl) (by kernel_rfl) ?_
      rintro _ W4 ⟨rfl, hB⟩
      have hW := hW.step hB
      have hR := hR.below hB
      refine ⟨_, (up (or0_b106 A0 c0 l0 c1 lo g z i p ad k sg) [(96, .pointer (some ⟨g, 0, none⟩)), (97, .int .i64 (p : Int))]), rfl, by kernel_rfl, ?_⟩
      refine sk (a' := (up (or0_b106 A0 c0 l0 c1 lo g z i p ad k sg) [(96, .pointer (some ⟨g, 0, none⟩)), (97, .int .i64 (p : Int)), (98, .int .i64 (p : Int))])) (.int .i64 (p : Int)) ?_
      refine sep (.bool false) (Eq.trans (b := .ok (.value (.bool (((p : Int) : Int) != (p : Int)))) W4) (by kernel_rfl) (st_ok (bne_eq_false_iff_eq.2 (by omega)))) ?_
      refine skp (.bool false) ?_
      refine sk (a' := (up (or0_b107 A0 c0 l0 c1 lo g z i p ad k sg) [])) (.bool false) ?_
      refine sk (a' := (up (or0_b107 A0 c0 l0 c1 lo g z i p ad k sg) [(102, .pointer (some ⟨g, 0, none⟩))])) (.pointer (some ⟨g, 0, none⟩)) ?_
      refine st_call (rd_Left hR) (by kernel_rfl) (by kernel_rfl) ?_
      rintro _ W5 ⟨rfl, hB⟩
      have hW := hW.step hB
      have hR := hR.below hB
      refine ⟨_, (up (or0_b107 A0 c0 l0 c1 lo g z i p ad k sg) [(102, .pointer (some ⟨g, 0, none⟩)), (103, .int .i64 ((l0.length : Int) - (p : Int)))]), rfl, by kernel_rfl, ?_⟩
      refine sk (a' := (up (or0_b107 A0 c0 l0 c1 lo g z i p ad k sg) [(102, .pointer (some ⟨g, 0, none⟩)), (103, .int .i64 ((l0.length : Int) - (p : Int))), (104, .slice A0 l0.length c0)])) (.slice A0 l0.length c0) ?_
      refine sk (a' := (up (or0_b107 A0 c0 l0 c1 lo g z i p ad k sg) [(102, .pointer (some ⟨g, 0, none⟩)), (103, .int .i64 ((l0.length : Int) - (p : Int))), (104, .slice A0 l0.length c0), (105, .int .i64 (l0.length : Int))])) (.int .i64 (l0.length : Int)) ?_
      refine sk (a' := (up (or0_b107 A0 c0 l0 c1 lo g z i p ad k sg) [(102, .pointer (some ⟨g, 0, none⟩)), (103, .int .i64 ((l0.length : Int) - (p : Int))), (104, .slice A0 l0.length c0), (105, .int .i64 (l0.length : Int)), (106, .int .i64 (p : Int))])) (.int .i64 (p : Int)) ?_
      refine se (a' := (up (or0_b108 A0 c0 l0 c1 lo g z i p ad k sg) [])) (.int .i64 ((l0.length : Int) - (p : Int))) (Eq.trans (b := .ok (.value (.int .i64 (IntKind.wrap .i64 ((l0.length : Int) - (p : Int))))) W5) (by kernel_rfl) (by rw [hwl])) ?_
      refine sep (.bool false) (Eq.trans (b := .ok (.value (.bool ((((l0.length : Int) - (p : Int)) : Int) != ((l0.length : Int) - (p : Int))))) W5) (by kernel_rfl) (st_ok (bne_eq_false_iff_eq.2 (by omega)))) ?_
      refine skp (.bool false) ?_
      refine sk (a' := (up (or0_b108 A0 c0 l0 c1 lo g z i p ad k sg) [(108, .bool false), (109, .bool false), (110, .bool false)])) (.bool false) ?_
      refine sk (a' := (up (or0_b108 A0 c0 l0 c1 lo g z i p ad k sg) [(108, .bool false), (109, .bool false), (110, .bool false), (111, .pointer (some ⟨g, 0, none⟩))])) (.pointer (some ⟨g, 0, none⟩)) ?_
      refine st_call (rd_Bad hR) (by kernel_rfl) (by kernel_rfl) ?_
      rintro _ W6 ⟨rfl, hB⟩
      have hW := hW.step hB
      have hR := hR.below hB
      refine ⟨_, (up (or0_b108 A0 c0 l0 c1 lo g z i p ad k sg) [(108, .bool false), (109, .bool false), (110, .bool false), (111, .pointer (some ⟨g, 0, none⟩)), (112, .bool true)]), rfl, by kernel_rfl, ?_⟩
      refine sk (a' := (up (or0_b109 A0 c0 l0 c1 lo g z i p ad k sg) [])) (.bool true) ?_
      refine skp (.bool false) ?_
      refine sk (a' := (up (or0_b109 A0 c0 l0 c1 lo g z i p ad k sg) [(114, .bool false), (115, .bool false)])) (.bool false) ?_
      refine wpList_nil ?_
      refine wp_cond (t := false) (by kernel_rfl) ?_
      refine wp_skip ?_
      refine wp_region_list ?_
      refine skp (.int .i64 (i : Int)) ?_
      refine sep (.int .i64 ((i + 1 : Nat) : Int)) (Eq.trans (b := .ok (.value (.int .i64 (IntKind.wrap .i64 ((i : Int) + 1)))) W6) (by kernel_rfl) (by rw [hwi])) ?_
      refine sk (a' := (up (or0_b109 A0 c0 l0 c1 lo g z i p ad k sg) [(8, .int .i64 ((i + 1 : Nat) : Int)), (30, .int .i64 (i : Int)), (31, .int .i64 ((i + 1 : Nat) : Int)), (114, .bool false), (115, .bool false)])) (.int .i64 ((i + 1 : Nat) : Int)) ?_
      refine wpList_nil ?_
      exact lp_next (lo.length - (i + 1)) (by omega) ⟨(fun mm => ((up (or0_b109 A0 c0 l0 c1 lo g z i p ad k sg) [(8, .int .i64 ((i + 1 : Nat) : Int)), (30, .int .i64 (i : Int)), (31, .int .i64 ((i + 1 : Nat) : Int)), (114, .bool false), (115, .bool false)])).tmps.getD mm undef), (i + 1), p, true, by kernel_rfl, hW, hR, (by omega), (by omega), rfl⟩
    · skip
      have hwi : IntKind.wrap .i64 ((i : Int) + 1) = ((i + 1 : Nat) : Int) := by rw [IntKind.wrap_i64]; omega
      have hwpk : IntKind.wrap .i64 ((p : Int) + k) = ((p + k.toNat : Nat) : Int) := by rw [IntKind.wrap_i64]; omega
      have hwm : IntKind.wrap .i64 ((l0.length : Int) - ((p + k.toNat : Nat) : Int)) = (l0.length : Int) - ((p + k.toNat : Nat) : Int) := by rw [IntKind.wrap_i64]; omega
      obtain ⟨A2, c2, hcut, hC2, hc2, hcl⟩ := cut_in hC hbc p k.toNat (by omega)
      have hdc : ∀ b ∈ oct_cut l0 p k.toNat, 0 ≤ b ∧ b < 256 := fun b hb => hdig b (List.mem_of_mem_drop (List.mem_of_mem_take hb))
      refine wp_region_list ?_
      refine skp (.int .i64 (i : Int)) ?_
      refine skp (.slice (some ad) lo.length c1) ?_
      refine sk (a' := (up (or0_b61 A0 c0 l0 c1 lo g z i p ad) [(23, .slice (some ad) lo.length c1), (24, .int .i64 (lo.length : Int))])) (.int .i64 (lo.length : Int)) ?_
      refine sep (.bool true) (Eq.trans (b := .ok (.value (.bool (decide (((i : Int) : Int) < (lo.length : Int))))) Wl) (by kernel_rfl) (st_ok (decide_eq_true (by omega)))) ?_
      refine sk (a' := (up (or0_b61 A0 c0 l0 c1 lo g z i p ad) [(23, .slice (some ad) lo.length c1), (24, .int .i64 (lo.length : Int)), (25, .bool true), (26, .bool true)])) (.bool true) ?_
      refine sk (a' := (up (or0_b61 A0 c0 l0 c1 lo g z i p ad) [(23, .slice (some ad) lo.length c1), (24, .int .i64 (lo.length : Int)), (25, .bool true), (26, .bool true), (27, .int .i64 (i : Int))])) (.int .i64 (i : Int)) ?_
      refine sep (.bool true) (Eq.trans (b := .ok (.value (.bool (decide (((i : Int) : Int) < 60)))) Wl) (by kernel_rfl) (st_ok (decide_eq_true (by omega)))) ?_
      refine sk (a' := (up (or0_b62 A0 c0 l0 c1 lo g z i p ad) [(29, .bool true)])) (.bool true) ?_
      refine wpList_nil ?_
      refine wp_cond (t := true) (by kernel_rfl) ?_
      refine wp_skip ?_
      refine wp_seq ?_
      refine wp_block ?_
      refine wp_seq ?_
      refine wp_region_list ?_
      refine skp (.slice (some ad) lo.length c1) ?_
      refine skp (.int .i64 (i : Int)) ?_
      refine se (a' := (up (or0_b62 A0 c0 l0 c1 lo g z i p ad) [(29, .bool true), (32, .slice (some ad) lo.length c1), (33, .int .i64 (i : Int)), (34, .pointer (some (ad.add (i * 2))))])) (.pointer (some (ad.add (i * 2)))) (Eq.trans (b := (do pure (Next.value (← Instr.indexAt 35 (.slice (some ad) lo.length c1) (.int .i64 (i : Int)))) : Sem Next).run Try.prog Wl) (by kernel_rfl) (st_val (idx_op hin Wl))) ?_
      refine skp (.pointer (some (ad.add (i * 2)))) ?_
      refine sep (.int .i64 k) (Eq.trans (b := (do pure (Next.value (← Instr.loadAt 3 (.pointer (some (ad.add (i * 2)))))) : Sem Next).run Try.prog Wl) (by kernel_rfl) (st_val (load_one Wl _ 3 _ _ ((hop.below hW.below).cell 0 _ rfl) Try.underlying3 rfl))) ?_
      refine sk (a' := (up (or0_b63 A0 c0 l0 c1 lo g z i p ad k) [(9, .int .i64 k)])) (.int .i64 k) ?_
      refine wpList_nil ?_
      refine wp_seq ?_
      refine wp_region_list ?_
      refine skp (.bool false) ?_
      refine sk (a' := (up (or0_b63 A0 c0 l0 c1 lo g z i p ad k) [(9, .int .i64 k), (37, .bool false), (38, .bool false)])) (.bool false) ?_
      refine sk (a' := (up (or0_b63 A0 c0 l0 c1 lo g z i p ad k) [(9, .int .i64 k), (37, .bool false), (38, .bool false), (39, .int .i64 k)])) (.int .i64 k) ?_
      refine sep (.bool false) (Eq.trans (b := .ok (.value (.bool (decide ((k : Int) < 1)))) Wl) (by kernel_rfl) (st_ok (decide_eq_false (by omega)))) ?_
      refine skp (.bool false) ?_
      refine sk (a' := (up (or0_b87 A0 c0 l0 c1 lo g z i p ad k) [(42, .bool false)])) (.bool false) ?_
      refine sk (a' := (up (or0_b87 A0 c0 l0 c1 lo g z i p ad k) [(42, .bool false), (43, .int .i64 k)])) (.int .i64 k) ?_
      refine sep (.bool false) (Eq.trans (b := .ok (.value (.bool (decide ((k : Int) > 8)))) Wl) (by kernel_rfl) (st_ok (decide_eq_false (by omega)))) ?_
      refine skp (.bool false) ?_
      refine sk (a' := (up (or0_b87 A0 c0 l0 c1 lo g z i p ad k) [(42, .bool false), (43, .int .i64 k), (44, .bool false), (45, .bool false), (46, .bool false)])) (.bool false) ?_
      refine sk (a' := (up (or0_b99 A0 c0 l0 c1 lo g z i p ad k) [])) (.int .i64 (p : Int)) ?_
      refine sk (a' := (up (or0_b99 A0 c0 l0 c1 lo g z i p ad k) [(48, .int .i64 k)])) (.int .i64 k) ?_
      refine se (a' := (up (or0_b99 A0 c0 l0 c1 lo g z i p ad k) [(48, .int .i64 k), (49, .int .i64 ((p + k.toNat : Nat) : Int))])) (.int .i64 ((p + k.toNat : Nat) : Int)) (Eq.trans (b := .ok (.value (.int .i64 (IntKind.wrap .i64 ((p : Int) + k)))) Wl) (by kernel_rfl) (by rw [hwpk])) ?_
      refine sk (a' := (up (or0_b99 A0 c0 l0 c1 lo g z i p ad k) [(48, .int .i64 k), (49, .int .i64 ((p + k.toNat : Nat) : Int)), (50, .slice A0 l0.length c0)])) (.slice A0 l0.length c0) ?_
      refine sk (a' := (up (or0_b99 A0 c0 l0 c1 lo g z i p ad k) [(48, .int .i64 k), (49, .int .i64 ((p + k.toNat : Nat) : Int)), (50, .slice A0 l0.length c0), (51, .int .i64 (l0.length : Int))])) (.int .i64 (l0.length : Int)) ?_
      refine sep (.bool false) (Eq.trans (b := .ok (.value (.bool (decide ((((p + k.toNat : Nat) : Int) : Int) > (l0.length : Int))))) Wl) (by kernel_rfl) (st_ok (decide_eq_false (by omega)))) ?_
      refine skp (.bool false) ?_
      refine sk (a' := (up (or0_b111 A0 c0 l0 c1 lo g z i p ad k) [])) (.bool false) ?_
      refine wpList_nil ?_
      refine wp_seq ?_
      refine wp_region_list ?_
      refine sk (a' := (up (or0_b111 A0 c0 l0 c1 lo g z i p ad k) [(10, .int .i64 0)])) (.int .i64 0) ?_
      refine wpList_nil ?_
      refine wp_seq ?_
      refine wp_seq ?_
      refine wp_region_list ?_
      refine skp (.bool false) ?_
      refine sk (a' := (up (or0_b111 A0 c0 l0 c1 lo g z i p ad k) [(10, .int .i64 0), (54, .bool false), (55, .bool true)])) (.bool true) ?_
      refine wpList_nil ?_
      refine wp_cond (t := true) (by kernel_rfl) ?_
      refine wp_seq ?_
      refine wp_region_list ?_
      refine skp (.slice A0 l0.length c0) ?_
      refine skp (.int .i64 (p : Int)) ?_
      refine sk (a' := (up (or0_b114 A0 c0 l0 c1 lo g z i p ad k) [])) (.int .i64 (p : Int)) ?_
      refine skp (.int .i64 k) ?_
      refine sep (.int .i64 ((p + k.toNat : Nat) : Int)) (Eq.trans (b := .ok (.value (.int .i64 (IntKind.wrap .i64 ((p : Int) + k)))) Wl) (by kernel_rfl) (by rw [hwpk])) ?_
      refine se (a' := (up (or0_b114 A0 c0 l0 c1 lo g z i p ad k) [(59, .int .i64 k), (60, .int .i64 ((p + k.toNat : Nat) : Int)), (61, .slice A2 ((oct_cut l0 p k.toNat).length) c2)])) (.slice A2 ((oct_cut l0 p k.toNat).length) c2) (Eq.trans (b := (do pure (Next.value (← Instr.sliceAt 32 (.slice A0 l0.length c0) (some (.int .i64 (p : Int))) (some (.int .i64 ((p + k.toNat : Nat) : Int))) none)) : Sem Next).run Try.prog Wl) (by kernel_rfl) (st_val (hcut Wl))) ?_
      refine st_call (warrenerref02_Take.calls 20 A2 c2 (oct_cut l0 p k.toNat) _ Wl (Kd.C_below hC2 hW.below) hc2 (ref_take _ hdc (by omega))) (by kernel_rfl) (by kernel_rfl) ?_
      rintro _ W3 ⟨rfl, hB0⟩
      have hB := hB0.below
      have hW := hW.step hB
      have hR := hR.below hB
      refine ⟨_, (up (or0_b114 A0 c0 l0 c1 lo g z i p ad k) [(59, .int .i64 k), (60, .int .i64 ((p + k.toNat : Nat) : Int)), (61, .slice A2 ((oct_cut l0 p k.toNat).length) c2), (62, .int .i64 (wrap64 (oct_take (oct_cut l0 p k.toNat))))]), rfl, by kernel_rfl, ?_⟩
      refine sk (a' := (up (or0_b114 A0 c0 l0 c1 lo g z i p ad k) [(10, .int .i64 (wrap64 (oct_take (oct_cut l0 p k.toNat)))), (59, .int .i64 k), (60, .int .i64 ((p + k.toNat : Nat) : Int)), (61, .slice A2 ((oct_cut l0 p k.toNat).length) c2), (62, .int .i64 (wrap64 (oct_take (oct_cut l0 p k.toNat))))])) (.int .i64 (wrap64 (oct_take (oct_cut l0 p k.toNat)))) ?_
      refine wpList_nil ?_
      refine wp_seq ?_
      refine wp_seq ?_
      refine wp_region_list ?_
      refine skp (.slice (some ad) lo.length c1) ?_
      refine skp (.int .i64 (i : Int)) ?_
      refine se (a' := (up (or0_b117 A0 c0 l0 c1 lo g z i p ad k A2 c2) [(64, .int .i64 (i : Int)), (65, .pointer (some (ad.add (i * 2))))])) (.pointer (some (ad.add (i * 2)))) (Eq.trans (b := (do pure (Next.value (← Instr.indexAt 35 (.slice (some ad) lo.length c1) (.int .i64 (i : Int)))) : Sem Next).run Try.prog W3) (by kernel_rfl) (st_val (idx_op hin W3))) ?_
      refine skp (.pointer (some ((ad.add (i * 2)).add 1))) ?_
      refine se (a' := (up (or0_b117 A0 c0 l0 c1 lo g z i p ad k A2 c2) [(64, .int .i64 (i : Int)), (65, .pointer (some (ad.add (i * 2)))), (66, .pointer (some ((ad.add (i * 2)).add 1))), (67, .bool true)])) (.bool true) (Eq.trans (b := (do pure (Next.value (← Instr.loadAt 4 (.pointer (some ((ad.add (i * 2)).add 1))))) : Sem Next).run Try.prog W3) (by kernel_rfl) (st_val (load_one W3 _ 4 _ _ ((hop.below hW.below).cell 1 _ rfl) Try.underlying4 rfl))) ?_
      refine wpList_nil ?_
      refine wp_cond (t := true) (by kernel_rfl) ?_
      refine wp_region_list ?_
      refine skp (.slice A0 l0.length c0) ?_
      refine skp (.int .i64 (p : Int)) ?_
      refine sk (a' := (up (or0_b119 A0 c0 l0 c1 lo g z i p ad k A2 c2) [(70, .int .i64 (p : Int))])) (.int .i64 (p : Int)) ?_
      refine skp (.int .i64 k) ?_
      refine sep (.int .i64 ((p + k.toNat : Nat) : Int)) (Eq.trans (b := .ok (.value (.int .i64 (IntKind.wrap .i64 ((p : Int) + k)))) W3) (by kernel_rfl) (by rw [hwpk])) ?_
      refine se (a' := (up (or0_b119 A0 c0 l0 c1 lo g z i p ad k A2 c2) [(70, .int .i64 (p : Int)), (71, .int .i64 k), (72, .int .i64 ((p + k.toNat : Nat) : Int)), (73, .slice A2 ((oct_cut l0 p k.toNat).length) c2)])) (.slice A2 ((oct_cut l0 p k.toNat).length) c2) (Eq.trans (b := (do pure (Next.value (← Instr.sliceAt 32 (.slice A0 l0.length c0) (some (.int .i64 (p : Int))) (some (.int .i64 ((p + k.toNat : Nat) : Int))) none)) : Sem Next).run Try.prog W3) (by kernel_rfl) (st_val (hcut W3))) ?_
      refine st_call (warrenerref02_Signed.calls 20 A2 c2 (oct_cut l0 p k.toNat) (oct_signed (wrap64 (oct_take (oct_cut l0 p k.toNat))) k) W3 (Kd.C_below hC2 hW.below) hc2 (by rw [ref_signed _ hdc (by omega) (by omega), hcl, show ((k.toNat : Nat) : Int) = k by omega])) (by kernel_rfl) (by kernel_rfl) ?_
      rintro _ W4 ⟨rfl, hB0⟩
      have hB := hB0.below
      have hW := hW.step hB
      have hR := hR.below hB
      refine ⟨_, (up (or0_b119 A0 c0 l0 c1 lo g z i p ad k A2 c2) [(70, .int .i64 (p : Int)), (71, .int .i64 k), (72, .int .i64 ((p + k.toNat : Nat) : Int)), (73, .slice A2 ((oct_cut l0 p k.toNat).length) c2), (74, .int .i64 (oct_signed (wrap64 (oct_take (oct_cut l0 p k.toNat))) k))]), rfl, by kernel_rfl, ?_⟩
      refine sk (a' := (up (or0_b122 A0 c0 l0 c1 lo g z i p ad k A2 c2) [])) (.int .i64 (oct_signed (wrap64 (oct_take (oct_cut l0 p k.toNat))) k)) ?_
      refine wpList_nil ?_
      refine wp_region_list ?_
      refine skp (.int .i64 (p : Int)) ?_
      refine skp (.int .i64 k) ?_
      refine se (a' := (up (or0_b122 A0 c0 l0 c1 lo g z i p ad k A2 c2) [(75, .int .i64 (p : Int)), (76, .int .i64 k), (77, .int .i64 ((p + k.toNat : Nat) : Int))])) (.int .i64 ((p + k.toNat : Nat) : Int)) (Eq.trans (b := .ok (.value (.int .i64 (IntKind.wrap .i64 ((p : Int) + k)))) W4) (by kernel_rfl) (by rw [hwpk])) ?_
      refine sk (a' := (up (or0_b122 A0 c0 l0 c1 lo g z i p ad k A2 c2) [(6, .int .i64 ((p + k.toNat : Nat) : Int)), (75, .int .i64 (p : Int)), (76, .int .i64 k), (77, .int .i64 ((p + k.toNat : Nat) : Int))])) (.int .i64 ((p + k.toNat : Nat) : Int)) ?_
      refine wpList_nil ?_
      refine wp_seq ?_
      refine wp_region_list ?_
      refine skp (.pointer (some ⟨g, 0, none⟩)) ?_
      refine skp (.slice (some ad) lo.length c1) ?_
      refine sk (a' := (up (or0_b125 A0 c0 l0 c1 lo g z i p ad k A2 c2) [(81, .int .i64 (i : Int))])) (.int .i64 (i : Int)) ?_
      refine sep (.pointer (some (ad.add (i * 2)))) (Eq.trans (b := (do pure (Next.value (← Instr.indexAt 35 (.slice (some ad) lo.length c1) (.int .i64 (i : Int)))) : Sem Next).run Try.prog W4) (by kernel_rfl) (st_val (idx_op hin W4))) ?_
      refine se (a' := (up (or0_b125 A0 c0 l0 c1 lo g z i p ad k A2 c2) [(81, .int .i64 (i : Int)), (82, .pointer (some (ad.add (i * 2)))), (83, .agg #[.int .i64 k, .bool true])])) (.agg #[.int .i64 k, .bool true]) (Eq.trans (b := (do pure (Next.value (← Instr.loadAt 39 (.pointer (some (ad.add (i * 2)))))) : Sem Next).run Try.prog W4) (by kernel_rfl) (st_val (load_row W4 _ 39 _ _ (hop.below hW.below).cell Try.underlying39 rfl (by kernel_rfl)))) ?_
      refine st_call (cl_ok_s (bad := false) hR k ⟨by omega, by omega, by omega⟩) (by kernel_rfl) (by kernel_rfl) ?_
      rintro _ W5 ⟨rfl, hR, wa, hba, hG⟩
      have hW := Ws.ofBelow (pw_below_grown (below_step hW.below hba) _ (below_step hW.below hba).size hG (by rintro k ⟨rfl⟩; exact hgw))
      refine ⟨_, (up (or0_b125 A0 c0 l0 c1 lo g z i p ad k A2 c2) [(81, .int .i64 (i : Int)), (82, .pointer (some (ad.add (i * 2)))), (83, .agg #[.int .i64 k, .bool true]), (84, .tuple #[.int .i64 (oct_signed (wrap64 (oct_take (oct_cut l0 p k.toNat))) k), .bool true])]), rfl, by kernel_rfl, ?_⟩
      refine skp (.tuple #[.int .i64 (oct_signed (wrap64 (oct_take (oct_cut l0 p k.toNat))) k), .bool true]) ?_
      refine skp (.int .i64 (oct_signed (wrap64 (oct_take (oct_cut l0 p k.toNat))) k)) ?_
      refine sk (a' := (up (or0_b128 A0 c0 l0 c1 lo g z i p ad k A2 c2) [(86, .bool true)])) (.bool true) ?_
      refine skp (.int .i64 (oct_signed (wrap64 (oct_take (oct_cut l0 p k.toNat))) k)) ?_
      refine sk (a' := (up (or0_b128 A0 c0 l0 c1 lo g z i p ad k A2 c2) [(11, .int .i64 (oct_signed (wrap64 (oct_take (oct_cut l0 p k.toNat))) k)), (12, .bool true), (86, .bool true)])) (.bool true) ?_
      refine wpList_nil ?_
      refine wp_seq ?_
      refine wp_region_list ?_
      refine skp (.int .i64 (oct_signed (wrap64 (oct_take (oct_cut l0 p k.toNat))) k)) ?_
      refine skp (.int .i64 (oct_signed (wrap64 (oct_take (oct_cut l0 p k.toNat))) k)) ?_
      refine se (a' := (up (or0_b131 A0 c0 l0 c1 lo g z i p ad k A2 c2) [])) (.bool false) (Eq.trans (b := .ok (.value (.bool (((oct_signed (wrap64 (oct_take (oct_cut l0 p k.toNat))) k) : Int) != (oct_signed (wrap64 (oct_take (oct_cut l0 p k.toNat))) k)))) W5) (by kernel_rfl) (st_ok (bne_eq_false_iff_eq.2 (by omega)))) ?_
      refine sk (a' := (up (or0_b131 A0 c0 l0 c1 lo g z i p ad k A2 c2) [(90, .bool false)])) (.bool false) ?_
      refine sk (a' := (up (or0_b131 A0 c0 l0 c1 lo g z i p ad k A2 c2) [(90, .bool false), (91, .bool true)])) (.bool true) ?_
      refine sk (a' := (up (or0_b131 A0 c0 l0 c1 lo g z i p ad k A2 c2) [(90, .bool false), (91, .bool true), (92, .bool false)])) (.bool false) ?_
      refine skp (.bool false) ?_
      refine skp (.bool false) ?_
      refine sk (a' := (up (or0_b133 A0 c0 l0 c1 lo g z i p ad k A2 c2) [])) (.bool false) ?_
      refine sk (a' := (up (or0_b133 A0 c0 l0 c1 lo g z i p ad k A2 c2) [(96, .pointer (some ⟨g, 0, none⟩))])) (.pointer (some ⟨g, 0, none⟩)) ?_
      refine st_call (rd_At hR) (by kernel_rfl) (by kernel_rfl) ?_
      rintro _ W6 ⟨rfl, hB⟩
      have hW := hW.step hB
      have hR := hR.below hB
      refine ⟨_, (up (or0_b133 A0 c0 l0 c1 lo g z i p ad k A2 c2) [(96, .pointer (some ⟨g, 0, none⟩)), (97, .int .i64 ((p + k.toNat : Nat) : Int))]), rfl, by kernel_rfl, ?_⟩
      refine sk (a' := (up (or0_b133 A0 c0 l0 c1 lo g z i p ad k A2 c2) [(96, .pointer (some ⟨g, 0, none⟩)), (97, .int .i64 ((p + k.toNat : Nat) : Int)), (98, .int .i64 ((p + k.toNat : Nat) : Int))])) (.int .i64 ((p + k.toNat : Nat) : Int)) ?_
      refine sep (.bool false) (Eq.trans (b := .ok (.value (.bool ((((p + k.toNat : Nat) : Int) : Int) != ((p + k.toNat : Nat) : Int)))) W6) (by kernel_rfl) (st_ok (bne_eq_false_iff_eq.2 (by omega)))) ?_
      refine skp (.bool false) ?_
      refine sk (a' := (up (or0_b135 A0 c0 l0 c1 lo g z i p ad k A2 c2) [])) (.bool false) ?_
      refine sk (a' := (up (or0_b135 A0 c0 l0 c1 lo g z i p ad k A2 c2) [(102, .pointer (some ⟨g, 0, none⟩))])) (.pointer (some ⟨g, 0, none⟩)) ?_
      refine st_call (rd_Left hR) (by kernel_rfl) (by kernel_rfl) ?_
      rintro _ W7 ⟨rfl, hB⟩
      have hW := hW.step hB
      have hR := hR.below hB
      refine ⟨_, (up (or0_b135 A0 c0 l0 c1 lo g z i p ad k A2 c2) [(102, .pointer (some ⟨g, 0, none⟩)), (103, .int .i64 ((l0.length : Int) - ((p + k.toNat : Nat) : Int)))]), rfl, by kernel_rfl, ?_⟩
      refine sk (a' := (up (or0_b135 A0 c0 l0 c1 lo g z i p ad k A2 c2) [(102, .pointer (some ⟨g, 0, none⟩)), (103, .int .i64 ((l0.length : Int) - ((p + k.toNat : Nat) : Int))), (104, .slice A0 l0.length c0)])) (.slice A0 l0.length c0) ?_
      refine sk (a' := (up (or0_b135 A0 c0 l0 c1 lo g z i p ad k A2 c2) [(102, .pointer (some ⟨g, 0, none⟩)), (103, .int .i64 ((l0.length : Int) - ((p + k.toNat : Nat) : Int))), (104, .slice A0 l0.length c0), (105, .int .i64 (l0.length : Int))])) (.int .i64 (l0.length : Int)) ?_
      refine sk (a' := (up (or0_b135 A0 c0 l0 c1 lo g z i p ad k A2 c2) [(102, .pointer (some ⟨g, 0, none⟩)), (103, .int .i64 ((l0.length : Int) - ((p + k.toNat : Nat) : Int))), (104, .slice A0 l0.length c0), (105, .int .i64 (l0.length : Int)), (106, .int .i64 ((p + k.toNat : Nat) : Int))])) (.int .i64 ((p + k.toNat : Nat) : Int)) ?_
      refine se (a' := (up (or0_b137 A0 c0 l0 c1 lo g z i p ad k A2 c2) [])) (.int .i64 ((l0.length : Int) - ((p + k.toNat : Nat) : Int))) (Eq.trans (b := .ok (.value (.int .i64 (IntKind.wrap .i64 ((l0.length : Int) - ((p + k.toNat : Nat) : Int))))) W7) (by kernel_rfl) (by rw [hwm])) ?_
      refine sep (.bool false) (Eq.trans (b := .ok (.value (.bool ((((l0.length : Int) - ((p + k.toNat : Nat) : Int)) : Int) != ((l0.length : Int) - ((p + k.toNat : Nat) : Int))))) W7) (by kernel_rfl) (st_ok (bne_eq_false_iff_eq.2 (by omega)))) ?_
      refine skp (.bool false) ?_
      refine sk (a' := (up (or0_b137 A0 c0 l0 c1 lo g z i p ad k A2 c2) [(108, .bool false), (109, .bool false), (110, .bool false)])) (.bool false) ?_
      refine sk (a' := (up (or0_b137 A0 c0 l0 c1 lo g z i p ad k A2 c2) [(108, .bool false), (109, .bool false), (110, .bool false), (111, .pointer (some ⟨g, 0, none⟩))])) (.pointer (some ⟨g, 0, none⟩)) ?_
      refine st_call (rd_Bad hR) (by kernel_rfl) (by kernel_rfl) ?_
      rintro _ W8 ⟨rfl, hB⟩
      have hW := hW.step hB
      have hR := hR.below hB
      refine ⟨_, (up (or0_b137 A0 c0 l0 c1 lo g z i p ad k A2 c2) [(108, .bool false), (109, .bool false), (110, .bool false), (111, .pointer (some ⟨g, 0, none⟩)), (112, .bool false)]), rfl, by kernel_rfl, ?_⟩
      refine sk (a' := (up (or0_b140 A0 c0 l0 c1 lo g z i p ad k A2 c2) [])) (.bool false) ?_
      refine skp (.bool false) ?_
      refine sk (a' := (up (or0_b140 A0 c0 l0 c1 lo g z i p ad k A2 c2) [(114, .bool false), (115, .bool false)])) (.bool false) ?_
      refine wpList_nil ?_
      refine wp_cond (t := false) (by kernel_rfl) ?_
      refine wp_skip ?_
      refine wp_region_list ?_
      refine skp (.int .i64 (i : Int)) ?_
      refine sep (.int .i64 ((i + 1 : Nat) : Int)) (Eq.trans (b := .ok (.value (.int .i64 (IntKind.wrap .i64 ((i : Int) + 1)))) W8) (by kernel_rfl) (by rw [hwi])) ?_
      refine sk (a' := (up (or0_b140 A0 c0 l0 c1 lo g z i p ad k A2 c2) [(8, .int .i64 ((i + 1 : Nat) : Int)), (30, .int .i64 (i : Int)), (31, .int .i64 ((i + 1 : Nat) : Int)), (114, .bool false), (115, .bool false)])) (.int .i64 ((i + 1 : Nat) : Int)) ?_
      refine wpList_nil ?_
      exact lp_next (lo.length - (i + 1)) (by omega) ⟨(fun mm => ((up (or0_b140 A0 c0 l0 c1 lo g z i p ad k A2 c2) [(8, .int .i64 ((i + 1 : Nat) : Int)), (30, .int .i64 (i : Int)), (31, .int .i64 ((i + 1 : Nat) : Int)), (114, .bool false), (115, .bool false)])).tmps.getD mm undef), (i + 1), (p + k.toNat), false, by kernel_rfl, hW, hR, (by omega), (by omega), rfl⟩
    · skip
      have hwi : IntKind.wrap .i64 ((i : Int) + 1) = ((i + 1 : Nat) : Int) := by rw [IntKind.wrap_i64]; omega
      have hwpk : IntKind.wrap .i64 ((p : Int) + k) = ((p + k.toNat : Nat) : Int) := by rw [IntKind.wrap_i64]; omega
      have hwm : IntKind.wrap .i64 ((l0.length : Int) - ((p + k.toNat : Nat) : Int)) = (l0.length : Int) - ((p + k.toNat : Nat) : Int) := by rw [IntKind.wrap_i64]; omega
      obtain ⟨A2, c2, hcut, hC2, hc2, hcl⟩ := cut_in hC hbc p k.toNat (by omega)
      have hdc : ∀ b ∈ oct_cut l0 p k.toNat, 0 ≤ b ∧ b < 256 := fun b hb => hdig b (List.mem_of_mem_drop (List.mem_of_mem_take hb))
      refine wp_region_list ?_
      refine skp (.int .i64 (i : Int)) ?_
      refine skp (.slice (some ad) lo.length c1) ?_
      refine sk (a' := (up (or0_b61 A0 c0 l0 c1 lo g z i p ad) [(23, .slice (some ad) lo.length c1), (24, .int .i64 (lo.length : Int))])) (.int .i64 (lo.length : Int)) ?_
      refine sep (.bool true) (Eq.trans (b := .ok (.value (.bool (decide (((i : Int) : Int) < (lo.length : Int))))) Wl) (by kernel_rfl) (st_ok (decide_eq_true (by omega)))) ?_
      refine sk (a' := (up (or0_b61 A0 c0 l0 c1 lo g z i p ad) [(23, .slice (some ad) lo.length c1), (24, .int .i64 (lo.length : Int)), (25, .bool true), (26, .bool true)])) (.bool true) ?_
      refine sk (a' := (up (or0_b61 A0 c0 l0 c1 lo g z i p ad) [(23, .slice (some ad) lo.length c1), (24, .int .i64 (lo.length : Int)), (25, .bool true), (26, .bool true), (27, .int .i64 (i : Int))])) (.int .i64 (i : Int)) ?_
      refine sep (.bool true) (Eq.trans (b := .ok (.value (.bool (decide (((i : Int) : Int) < 60)))) Wl) (by kernel_rfl) (st_ok (decide_eq_true (by omega)))) ?_
      refine sk (a' := (up (or0_b62 A0 c0 l0 c1 lo g z i p ad) [(29, .bool true)])) (.bool true) ?_
      refine wpList_nil ?_
      refine wp_cond (t := true) (by kernel_rfl) ?_
      refine wp_skip ?_
      refine wp_seq ?_
      refine wp_block ?_
      refine wp_seq ?_
      refine wp_region_list ?_
      refine skp (.slice (some ad) lo.length c1) ?_
      refine skp (.int .i64 (i : Int)) ?_
      refine se (a' := (up (or0_b62 A0 c0 l0 c1 lo g z i p ad) [(29, .bool true), (32, .slice (some ad) lo.length c1), (33, .int .i64 (i : Int)), (34, .pointer (some (ad.add (i * 2))))])) (.pointer (some (ad.add (i * 2)))) (Eq.trans (b := (do pure (Next.value (← Instr.indexAt 35 (.slice (some ad) lo.length c1) (.int .i64 (i : Int)))) : Sem Next).run Try.prog Wl) (by kernel_rfl) (st_val (idx_op hin Wl))) ?_
      refine skp (.pointer (some (ad.add (i * 2)))) ?_
      refine sep (.int .i64 k) (Eq.trans (b := (do pure (Next.value (← Instr.loadAt 3 (.pointer (some (ad.add (i * 2)))))) : Sem Next).run Try.prog Wl) (by kernel_rfl) (st_val (load_one Wl _ 3 _ _ ((hop.below hW.below).cell 0 _ rfl) Try.underlying3 rfl))) ?_
      refine sk (a' := (up (or0_b63 A0 c0 l0 c1 lo g z i p ad k) [(9, .int .i64 k)])) (.int .i64 k) ?_
      refine wpList_nil ?_
      refine wp_seq ?_
      refine wp_region_list ?_
      refine skp (.bool false) ?_
      refine sk (a' := (up (or0_b63 A0 c0 l0 c1 lo g z i p ad k) [(9, .int .i64 k), (37, .bool false), (38, .bool false)])) (.bool false) ?_
      refine sk (a' := (up (or0_b63 A0 c0 l0 c1 lo g z i p ad k) [(9, .int .i64 k), (37, .bool false), (38, .bool false), (39, .int .i64 k)])) (.int .i64 k) ?_
      refine sep (.bool false) (Eq.trans (b := .ok (.value (.bool (decide ((k : Int) < 1)))) Wl) (by kernel_rfl) (st_ok (decide_eq_false (by omega)))) ?_
      refine skp (.bool false) ?_
      refine sk (a' := (up (or0_b87 A0 c0 l0 c1 lo g z i p ad k) [(42, .bool false)])) (.bool false) ?_
      refine sk (a' := (up (or0_b87 A0 c0 l0 c1 lo g z i p ad k) [(42, .bool false), (43, .int .i64 k)])) (.int .i64 k) ?_
      refine sep (.bool false) (Eq.trans (b := .ok (.value (.bool (decide ((k : Int) > 8)))) Wl) (by kernel_rfl) (st_ok (decide_eq_false (by omega)))) ?_
      refine skp (.bool false) ?_
      refine sk (a' := (up (or0_b87 A0 c0 l0 c1 lo g z i p ad k) [(42, .bool false), (43, .int .i64 k), (44, .bool false), (45, .bool false), (46, .bool false)])) (.bool false) ?_
      refine sk (a' := (up (or0_b99 A0 c0 l0 c1 lo g z i p ad k) [])) (.int .i64 (p : Int)) ?_
      refine sk (a' := (up (or0_b99 A0 c0 l0 c1 lo g z i p ad k) [(48, .int .i64 k)])) (.int .i64 k) ?_
      refine se (a' := (up (or0_b99 A0 c0 l0 c1 lo g z i p ad k) [(48, .int .i64 k), (49, .int .i64 ((p + k.toNat : Nat) : Int))])) (.int .i64 ((p + k.toNat : Nat) : Int)) (Eq.trans (b := .ok (.value (.int .i64 (IntKind.wrap .i64 ((p : Int) + k)))) Wl) (by kernel_rfl) (by rw [hwpk])) ?_
      refine sk (a' := (up (or0_b99 A0 c0 l0 c1 lo g z i p ad k) [(48, .int .i64 k), (49, .int .i64 ((p + k.toNat : Nat) : Int)), (50, .slice A0 l0.length c0)])) (.slice A0 l0.length c0) ?_
      refine sk (a' := (up (or0_b99 A0 c0 l0 c1 lo g z i p ad k) [(48, .int .i64 k), (49, .int .i64 ((p + k.toNat : Nat) : Int)), (50, .slice A0 l0.length c0), (51, .int .i64 (l0.length : Int))])) (.int .i64 (l0.length : Int)) ?_
      refine sep (.bool false) (Eq.trans (b := .ok (.value (.bool (decide ((((p + k.toNat : Nat) : Int) : Int) > (l0.length : Int))))) Wl) (by kernel_rfl) (st_ok (decide_eq_false (by omega)))) ?_
      refine skp (.bool false) ?_
      refine sk (a' := (up (or0_b111 A0 c0 l0 c1 lo g z i p ad k) [])) (.bool false) ?_
      refine wpList_nil ?_
      refine wp_seq ?_
      refine wp_region_list ?_
      refine sk (a' := (up (or0_b111 A0 c0 l0 c1 lo g z i p ad k) [(10, .int .i64 0)])) (.int .i64 0) ?_
      refine wpList_nil ?_
      refine wp_seq ?_
      refine wp_seq ?_
      refine wp_region_list ?_
      refine skp (.bool false) ?_
      refine sk (a' := (up (or0_b111 A0 c0 l0 c1 lo g z i p ad k) [(10, .int .i64 0), (54, .bool false), (55, .bool true)])) (.bool true) ?_
      refine wpList_nil ?_
      refine wp_cond (t := true) (by kernel_rfl) ?_
      refine wp_seq ?_
      refine wp_region_list ?_
      refine skp (.slice A0 l0.length c0) ?_
      refine skp (.int .i64 (p : Int)) ?_
      refine sk (a' := (up (or0_b114 A0 c0 l0 c1 lo g z i p ad k) [])) (.int .i64 (p : Int)) ?_
      refine skp (.int .i64 k) ?_
      refine sep (.int .i64 ((p + k.toNat : Nat) : Int)) (Eq.trans (b := .ok (.value (.int .i64 (IntKind.wrap .i64 ((p : Int) + k)))) Wl) (by kernel_rfl) (by rw [hwpk])) ?_
      refine se (a' := (up (or0_b114 A0 c0 l0 c1 lo g z i p ad k) [(59, .int .i64 k), (60, .int .i64 ((p + k.toNat : Nat) : Int)), (61, .slice A2 ((oct_cut l0 p k.toNat).length) c2)])) (.slice A2 ((oct_cut l0 p k.toNat).length) c2) (Eq.trans (b := (do pure (Next.value (← Instr.sliceAt 32 (.slice A0 l0.length c0) (some (.int .i64 (p : Int))) (some (.int .i64 ((p + k.toNat : Nat) : Int))) none)) : Sem Next).run Try.prog Wl) (by kernel_rfl) (st_val (hcut Wl))) ?_
      refine st_call (warrenerref02_Take.calls 20 A2 c2 (oct_cut l0 p k.toNat) _ Wl (Kd.C_below hC2 hW.below) hc2 (ref_take _ hdc (by omega))) (by kernel_rfl) (by kernel_rfl) ?_
      rintro _ W3 ⟨rfl, hB0⟩
      have hB := hB0.below
      have hW := hW.step hB
      have hR := hR.below hB
      refine ⟨_, (up (or0_b114 A0 c0 l0 c1 lo g z i p ad k) [(59, .int .i64 k), (60, .int .i64 ((p + k.toNat : Nat) : Int)), (61, .slice A2 ((oct_cut l0 p k.toNat).length) c2), (62, .int .i64 (wrap64 (oct_take (oct_cut l0 p k.toNat))))]), rfl, by kernel_rfl, ?_⟩
      refine sk (a' := (up (or0_b114 A0 c0 l0 c1 lo g z i p ad k) [(10, .int .i64 (wrap64 (oct_take (oct_cut l0 p k.toNat)))), (59, .int .i64 k), (60, .int .i64 ((p + k.toNat : Nat) : Int)), (61, .slice A2 ((oct_cut l0 p k.toNat).length) c2), (62, .int .i64 (wrap64 (oct_take (oct_cut l0 p k.toNat))))])) (.int .i64 (wrap64 (oct_take (oct_cut l0 p k.toNat)))) ?_
      refine wpList_nil ?_
      refine wp_seq ?_
      refine wp_seq ?_
      refine wp_region_list ?_
      refine skp (.slice (some ad) lo.length c1) ?_
      refine skp (.int .i64 (i : Int)) ?_
      refine se (a' := (up (or0_b117 A0 c0 l0 c1 lo g z i p ad k A2 c2) [(64, .int .i64 (i : Int)), (65, .pointer (some (ad.add (i * 2))))])) (.pointer (some (ad.add (i * 2)))) (Eq.trans (b := (do pure (Next.value (← Instr.indexAt 35 (.slice (some ad) lo.length c1) (.int .i64 (i : Int)))) : Sem Next).run Try.prog W3) (by kernel_rfl) (st_val (idx_op hin W3))) ?_
      refine skp (.pointer (some ((ad.add (i * 2)).add 1))) ?_
      refine se (a' := (up (or0_b117 A0 c0 l0 c1 lo g z i p ad k A2 c2) [(64, .int .i64 (i : Int)), (65, .pointer (some (ad.add (i * 2)))), (66, .pointer (some ((ad.add (i * 2)).add 1))), (67, .bool false)])) (.bool false) (Eq.trans (b := (do pure (Next.value (← Instr.loadAt 4 (.pointer (some ((ad.add (i * 2)).add 1))))) : Sem Next).run Try.prog W3) (by kernel_rfl) (st_val (load_one W3 _ 4 _ _ ((hop.below hW.below).cell 1 _ rfl) Try.underlying4 rfl))) ?_
      refine wpList_nil ?_
      refine wp_cond (t := false) (by kernel_rfl) ?_
      refine wp_skip ?_
      refine wp_region_list ?_
      refine skp (.int .i64 (p : Int)) ?_
      refine skp (.int .i64 k) ?_
      refine se (a' := (up (or0_b142 A0 c0 l0 c1 lo g z i p ad k A2 c2) [(77, .int .i64 ((p + k.toNat : Nat) : Int))])) (.int .i64 ((p + k.toNat : Nat) : Int)) (Eq.trans (b := .ok (.value (.int .i64 (IntKind.wrap .i64 ((p : Int) + k)))) W3) (by kernel_rfl) (by rw [hwpk])) ?_
      refine sk (a' := (up (or0_b142 A0 c0 l0 c1 lo g z i p ad k A2 c2) [(6, .int .i64 ((p + k.toNat : Nat) : Int)), (77, .int .i64 ((p + k.toNat : Nat) : Int))])) (.int .i64 ((p + k.toNat : Nat) : Int)) ?_
      refine wpList_nil ?_
      refine wp_seq ?_
      refine wp_region_list ?_
      refine skp (.pointer (some ⟨g, 0, none⟩)) ?_
      refine skp (.slice (some ad) lo.length c1) ?_
      refine sk (a' := (up (or0_b142 A0 c0 l0 c1 lo g z i p ad k A2 c2) [(6, .int .i64 ((p + k.toNat : Nat) : Int)), (77, .int .i64 ((p + k.toNat : Nat) : Int)), (79, .pointer (some ⟨g, 0, none⟩)), (80, .slice (some ad) lo.length c1), (81, .int .i64 (i : Int))])) (.int .i64 (i : Int)) ?_
      refine sep (.pointer (some (ad.add (i * 2)))) (Eq.trans (b := (do pure (Next.value (← Instr.indexAt 35 (.slice (some ad) lo.length c1) (.int .i64 (i : Int)))) : Sem Next).run Try.prog W3) (by kernel_rfl) (st_val (idx_op hin W3))) ?_
      refine se (a' := (up (or0_b146 A0 c0 l0 c1 lo g z i p ad k A2 c2) [(83, .agg #[.int .i64 k, .bool false])])) (.agg #[.int .i64 k, .bool false]) (Eq.trans (b := (do pure (Next.value (← Instr.loadAt 39 (.pointer (some (ad.add (i * 2)))))) : Sem Next).run Try.prog W3) (by kernel_rfl) (st_val (load_row W3 _ 39 _ _ (hop.below hW.below).cell Try.underlying39 rfl (by kernel_rfl)))) ?_
      refine st_call (cl_ok_n (bad := false) hR k ⟨by omega, by omega, by omega⟩) (by kernel_rfl) (by kernel_rfl) ?_
      rintro _ W4 ⟨rfl, hR, wa, hba, hG⟩
      have hW := Ws.ofBelow (pw_below_grown (below_step hW.below hba) _ (below_step hW.below hba).size hG (by rintro k ⟨rfl⟩; exact hgw))
      refine ⟨_, (up (or0_b146 A0 c0 l0 c1 lo g z i p ad k A2 c2) [(83, .agg #[.int .i64 k, .bool false]), (84, .tuple #[.int .i64 (wrap64 (oct_take (oct_cut l0 p k.toNat))), .bool true])]), rfl, by kernel_rfl, ?_⟩
      refine skp (.tuple #[.int .i64 (wrap64 (oct_take (oct_cut l0 p k.toNat))), .bool true]) ?_
      refine skp (.int .i64 (wrap64 (oct_take (oct_cut l0 p k.toNat)))) ?_
      refine sk (a' := (up (or0_b146 A0 c0 l0 c1 lo g z i p ad k A2 c2) [(78, .tuple #[.int .i64 (wrap64 (oct_take (oct_cut l0 p k.toNat))), .bool true]), (83, .agg #[.int .i64 k, .bool false]), (84, .tuple #[.int .i64 (wrap64 (oct_take (oct_cut l0 p k.toNat))), .bool true]), (85, .int .i64 (wrap64 (oct_take (oct_cut l0 p k.toNat)))), (86, .bool true)])) (.bool true) ?_
      refine skp (.int .i64 (wrap64 (oct_take (oct_cut l0 p k.toNat)))) ?_
      refine sk (a' := (up (or0_b150 A0 c0 l0 c1 lo g z i p ad k A2 c2) [(12, .bool true)])) (.bool true) ?_
      refine wpList_nil ?_
      refine wp_seq ?_
      refine wp_region_list ?_
      refine skp (.int .i64 (wrap64 (oct_take (oct_cut l0 p k.toNat)))) ?_
      refine skp (.int .i64 (wrap64 (oct_take (oct_cut l0 p k.toNat)))) ?_
      refine se (a' := (up (or0_b150 A0 c0 l0 c1 lo g z i p ad k A2 c2) [(12, .bool true), (87, .int .i64 (wrap64 (oct_take (oct_cut l0 p k.toNat)))), (88, .int .i64 (wrap64 (oct_take (oct_cut l0 p k.toNat)))), (89, .bool false)])) (.bool false) (Eq.trans (b := .ok (.value (.bool (((wrap64 (oct_take (oct_cut l0 p k.toNat))) : Int) != (wrap64 (oct_take (oct_cut l0 p k.toNat)))))) W4) (by kernel_rfl) (st_ok (bne_eq_false_iff_eq.2 (by omega)))) ?_
      refine sk (a' := (up (or0_b150 A0 c0 l0 c1 lo g z i p ad k A2 c2) [(12, .bool true), (87, .int .i64 (wrap64 (oct_take (oct_cut l0 p k.toNat)))), (88, .int .i64 (wrap64 (oct_take (oct_cut l0 p k.toNat)))), (89, .bool false), (90, .bool false)])) (.bool false) ?_
      refine sk (a' := (up (or0_b153 A0 c0 l0 c1 lo g z i p ad k A2 c2) [])) (.bool true) ?_
      refine sk (a' := (up (or0_b153 A0 c0 l0 c1 lo g z i p ad k A2 c2) [(92, .bool false)])) (.bool false) ?_
      refine skp (.bool false) ?_
      refine skp (.bool false) ?_
      refine sk (a' := (up (or0_b153 A0 c0 l0 c1 lo g z i p ad k A2 c2) [(92, .bool false), (93, .bool false), (94, .bool false), (95, .bool false)])) (.bool false) ?_
      refine sk (a' := (up (or0_b153 A0 c0 l0 c1 lo g z i p ad k A2 c2) [(92, .bool false), (93, .bool false), (94, .bool false), (95, .bool false), (96, .pointer (some ⟨g, 0, none⟩))])) (.pointer (some ⟨g, 0, none⟩)) ?_
      refine st_call (rd_At hR) (by kernel_rfl) (by kernel_rfl) ?_
      rintro _ W5 ⟨rfl, hB⟩
      have hW := hW.step hB
      have hR := hR.below hB
      refine ⟨_, (up (or0_b156 A0 c0 l0 c1 lo g z i p ad k A2 c2) []), rfl, by kernel_rfl, ?_⟩
      refine sk (a' := (up (or0_b156 A0 c0 l0 c1 lo g z i p ad k A2 c2) [(98, .int .i64 ((p + k.toNat : Nat) : Int))])) (.int .i64 ((p + k.toNat : Nat) : Int)) ?_
      refine sep (.bool false) (Eq.trans (b := .ok (.value (.bool ((((p + k.toNat : Nat) : Int) : Int) != ((p + k.toNat : Nat) : Int)))) W5) (by kernel_rfl) (st_ok (bne_eq_false_iff_eq.2 (by omega)))) ?_
      refine skp (.bool false) ?_
      refine sk (a' := (up (or0_b156 A0 c0 l0 c1 lo g z i p ad k A2 c2) [(98, .int .i64 ((p + k.toNat : Nat) : Int)), (99, .bool false), (100, .bool false), (101, .bool false)])) (.bool false) ?_
      refine sk (a' := (up (or0_b156 A0 c0 l0 c1 lo g z i p ad k A2 c2) [(98, .int .i64 ((p + k.toNat : Nat) : Int)), (99, .bool false), (100, .bool false), (101, .bool false), (102, .pointer (some ⟨g, 0, none⟩))])) (.pointer (some ⟨g, 0, none⟩)) ?_
      refine st_call (rd_Left hR) (by kernel_rfl) (by kernel_rfl) ?_
      rintro _ W6 ⟨rfl, hB⟩
      have hW := hW.step hB
      have hR := hR.below hB
      refine ⟨_, (up (or0_b158 A0 c0 l0 c1 lo g z i p ad k A2 c2) []), rfl, by kernel_rfl, ?_⟩
      refine sk (a' := (up (or0_b158 A0 c0 l0 c1 lo g z i p ad k A2 c2) [(104, .slice A0 l0.length c0)])) (.slice A0 l0.length c0) ?_
      refine sk (a' := (up (or0_b158 A0 c0 l0 c1 lo g z i p ad k A2 c2) [(104, .slice A0 l0.length c0), (105, .int .i64 (l0.length : Int))])) (.int .i64 (l0.length : Int)) ?_
      refine sk (a' := (up (or0_b158 A0 c0 l0 c1 lo g z i p ad k A2 c2) [(104, .slice A0 l0.length c0), (105, .int .i64 (l0.length : Int)), (106, .int .i64 ((p + k.toNat : Nat) : Int))])) (.int .i64 ((p + k.toNat : Nat) : Int)) ?_
      refine se (a' := (up (or0_b158 A0 c0 l0 c1 lo g z i p ad k A2 c2) [(104, .slice A0 l0.length c0), (105, .int .i64 (l0.length : Int)), (106, .int .i64 ((p + k.toNat : Nat) : Int)), (107, .int .i64 ((l0.length : Int) - ((p + k.toNat : Nat) : Int)))])) (.int .i64 ((l0.length : Int) - ((p + k.toNat : Nat) : Int))) (Eq.trans (b := .ok (.value (.int .i64 (IntKind.wrap .i64 ((l0.length : Int) - ((p + k.toNat : Nat) : Int))))) W6) (by kernel_rfl) (by rw [hwm])) ?_
      refine sep (.bool false) (Eq.trans (b := .ok (.value (.bool ((((l0.length : Int) - ((p + k.toNat : Nat) : Int)) : Int) != ((l0.length : Int) - ((p + k.toNat : Nat) : Int))))) W6) (by kernel_rfl) (st_ok (bne_eq_false_iff_eq.2 (by omega)))) ?_
      refine skp (.bool false) ?_
      refine sk (a' := (up (or0_b160 A0 c0 l0 c1 lo g z i p ad k A2 c2) [(110, .bool false)])) (.bool false) ?_
      refine sk (a' := (up (or0_b160 A0 c0 l0 c1 lo g z i p ad k A2 c2) [(110, .bool false), (111, .pointer (some ⟨g, 0, none⟩))])) (.pointer (some ⟨g, 0, none⟩)) ?_
      refine st_call (rd_Bad hR) (by kernel_rfl) (by kernel_rfl) ?_
      rintro _ W7 ⟨rfl, hB⟩
      have hW := hW.step hB
      have hR := hR.below hB
      refine ⟨_, (up (or0_b160 A0 c0 l0 c1 lo g z i p ad k A2 c2) [(110, .bool false), (111, .pointer (some ⟨g, 0, none⟩)), (112, .bool false)]), rfl, by kernel_rfl, ?_⟩
      refine sk (a' := (up (or0_b160 A0 c0 l0 c1 lo g z i p ad k A2 c2) [(110, .bool false), (111, .pointer (some ⟨g, 0, none⟩)), (112, .bool false), (113, .bool false)])) (.bool false) ?_
      refine skp (.bool false) ?_
      refine sk (a' := (up (or0_b162 A0 c0 l0 c1 lo g z i p ad k A2 c2) [])) (.bool false) ?_
      refine wpList_nil ?_
      refine wp_cond (t := false) (by kernel_rfl) ?_
      refine wp_skip ?_
      refine wp_region_list ?_
      refine skp (.int .i64 (i : Int)) ?_
      refine sep (.int .i64 ((i + 1 : Nat) : Int)) (Eq.trans (b := .ok (.value (.int .i64 (IntKind.wrap .i64 ((i : Int) + 1)))) W7) (by kernel_rfl) (by rw [hwi])) ?_
      refine sk (a' := (up (or0_b162 A0 c0 l0 c1 lo g z i p ad k A2 c2) [(8, .int .i64 ((i + 1 : Nat) : Int)), (30, .int .i64 (i : Int)), (31, .int .i64 ((i + 1 : Nat) : Int))])) (.int .i64 ((i + 1 : Nat) : Int)) ?_
      refine wpList_nil ?_
      exact lp_next (lo.length - (i + 1)) (by omega) ⟨(fun mm => ((up (or0_b162 A0 c0 l0 c1 lo g z i p ad k A2 c2) [(8, .int .i64 ((i + 1 : Nat) : Int)), (30, .int .i64 (i : Int)), (31, .int .i64 ((i + 1 : Nat) : Int))])).tmps.getD mm undef), (i + 1), (p + k.toNat), false, by kernel_rfl, hW, hR, (by omega), (by omega), rfl⟩
end Go.Proofs.Ythllggfimndklac.Or
