/- What thread.Get, Clone, Start, Set, Begin and Done answer. No condition beside those that each theorem names. -/
import Derived.Test.YthcmcekjgecnhaaTlA
namespace Go.Proofs.Ythcmcekjgecnhaa.Th
open Go.RowKit Go.Proofs.YthcmcekjgecnhaaW.PrintWords Go.Proofs.YthcmcekjgecnhaaW.PrintLast
open Go.Proofs.YthcmcekjgecnhaaW.HWords Go.Proofs.Ythcmcekjgecnhaa.QThreadLocals
set_option linter.unusedVariables false
set_option linter.unusedSimpArgs false
def tg_o_c0 (t : Th) : Array Value := #[.int .i64 t.pc, .int .i64 t.fu, .int .i64 t.st, .int .i64 (t.R 0), .int .i64 (t.R 1), .int .i64 (t.R 2), .int .i64 (t.R 3), .int .i64 (t.R 4), .int .i64 (t.R 5), .int .i64 (t.R 6), .int .i64 (t.R 7), .int .i64 (t.R 8), .int .i64 (t.R 9), .int .i64 (t.R 10), .int .i64 (t.R 11), .int .i64 t.kd, .int .i64 t.mi, .int .i64 t.mn, t.sv, t.bv, t.nv, .int .i64 t.old]
def tg_o_l1 (t : Th) (r : Int) (g1 : Nat) : List Value := [.agg (tg_o_c0 t), .int .i64 r, .pointer (some ⟨g1, 0, none⟩), zz, zz, zz, zz, zz, zz, zz, zz, zz, zz]
def tg_o_b2 (t : Th) (r : Int) (g1 : Nat) : List Value := (tg_o_l1 t r g1)
def tg_0_c0 (t : Th) : Array Value := #[.int .i64 t.pc, .int .i64 t.fu, .int .i64 t.st, .int .i64 (t.R 0), .int .i64 (t.R 1), .int .i64 (t.R 2), .int .i64 (t.R 3), .int .i64 (t.R 4), .int .i64 (t.R 5), .int .i64 (t.R 6), .int .i64 (t.R 7), .int .i64 (t.R 8), .int .i64 (t.R 9), .int .i64 (t.R 10), .int .i64 (t.R 11), .int .i64 t.kd, .int .i64 t.mi, .int .i64 t.mn, t.sv, t.bv, t.nv, .int .i64 t.old]
def tg_0_l1 (t : Th) (g1 : Nat) : List Value := [.agg (tg_0_c0 t), .int .i64 0, .pointer (some ⟨g1, 0, none⟩), zz, zz, zz, zz, zz, zz, zz, zz, zz, zz]
def tg_0_b2 (t : Th) (g1 : Nat) : List Value := (tg_0_l1 t g1)
def tg_0_l3 (t : Th) (g1 : Nat) (g3 : Nat) : List Value := [.agg (tg_0_c0 t), .int .i64 0, .pointer (some ⟨g1, 0, none⟩), zz, .pointer (some ⟨g3, 0, none⟩), .int .i64 0, .bool true, .bool false, zz, .int .i64 0, .pointer (some ⟨g1, 3, none⟩), zz, zz]
def tg_0_b4 (t : Th) (g1 : Nat) (g3 : Nat) : List Value := (tg_0_l3 t g1 g3)
def tg_1_c0 (t : Th) : Array Value := #[.int .i64 t.pc, .int .i64 t.fu, .int .i64 t.st, .int .i64 (t.R 0), .int .i64 (t.R 1), .int .i64 (t.R 2), .int .i64 (t.R 3), .int .i64 (t.R 4), .int .i64 (t.R 5), .int .i64 (t.R 6), .int .i64 (t.R 7), .int .i64 (t.R 8), .int .i64 (t.R 9), .int .i64 (t.R 10), .int .i64 (t.R 11), .int .i64 t.kd, .int .i64 t.mi, .int .i64 t.mn, t.sv, t.bv, t.nv, .int .i64 t.old]
def tg_1_l1 (t : Th) (g1 : Nat) : List Value := [.agg (tg_1_c0 t), .int .i64 1, .pointer (some ⟨g1, 0, none⟩), zz, zz, zz, zz, zz, zz, zz, zz, zz, zz]
def tg_1_b2 (t : Th) (g1 : Nat) : List Value := (tg_1_l1 t g1)
def tg_1_l3 (t : Th) (g1 : Nat) (g3 : Nat) : List Value := [.agg (tg_1_c0 t), .int .i64 1, .pointer (some ⟨g1, 0, none⟩), zz, .pointer (some ⟨g3, 0, none⟩), .int .i64 1, .bool true, .bool false, zz, .int .i64 1, .pointer (some ⟨g1, 3, none⟩), zz, zz]
def tg_1_b4 (t : Th) (g1 : Nat) (g3 : Nat) : List Value := (tg_1_l3 t g1 g3)
def tg_2_c0 (t : Th) : Array Value := #[.int .i64 t.pc, .int .i64 t.fu, .int .i64 t.st, .int .i64 (t.R 0), .int .i64 (t.R 1), .int .i64 (t.R 2), .int .i64 (t.R 3), .int .i64 (t.R 4), .int .i64 (t.R 5), .int .i64 (t.R 6), .int .i64 (t.R 7), .int .i64 (t.R 8), .int .i64 (t.R 9), .int .i64 (t.R 10), .int .i64 (t.R 11), .int .i64 t.kd, .int .i64 t.mi, .int .i64 t.mn, t.sv, t.bv, t.nv, .int .i64 t.old]
def tg_2_l1 (t : Th) (g1 : Nat) : List Value := [.agg (tg_2_c0 t), .int .i64 2, .pointer (some ⟨g1, 0, none⟩), zz, zz, zz, zz, zz, zz, zz, zz, zz, zz]
def tg_2_b2 (t : Th) (g1 : Nat) : List Value := (tg_2_l1 t g1)
def tg_2_l3 (t : Th) (g1 : Nat) (g3 : Nat) : List Value := [.agg (tg_2_c0 t), .int .i64 2, .pointer (some ⟨g1, 0, none⟩), zz, .pointer (some ⟨g3, 0, none⟩), .int .i64 2, .bool true, .bool false, zz, .int .i64 2, .pointer (some ⟨g1, 3, none⟩), zz, zz]
def tg_2_b4 (t : Th) (g1 : Nat) (g3 : Nat) : List Value := (tg_2_l3 t g1 g3)
def tg_3_c0 (t : Th) : Array Value := #[.int .i64 t.pc, .int .i64 t.fu, .int .i64 t.st, .int .i64 (t.R 0), .int .i64 (t.R 1), .int .i64 (t.R 2), .int .i64 (t.R 3), .int .i64 (t.R 4), .int .i64 (t.R 5), .int .i64 (t.R 6), .int .i64 (t.R 7), .int .i64 (t.R 8), .int .i64 (t.R 9), .int .i64 (t.R 10), .int .i64 (t.R 11), .int .i64 t.kd, .int .i64 t.mi, .int .i64 t.mn, t.sv, t.bv, t.nv, .int .i64 t.old]
def tg_3_l1 (t : Th) (g1 : Nat) : List Value := [.agg (tg_3_c0 t), .int .i64 3, .pointer (some ⟨g1, 0, none⟩), zz, zz, zz, zz, zz, zz, zz, zz, zz, zz]
def tg_3_b2 (t : Th) (g1 : Nat) : List Value := (tg_3_l1 t g1)
def tg_3_l3 (t : Th) (g1 : Nat) (g3 : Nat) : List Value := [.agg (tg_3_c0 t), .int .i64 3, .pointer (some ⟨g1, 0, none⟩), zz, .pointer (some ⟨g3, 0, none⟩), .int .i64 3, .bool true, .bool false, zz, .int .i64 3, .pointer (some ⟨g1, 3, none⟩), zz, zz]
def tg_3_b4 (t : Th) (g1 : Nat) (g3 : Nat) : List Value := (tg_3_l3 t g1 g3)
set_option maxHeartbeats 8000000 in
set_option maxRecDepth 100000 in
theorem th_Get (t : Th) (r : Int) (w : World) : Calls Try.prog 19 #[.agg t.cells, .int .i64 r] w fun e w' => e = .returned (.agg #[.int .i64 (getR t.R r 0), .int .i64 (getR t.R r 1), .int .i64 (getR t.R r 2)]) ∧ Below w.heap.size w w' := by
  have hc : ¬ (0 ≤ r ∧ r ≤ 3) ∨ r = 0 ∨ r = 1 ∨ r = 2 ∨ r = 3 := by omega
  rcases hc with hrr | rfl | rfl | rfl | rfl
  · skip
    refine calls_of_wp Try.func19 rfl ?_
    have hW := Ws.nil w
    refine wp_seq ?_
    refine wp_region_list ?_
    obtain ⟨g1, W2, hr, hW, hbb, hge⟩ := hW.mk1 (P := Try.prog) (s := Instr.box 32 (.agg (tg_o_c0 t))) (tg_o_c0 t) 32 (by kernel_rfl)
    refine se (a' := (up (tg_o_b2 t r g1) [])) (.pointer (some ⟨g1, 0, none⟩)) (Eq.trans (b := (do pure (Next.value (← Instr.box 32 (.agg (tg_o_c0 t)))) : Sem Next).run Try.prog w) (by kernel_rfl) (st_val hr)) ?_
    obtain ⟨g3, W4, hr, hW, hbb, hge⟩ := hW.mk1 (P := Try.prog) (s := Instr.alloc 25 true (.tuple #[])) #[.int .i64 0, .int .i64 0, .int .i64 0] 25 (by kernel_rfl)
    refine se (a' := (up (tg_o_b2 t r g1) [(4, .pointer (some ⟨g3, 0, none⟩))])) (.pointer (some ⟨g3, 0, none⟩)) (Eq.trans (b := (do pure (Next.value (← Instr.alloc 25 true (.tuple #[]))) : Sem Next).run Try.prog W2) (by kernel_rfl) (st_val hr)) ?_
    refine wpList_nil ?_
    refine wp_seq ?_
    refine wp_seq ?_
    refine wp_region_list ?_
    refine sk (a' := (up (tg_o_b2 t r g1) [(4, .pointer (some ⟨g3, 0, none⟩)), (5, .int .i64 r)])) (.int .i64 r) ?_
    refine st_call (in_calls r 0 3 false (decide_eq_false (by omega)) W4) (by kernel_rfl) (by kernel_rfl) ?_
    rintro _ W5 ⟨rfl, hB⟩
    have hW := hW.step hB
    refine ⟨_, (up (tg_o_b2 t r g1) [(4, .pointer (some ⟨g3, 0, none⟩)), (5, .int .i64 r), (6, .bool false)]), rfl, by kernel_rfl, ?_⟩
    refine sk (a' := (up (tg_o_b2 t r g1) [(4, .pointer (some ⟨g3, 0, none⟩)), (5, .int .i64 r), (6, .bool false), (7, .bool true)])) (.bool true) ?_
    refine wpList_nil ?_
    refine wp_cond (t := true) (by kernel_rfl) ?_
    refine wp_seq ?_
    refine wp_region_list ?_
    refine sk (a' := (up (tg_o_b2 t r g1) [(4, .pointer (some ⟨g3, 0, none⟩)), (5, .int .i64 r), (6, .bool false), (7, .bool true), (8, .agg #[.int .i64 0, .int .i64 0, .int .i64 0])])) (.agg #[.int .i64 0, .int .i64 0, .int .i64 0]) ?_
    obtain ⟨W6, hr, hW, hF⟩ := hW.storeN (P := Try.prog) (o := 0) (cs' := #[.int .i64 0, .int .i64 0, .int .i64 0]) (L' := [(g3, 25, #[.int .i64 0, .int .i64 0, .int .i64 0]), (g1, 32, (tg_o_c0 t))]) 0 rfl #[.int .i64 0, .int .i64 0, .int .i64 0] (by kernel_rfl) (Nat.le_of_ble_eq_true rfl) (by kernel_rfl) rfl 25 (by kernel_rfl)
    refine st_none (w' := W6) (a' := (up (tg_o_b2 t r g1) [(4, .pointer (some ⟨g3, 0, none⟩)), (5, .int .i64 r), (6, .bool false), (7, .bool true), (8, .agg #[.int .i64 0, .int .i64 0, .int .i64 0])])) (by kernel_rfl) (Eq.trans (b := (do Instr.storeAt 25 (.pointer (some ⟨g3, 0, none⟩)) (.agg #[.int .i64 0, .int .i64 0, .int .i64 0]); pure Next.skip : Sem Next).run Try.prog W5) (by kernel_rfl) (st_unit hr)) (by kernel_rfl) ?_
    refine wpList_nil ?_
    refine wp_ret ?_
    (try simp only [Exit.then, Exit.inBlock])
    change bodyPost Try.prog Try.f19 _ .ret _ _
    refine bodyPost_ret (results_single rfl (.cell g3 25 _ (0, 0) _ (by kernel_rfl) (hW.blk 0 _ _ _ rfl).1 Try.underlying25 rfl (by kernel_rfl) .nil)) rfl ?_
    refine ⟨?_, hW.below⟩
    unfold getR
    simp only [if_neg hrr]
  · skip
    refine calls_of_wp Try.func19 rfl ?_
    have hW := Ws.nil w
    refine wp_seq ?_
    refine wp_region_list ?_
    obtain ⟨g1, W2, hr, hW, hbb, hge⟩ := hW.mk1 (P := Try.prog) (s := Instr.box 32 (.agg (tg_0_c0 t))) (tg_0_c0 t) 32 (by kernel_rfl)
    refine se (a' := (up (tg_0_b2 t g1) [])) (.pointer (some ⟨g1, 0, none⟩)) (Eq.trans (b := (do pure (Next.value (← Instr.box 32 (.agg (tg_0_c0 t)))) : Sem Next).run Try.prog w) (by kernel_rfl) (st_val hr)) ?_
    obtain ⟨g3, W4, hr, hW, hbb, hge⟩ := hW.mk1 (P := Try.prog) (s := Instr.alloc 25 true (.tuple #[])) #[.int .i64 0, .int .i64 0, .int .i64 0] 25 (by kernel_rfl)
    refine se (a' := (up (tg_0_b2 t g1) [(4, .pointer (some ⟨g3, 0, none⟩))])) (.pointer (some ⟨g3, 0, none⟩)) (Eq.trans (b := (do pure (Next.value (← Instr.alloc 25 true (.tuple #[]))) : Sem Next).run Try.prog W2) (by kernel_rfl) (st_val hr)) ?_
    refine wpList_nil ?_
    refine wp_seq ?_
    refine wp_seq ?_
    refine wp_region_list ?_
    refine sk (a' := (up (tg_0_b2 t g1) [(4, .pointer (some ⟨g3, 0, none⟩)), (5, .int .i64 0)])) (.int .i64 0) ?_
    refine st_call (in_calls 0 0 3 true (decide_eq_true (by omega)) W4) (by kernel_rfl) (by kernel_rfl) ?_
    rintro _ W5 ⟨rfl, hB⟩
    have hW := hW.step hB
    refine ⟨_, (up (tg_0_b2 t g1) [(4, .pointer (some ⟨g3, 0, none⟩)), (5, .int .i64 0), (6, .bool true)]), rfl, by kernel_rfl, ?_⟩
    refine sk (a' := (up (tg_0_b2 t g1) [(4, .pointer (some ⟨g3, 0, none⟩)), (5, .int .i64 0), (6, .bool true), (7, .bool false)])) (.bool false) ?_
    refine wpList_nil ?_
    refine wp_cond (t := false) (by kernel_rfl) ?_
    refine wp_skip ?_
    refine wp_seq ?_
    refine wp_region_list ?_
    refine skp (.int .i64 0) ?_
    refine skp (.pointer (some ⟨g1, 3, none⟩)) ?_
    refine sk (a' := (up (tg_0_b4 t g1 g3) [(11, .pointer (some ⟨g1, 3, none⟩))])) (.pointer (some ⟨g1, 3, none⟩)) ?_
    refine se (a' := (up (tg_0_b4 t g1 g3) [(11, .pointer (some ⟨g1, 3, none⟩)), (12, .agg #[.int .i64 (t.R 0), .int .i64 (t.R 1), .int .i64 (t.R 2)])])) (.agg #[.int .i64 (t.R 0), .int .i64 (t.R 1), .int .i64 (t.R 2)]) (evA hW 1 3 Try.underlying25) ?_
    obtain ⟨W6, hr, hW, hF⟩ := hW.storeN (P := Try.prog) (o := 0) (cs' := #[.int .i64 (t.R 0), .int .i64 (t.R 1), .int .i64 (t.R 2)]) (L' := [(g3, 25, #[.int .i64 (t.R 0), .int .i64 (t.R 1), .int .i64 (t.R 2)]), (g1, 32, (tg_0_c0 t))]) 0 rfl #[.int .i64 (t.R 0), .int .i64 (t.R 1), .int .i64 (t.R 2)] (by kernel_rfl) (Nat.le_of_ble_eq_true rfl) (by kernel_rfl) rfl 25 (by kernel_rfl)
    refine st_none (w' := W6) (a' := (up (tg_0_b4 t g1 g3) [(11, .pointer (some ⟨g1, 3, none⟩)), (12, .agg #[.int .i64 (t.R 0), .int .i64 (t.R 1), .int .i64 (t.R 2)])])) (by kernel_rfl) (Eq.trans (b := (do Instr.storeAt 25 (.pointer (some ⟨g3, 0, none⟩)) (.agg #[.int .i64 (t.R 0), .int .i64 (t.R 1), .int .i64 (t.R 2)]); pure Next.skip : Sem Next).run Try.prog W5) (by kernel_rfl) (st_unit hr)) (by kernel_rfl) ?_
    refine wpList_nil ?_
    refine wp_ret ?_
    (try simp only [Exit.then, Exit.inBlock])
    change bodyPost Try.prog Try.f19 _ .ret _ _
    refine bodyPost_ret (results_single rfl (.cell g3 25 _ (0, 0) _ (by kernel_rfl) (hW.blk 0 _ _ _ rfl).1 Try.underlying25 rfl (by kernel_rfl) .nil)) rfl ?_
    exact ⟨rfl, hW.below⟩
  · skip
    refine calls_of_wp Try.func19 rfl ?_
    have hW := Ws.nil w
    refine wp_seq ?_
    refine wp_region_list ?_
    obtain ⟨g1, W2, hr, hW, hbb, hge⟩ := hW.mk1 (P := Try.prog) (s := Instr.box 32 (.agg (tg_1_c0 t))) (tg_1_c0 t) 32 (by kernel_rfl)
    refine se (a' := (up (tg_1_b2 t g1) [])) (.pointer (some ⟨g1, 0, none⟩)) (Eq.trans (b := (do pure (Next.value (← Instr.box 32 (.agg (tg_1_c0 t)))) : Sem Next).run Try.prog w) (by kernel_rfl) (st_val hr)) ?_
    obtain ⟨g3, W4, hr, hW, hbb, hge⟩ := hW.mk1 (P := Try.prog) (s := Instr.alloc 25 true (.tuple #[])) #[.int .i64 0, .int .i64 0, .int .i64 0] 25 (by kernel_rfl)
    refine se (a' := (up (tg_1_b2 t g1) [(4, .pointer (some ⟨g3, 0, none⟩))])) (.pointer (some ⟨g3, 0, none⟩)) (Eq.trans (b := (do pure (Next.value (← Instr.alloc 25 true (.tuple #[]))) : Sem Next).run Try.prog W2) (by kernel_rfl) (st_val hr)) ?_
    refine wpList_nil ?_
    refine wp_seq ?_
    refine wp_seq ?_
    refine wp_region_list ?_
    refine sk (a' := (up (tg_1_b2 t g1) [(4, .pointer (some ⟨g3, 0, none⟩)), (5, .int .i64 1)])) (.int .i64 1) ?_
    refine st_call (in_calls 1 0 3 true (decide_eq_true (by omega)) W4) (by kernel_rfl) (by kernel_rfl) ?_
    rintro _ W5 ⟨rfl, hB⟩
    have hW := hW.step hB
    refine ⟨_, (up (tg_1_b2 t g1) [(4, .pointer (some ⟨g3, 0, none⟩)), (5, .int .i64 1), (6, .bool true)]), rfl, by kernel_rfl, ?_⟩
    refine sk (a' := (up (tg_1_b2 t g1) [(4, .pointer (some ⟨g3, 0, none⟩)), (5, .int .i64 1), (6, .bool true), (7, .bool false)])) (.bool false) ?_
    refine wpList_nil ?_
    refine wp_cond (t := false) (by kernel_rfl) ?_
    refine wp_skip ?_
    refine wp_seq ?_
    refine wp_region_list ?_
    refine skp (.int .i64 1) ?_
    refine skp (.pointer (some ⟨g1, 3, none⟩)) ?_
    refine sk (a' := (up (tg_1_b4 t g1 g3) [(11, .pointer (some ⟨g1, 6, none⟩))])) (.pointer (some ⟨g1, 6, none⟩)) ?_
    refine se (a' := (up (tg_1_b4 t g1 g3) [(11, .pointer (some ⟨g1, 6, none⟩)), (12, .agg #[.int .i64 (t.R 3), .int .i64 (t.R 4), .int .i64 (t.R 5)])])) (.agg #[.int .i64 (t.R 3), .int .i64 (t.R 4), .int .i64 (t.R 5)]) (evA hW 1 6 Try.underlying25) ?_
    obtain ⟨W6, hr, hW, hF⟩ := hW.storeN (P := Try.prog) (o := 0) (cs' := #[.int .i64 (t.R 3), .int .i64 (t.R 4), .int .i64 (t.R 5)]) (L' := [(g3, 25, #[.int .i64 (t.R 3), .int .i64 (t.R 4), .int .i64 (t.R 5)]), (g1, 32, (tg_1_c0 t))]) 0 rfl #[.int .i64 (t.R 3), .int .i64 (t.R 4), .int .i64 (t.R 5)] (by kernel_rfl) (Nat.le_of_ble_eq_true rfl) (by kernel_rfl) rfl 25 (by kernel_rfl)
    refine st_none (w' := W6) (a' := (up (tg_1_b4 t g1 g3) [(11, .pointer (some ⟨g1, 6, none⟩)), (12, .agg #[.int .i64 (t.R 3), .int .i64 (t.R 4), .int .i64 (t.R 5)])])) (by kernel_rfl) (Eq.trans (b := (do Instr.storeAt 25 (.pointer (some ⟨g3, 0, none⟩)) (.agg #[.int .i64 (t.R 3), .int .i64 (t.R 4), .int .i64 (t.R 5)]); pure Next.skip : Sem Next).run Try.prog W5) (by kernel_rfl) (st_unit hr)) (by kernel_rfl) ?_
    refine wpList_nil ?_
    refine wp_ret ?_
    (try simp only [Exit.then, Exit.inBlock])
    change bodyPost Try.prog Try.f19 _ .ret _ _
    refine bodyPost_ret (results_single rfl (.cell g3 25 _ (0, 0) _ (by kernel_rfl) (hW.blk 0 _ _ _ rfl).1 Try.underlying25 rfl (by kernel_rfl) .nil)) rfl ?_
    exact ⟨rfl, hW.below⟩
  · skip
    refine calls_of_wp Try.func19 rfl ?_
    have hW := Ws.nil w
    refine wp_seq ?_
    refine wp_region_list ?_
    obtain ⟨g1, W2, hr, hW, hbb, hge⟩ := hW.mk1 (P := Try.prog) (s := Instr.box 32 (.agg (tg_2_c0 t))) (tg_2_c0 t) 32 (by kernel_rfl)
    refine se (a' := (up (tg_2_b2 t g1) [])) (.pointer (some ⟨g1, 0, none⟩)) (Eq.trans (b := (do pure (Next.value (← Instr.box 32 (.agg (tg_2_c0 t)))) : Sem Next).run Try.prog w) (by kernel_rfl) (st_val hr)) ?_
    obtain ⟨g3, W4, hr, hW, hbb, hge⟩ := hW.mk1 (P := Try.prog) (s := Instr.alloc 25 true (.tuple #[])) #[.int .i64 0, .int .i64 0, .int .i64 0] 25 (by kernel_rfl)
    refine se (a' := (up (tg_2_b2 t g1) [(4, .pointer (some ⟨g3, 0, none⟩))])) (.pointer (some ⟨g3, 0, none⟩)) (Eq.trans (b := (do pure (Next.value (← Instr.alloc 25 true (.tuple #[]))) : Sem Next).run Try.prog W2) (by kernel_rfl) (st_val hr)) ?_
    refine wpList_nil ?_
    refine wp_seq ?_
    refine wp_seq ?_
    refine wp_region_list ?_
    refine sk (a' := (up (tg_2_b2 t g1) [(4, .pointer (some ⟨g3, 0, none⟩)), (5, .int .i64 2)])) (.int .i64 2) ?_
    refine st_call (in_calls 2 0 3 true (decide_eq_true (by omega)) W4) (by kernel_rfl) (by kernel_rfl) ?_
    rintro _ W5 ⟨rfl, hB⟩
    have hW := hW.step hB
    refine ⟨_, (up (tg_2_b2 t g1) [(4, .pointer (some ⟨g3, 0, none⟩)), (5, .int .i64 2), (6, .bool true)]), rfl, by kernel_rfl, ?_⟩
    refine sk (a' := (up (tg_2_b2 t g1) [(4, .pointer (some ⟨g3, 0, none⟩)), (5, .int .i64 2), (6, .bool true), (7, .bool false)])) (.bool false) ?_
    refine wpList_nil ?_
    refine wp_cond (t := false) (by kernel_rfl) ?_
    refine wp_skip ?_
    refine wp_seq ?_
    refine wp_region_list ?_
    refine skp (.int .i64 2) ?_
    refine skp (.pointer (some ⟨g1, 3, none⟩)) ?_
    refine sk (a' := (up (tg_2_b4 t g1 g3) [(11, .pointer (some ⟨g1, 9, none⟩))])) (.pointer (some ⟨g1, 9, none⟩)) ?_
    refine se (a' := (up (tg_2_b4 t g1 g3) [(11, .pointer (some ⟨g1, 9, none⟩)), (12, .agg #[.int .i64 (t.R 6), .int .i64 (t.R 7), .int .i64 (t.R 8)])])) (.agg #[.int .i64 (t.R 6), .int .i64 (t.R 7), .int .i64 (t.R 8)]) (evA hW 1 9 Try.underlying25) ?_
    obtain ⟨W6, hr, hW, hF⟩ := hW.storeN (P := Try.prog) (o := 0) (cs' := #[.int .i64 (t.R 6), .int .i64 (t.R 7), .int .i64 (t.R 8)]) (L' := [(g3, 25, #[.int .i64 (t.R 6), .int .i64 (t.R 7), .int .i64 (t.R 8)]), (g1, 32, (tg_2_c0 t))]) 0 rfl #[.int .i64 (t.R 6), .int .i64 (t.R 7), .int .i64 (t.R 8)] (by kernel_rfl) (Nat.le_of_ble_eq_true rfl) (by kernel_rfl) rfl 25 (by kernel_rfl)
    refine st_none (w' := W6) (a' := (up (tg_2_b4 t g1 g3) [(11, .pointer (some ⟨g1, 9, none⟩)), (12, .agg #[.int .i64 (t.R 6), .int .i64 (t.R 7), .int .i64 (t.R 8)])])) (by kernel_rfl) (Eq.trans (b := (do Instr.storeAt 25 (.pointer (some ⟨g3, 0, none⟩)) (.agg #[.int .i64 (t.R 6), .int .i64 (t.R 7), .int .i64 (t.R 8)]); pure Next.skip : Sem Next).run Try.prog W5) (by kernel_rfl) (st_unit hr)) (by kernel_rfl) ?_
    refine wpList_nil ?_
    refine wp_ret ?_
    (try simp only [Exit.then, Exit.inBlock])
    change bodyPost Try.prog Try.f19 _ .ret _ _
    refine bodyPost_ret (results_single rfl (.cell g3 25 _ (0, 0) _ (by kernel_rfl) (hW.blk 0 _ _ _ rfl).1 Try.underlying25 rfl (by kernel_rfl) .nil)) rfl ?_
    exact ⟨rfl, hW.below⟩
  · skip
    refine calls_of_wp Try.func19 rfl ?_
    have hW := Ws.nil w
    refine wp_seq ?_
    refine wp_region_list ?_
    obtain ⟨g1, W2, hr, hW, hbb, hge⟩ := hW.mk1 (P := Try.prog) (s := Instr.box 32 (.agg (tg_3_c0 t))) (tg_3_c0 t) 32 (by kernel_rfl)
    refine se (a' := (up (tg_3_b2 t g1) [])) (.pointer (some ⟨g1, 0, none⟩)) (Eq.trans (b := (do pure (Next.value (← Instr.box 32 (.agg (tg_3_c0 t)))) : Sem Next).run Try.prog w) (by kernel_rfl) (st_val hr)) ?_
    obtain ⟨g3, W4, hr, hW, hbb, hge⟩ := hW.mk1 (P := Try.prog) (s := Instr.alloc 25 true (.tuple #[])) #[.int .i64 0, .int .i64 0, .int .i64 0] 25 (by kernel_rfl)
    refine se (a' := (up (tg_3_b2 t g1) [(4, .pointer (some ⟨g3, 0, none⟩))])) (.pointer (some ⟨g3, 0, none⟩)) (Eq.trans (b := (do pure (Next.value (← Instr.alloc 25 true (.tuple #[]))) : Sem Next).run Try.prog W2) (by kernel_rfl) (st_val hr)) ?_
    refine wpList_nil ?_
    refine wp_seq ?_
    refine wp_seq ?_
    refine wp_region_list ?_
    refine sk (a' := (up (tg_3_b2 t g1) [(4, .pointer (some ⟨g3, 0, none⟩)), (5, .int .i64 3)])) (.int .i64 3) ?_
    refine st_call (in_calls 3 0 3 true (decide_eq_true (by omega)) W4) (by kernel_rfl) (by kernel_rfl) ?_
    rintro _ W5 ⟨rfl, hB⟩
    have hW := hW.step hB
    refine ⟨_, (up (tg_3_b2 t g1) [(4, .pointer (some ⟨g3, 0, none⟩)), (5, .int .i64 3), (6, .bool true)]), rfl, by kernel_rfl, ?_⟩
    refine sk (a' := (up (tg_3_b2 t g1) [(4, .pointer (some ⟨g3, 0, none⟩)), (5, .int .i64 3), (6, .bool true), (7, .bool false)])) (.bool false) ?_
    refine wpList_nil ?_
    refine wp_cond (t := false) (by kernel_rfl) ?_
    refine wp_skip ?_
    refine wp_seq ?_
    refine wp_region_list ?_
    refine skp (.int .i64 3) ?_
    refine skp (.pointer (some ⟨g1, 3, none⟩)) ?_
    refine sk (a' := (up (tg_3_b4 t g1 g3) [(11, .pointer (some ⟨g1, 12, none⟩))])) (.pointer (some ⟨g1, 12, none⟩)) ?_
    refine se (a' := (up (tg_3_b4 t g1 g3) [(11, .pointer (some ⟨g1, 12, none⟩)), (12, .agg #[.int .i64 (t.R 9), .int .i64 (t.R 10), .int .i64 (t.R 11)])])) (.agg #[.int .i64 (t.R 9), .int .i64 (t.R 10), .int .i64 (t.R 11)]) (evA hW 1 12 Try.underlying25) ?_
    obtain ⟨W6, hr, hW, hF⟩ := hW.storeN (P := Try.prog) (o := 0) (cs' := #[.int .i64 (t.R 9), .int .i64 (t.R 10), .int .i64 (t.R 11)]) (L' := [(g3, 25, #[.int .i64 (t.R 9), .int .i64 (t.R 10), .int .i64 (t.R 11)]), (g1, 32, (tg_3_c0 t))]) 0 rfl #[.int .i64 (t.R 9), .int .i64 (t.R 10), .int .i64 (t.R 11)] (by kernel_rfl) (Nat.le_of_ble_eq_true rfl) (by kernel_rfl) rfl 25 (by kernel_rfl)
    refine st_none (w' := W6) (a' := (up (tg_3_b4 t g1 g3) [(11, .pointer (some ⟨g1, 12, none⟩)), (12, .agg #[.int .i64 (t.R 9), .int .i64 (t.R 10), .int .i64 (t.R 11)])])) (by kernel_rfl) (Eq.trans (b := (do Instr.storeAt 25 (.pointer (some ⟨g3, 0, none⟩)) (.agg #[.int .i64 (t.R 9), .int .i64 (t.R 10), .int .i64 (t.R 11)]); pure Next.skip : Sem Next).run Try.prog W5) (by kernel_rfl) (st_unit hr)) (by kernel_rfl) ?_
    refine wpList_nil ?_
    refine wp_ret ?_
    (try simp only [Exit.then, Exit.inBlock])
    change bodyPost Try.prog Try.f19 _ .ret _ _
    refine bodyPost_ret (results_single rfl (.cell g3 25 _ (0, 0) _ (by kernel_rfl) (hW.blk 0 _ _ _ rfl).1 Try.underlying25 rfl (by kernel_rfl) .nil)) rfl ?_
    exact ⟨rfl, hW.below⟩
def tc_c0 (t : Th) : Array Value := #[.int .i64 t.pc, .int .i64 t.fu, .int .i64 t.st, .int .i64 (t.R 0), .int .i64 (t.R 1), .int .i64 (t.R 2), .int .i64 (t.R 3), .int .i64 (t.R 4), .int .i64 (t.R 5), .int .i64 (t.R 6), .int .i64 (t.R 7), .int .i64 (t.R 8), .int .i64 (t.R 9), .int .i64 (t.R 10), .int .i64 (t.R 11), .int .i64 t.kd, .int .i64 t.mi, .int .i64 t.mn, t.sv, t.bv, t.nv, .int .i64 t.old]
def tc_l1 (t : Th) (g1 : Nat) : List Value := [.agg (tc_c0 t), .pointer (some ⟨g1, 0, none⟩), zz, zz, zz, zz, zz, zz, zz, zz, zz, zz, zz, zz, zz, zz]
def tc_l2 : List Value := [zz, zz]
def tc_b3 (t : Th) (g1 : Nat) : List Value := (tc_l1 t g1) ++ (tc_l2)
def tc_c1 : Array Value := #[.int .i64 0, .int .i64 0, .int .i64 0, .int .i64 0, .int .i64 0, .int .i64 0, .int .i64 0, .int .i64 0, .int .i64 0, .int .i64 0, .int .i64 0, .int .i64 0, .int .i64 0, .int .i64 0, .int .i64 0, .int .i64 0, .int .i64 0, .int .i64 0, .slice none 0 0, .slice none 0 0, .slice none 0 0, .int .i64 0]
def tc_l5 (t : Th) (g1 : Nat) (g3 : Nat) : List Value := [.agg (tc_c0 t), .pointer (some ⟨g1, 0, none⟩), .pointer (some ⟨g3, 0, none⟩), .pointer (some ⟨g1, 15, none⟩), .pointer (some ⟨g1, 18, none⟩), t.sv, zz, .pointer (some ⟨g1, 19, none⟩), t.bv, zz, zz, zz, zz, zz, zz, zz]
def tc_b6 (t : Th) (g1 : Nat) (g3 : Nat) : List Value := (tc_l5 t g1 g3) ++ (tc_l2)
def tc_l7 (t : Th) (xs : List Int) (bs : List S42) (g1 : Nat) (g3 : Nat) (A5 : Option Addr) (c5 : Nat) (A6 : Option Addr) (c6 : Nat) : List Value := [.agg (tc_c0 t), .pointer (some ⟨g1, 0, none⟩), .pointer (some ⟨g3, 0, none⟩), .pointer (some ⟨g1, 15, none⟩), .pointer (some ⟨g1, 18, none⟩), t.sv, .slice A5 xs.length c5, .pointer (some ⟨g1, 19, none⟩), t.bv, .slice A6 bs.length c6, .pointer (some ⟨g1, 20, none⟩), t.nv, zz, .pointer (some ⟨g1, 15, none⟩), .pointer (some ⟨g1, 18, none⟩), zz]
def tc_b8 (t : Th) (xs : List Int) (bs : List S42) (g1 : Nat) (g3 : Nat) (A5 : Option Addr) (c5 : Nat) (A6 : Option Addr) (c6 : Nat) : List Value := (tc_l7 t xs bs g1 g3 A5 c5 A6 c6) ++ (tc_l2)
def tc_c2 (t : Th) (xs : List Int) (A5 : Option Addr) (c5 : Nat) : Array Value := #[.int .i64 t.pc, .int .i64 t.fu, .int .i64 t.st, .int .i64 (t.R 0), .int .i64 (t.R 1), .int .i64 (t.R 2), .int .i64 (t.R 3), .int .i64 (t.R 4), .int .i64 (t.R 5), .int .i64 (t.R 6), .int .i64 (t.R 7), .int .i64 (t.R 8), .int .i64 (t.R 9), .int .i64 (t.R 10), .int .i64 (t.R 11), .int .i64 t.kd, .int .i64 t.mi, .int .i64 t.mn, .slice A5 xs.length c5, t.bv, t.nv, .int .i64 t.old]
def tc_c3 (t : Th) (xs : List Int) (bs : List S42) (A5 : Option Addr) (c5 : Nat) (A6 : Option Addr) (c6 : Nat) : Array Value := #[.int .i64 t.pc, .int .i64 t.fu, .int .i64 t.st, .int .i64 (t.R 0), .int .i64 (t.R 1), .int .i64 (t.R 2), .int .i64 (t.R 3), .int .i64 (t.R 4), .int .i64 (t.R 5), .int .i64 (t.R 6), .int .i64 (t.R 7), .int .i64 (t.R 8), .int .i64 (t.R 9), .int .i64 (t.R 10), .int .i64 (t.R 11), .int .i64 t.kd, .int .i64 t.mi, .int .i64 t.mn, .slice A5 xs.length c5, .slice A6 bs.length c6, t.nv, .int .i64 t.old]
def tc_c4 (t : Th) (xs : List Int) (bs : List S42) (ns : List Int) (A5 : Option Addr) (c5 : Nat) (A6 : Option Addr) (c6 : Nat) (A7 : Option Addr) (c7 : Nat) : Array Value := #[.int .i64 t.pc, .int .i64 t.fu, .int .i64 t.st, .int .i64 (t.R 0), .int .i64 (t.R 1), .int .i64 (t.R 2), .int .i64 (t.R 3), .int .i64 (t.R 4), .int .i64 (t.R 5), .int .i64 (t.R 6), .int .i64 (t.R 7), .int .i64 (t.R 8), .int .i64 (t.R 9), .int .i64 (t.R 10), .int .i64 (t.R 11), .int .i64 t.kd, .int .i64 t.mi, .int .i64 t.mn, .slice A5 xs.length c5, .slice A6 bs.length c6, .slice A7 ns.length c7, .int .i64 t.old]
set_option maxHeartbeats 8000000 in
set_option maxRecDepth 100000 in
theorem th_Clone {w : World} {t : Th} {xs : List Int} {bs : List S42} {ns : List Int} (h : t.reads w xs bs ns) (hl : xs.length ≤ 1000 ∧ bs.length ≤ 1000 ∧ ns.length ≤ 1000) : Calls Try.prog 16 #[.agg t.cells] w fun e w' => ∃ As cs Ab cb An cn, e = .returned (.agg ((t).rows (.slice As xs.length cs) (.slice Ab bs.length cb) (.slice An ns.length cn)).cells) ∧ ((t).rows (.slice As xs.length cs) (.slice Ab bs.length cb) (.slice An ns.length cn)).owns w' w.heap.size xs bs ns ∧ Below w.heap.size w w' := by
  refine calls_of_wp Try.func16 rfl ?_
  have hW := Ws.nil w
  refine wp_seq ?_
  refine wp_region_list ?_
  obtain ⟨g1, W2, hr, hW, hbb, hge⟩ := hW.mk1 (P := Try.prog) (s := Instr.box 32 (.agg (tc_c0 t))) (tc_c0 t) 32 (by kernel_rfl)
  refine se (a' := (up (tc_b3 t g1) [])) (.pointer (some ⟨g1, 0, none⟩)) (Eq.trans (b := (do pure (Next.value (← Instr.box 32 (.agg (tc_c0 t)))) : Sem Next).run Try.prog w) (by kernel_rfl) (st_val hr)) ?_
  obtain ⟨g3, W4, hr, hW, hbb, hge⟩ := hW.mk1 (P := Try.prog) (s := Instr.alloc 32 true (.tuple #[])) tc_c1 32 (by kernel_rfl)
  refine se (a' := (up (tc_b3 t g1) [(2, .pointer (some ⟨g3, 0, none⟩))])) (.pointer (some ⟨g3, 0, none⟩)) (Eq.trans (b := (do pure (Next.value (← Instr.alloc 32 true (.tuple #[]))) : Sem Next).run Try.prog W2) (by kernel_rfl) (st_val hr)) ?_
  refine wpList_nil ?_
  refine wp_seq ?_
  have hW := hW.drew
  refine dd_begin 12 (fun W => Ws w W [(g3, 32, tc_c1), (g1, 32, (tc_c0 t))]) (by kernel_rfl) ?_
  refine dd_one 0 (a' := (up (tc_b3 t g1) [(2, .pointer (some ⟨g3, 0, none⟩)), (3, .pointer (some ⟨g1, 15, none⟩))])) (.pointer (some ⟨g1, 15, none⟩)) rfl (by kernel_rfl) (by kernel_rfl) (by kernel_rfl) (fun _ _ _ h => h) (by kernel_rfl) (by kernel_rfl) (by kernel_rfl) (fun W hH => by kernel_rfl) hW (by kernel_rfl) ?_
  refine dd_one 1 (a' := (up (tc_b3 t g1) [(2, .pointer (some ⟨g3, 0, none⟩)), (3, .pointer (some ⟨g1, 15, none⟩)), (4, .pointer (some ⟨g1, 18, none⟩))])) (.pointer (some ⟨g1, 18, none⟩)) rfl (by kernel_rfl) (by kernel_rfl) (by kernel_rfl) (fun _ _ _ h => h) (by kernel_rfl) (by kernel_rfl) (by kernel_rfl) (fun W hH => by kernel_rfl) hW (by kernel_rfl) ?_
  refine dd_one 2 (a' := (up (tc_b3 t g1) [(2, .pointer (some ⟨g3, 0, none⟩)), (3, .pointer (some ⟨g1, 15, none⟩)), (4, .pointer (some ⟨g1, 18, none⟩)), (5, t.sv)])) (t.sv) rfl (by kernel_rfl) (by kernel_rfl) (by kernel_rfl) (fun _ _ _ h => h) (by kernel_rfl) (by kernel_rfl) (by kernel_rfl) (fun W hH => (ev1 hH 1 18 Try.underlying27)) hW (by kernel_rfl) ?_
  refine dd_one 4 (a' := (up (tc_b3 t g1) [(2, .pointer (some ⟨g3, 0, none⟩)), (3, .pointer (some ⟨g1, 15, none⟩)), (4, .pointer (some ⟨g1, 18, none⟩)), (5, t.sv), (7, .pointer (some ⟨g1, 19, none⟩))])) (.pointer (some ⟨g1, 19, none⟩)) rfl (by kernel_rfl) (by kernel_rfl) (by kernel_rfl) (fun _ _ _ h => h) (by kernel_rfl) (by kernel_rfl) (by kernel_rfl) (fun W hH => by kernel_rfl) hW (by kernel_rfl) ?_
  refine dd_one 5 (a' := (up (tc_b6 t g1 g3) [])) (t.bv) rfl (by kernel_rfl) (by kernel_rfl) (by kernel_rfl) (fun _ _ _ h => h) (by kernel_rfl) (by kernel_rfl) (by kernel_rfl) (fun W hH => (ev1 hH 1 19 Try.underlying30)) hW (by kernel_rfl) ?_
  refine dd_one 7 (a' := (up (tc_b6 t g1 g3) [(10, .pointer (some ⟨g1, 20, none⟩))])) (.pointer (some ⟨g1, 20, none⟩)) rfl (by kernel_rfl) (by kernel_rfl) (by kernel_rfl) (fun _ _ _ h => h) (by kernel_rfl) (by kernel_rfl) (by kernel_rfl) (fun W hH => by kernel_rfl) hW (by kernel_rfl) ?_
  refine dd_one 8 (a' := (up (tc_b6 t g1 g3) [(10, .pointer (some ⟨g1, 20, none⟩)), (11, t.nv)])) (t.nv) rfl (by kernel_rfl) (by kernel_rfl) (by kernel_rfl) (fun _ _ _ h => h) (by kernel_rfl) (by kernel_rfl) (by kernel_rfl) (fun W hH => (ev1 hH 1 20 Try.underlying27)) hW (by kernel_rfl) ?_
  refine dd_ready [3] (by kernel_rfl) rfl ?_
  refine all_cons ?_ all_nil
  have hK5_g3 : g3 < W4.drew.heap.size := blk_lt (hW.blk 0 _ _ _ rfl).1
  have hK5_g1 : g1 < W4.drew.heap.size := blk_lt (hW.blk 1 _ _ _ rfl).1
  have hK5_le : w.heap.size ≤ W4.drew.heap.size := hW.below.size
  refine op_call rfl (cloneI_calls (h.s.below hW.below) hl.1) (by kernel_rfl) (by kernel_rfl) ?_
  rintro _ W5 ⟨A5, c5, rfl, hR5, hB⟩
  have hW := hW.step hB
  have hK5 := KeepUp.refl W4.drew.heap.size W5
  refine ⟨_, (up (tc_b6 t g1 g3) [(6, .slice A5 xs.length c5), (10, .pointer (some ⟨g1, 20, none⟩)), (11, t.nv)]), rfl, by kernel_rfl, ?_⟩
  refine ⟨(fun _ => hW), ?_⟩
  refine dd_one 10 (a' := (up (tc_b6 t g1 g3) [(6, .slice A5 xs.length c5), (10, .pointer (some ⟨g1, 20, none⟩)), (11, t.nv), (13, .pointer (some ⟨g1, 15, none⟩))])) (.pointer (some ⟨g1, 15, none⟩)) rfl (by kernel_rfl) (by kernel_rfl) (by kernel_rfl) (fun _ _ _ h => h) (by kernel_rfl) (by kernel_rfl) (by kernel_rfl) (fun W hH => by kernel_rfl) hW (by kernel_rfl) ?_
  refine dd_one 11 (a' := (up (tc_b6 t g1 g3) [(6, .slice A5 xs.length c5), (10, .pointer (some ⟨g1, 20, none⟩)), (11, t.nv), (13, .pointer (some ⟨g1, 15, none⟩)), (14, .pointer (some ⟨g1, 18, none⟩))])) (.pointer (some ⟨g1, 18, none⟩)) rfl (by kernel_rfl) (by kernel_rfl) (by kernel_rfl) (fun _ _ _ h => h) (by kernel_rfl) (by kernel_rfl) (by kernel_rfl) (fun W hH => by kernel_rfl) hW (by kernel_rfl) ?_
  refine dd_ready [6] (by kernel_rfl) rfl ?_
  refine all_cons ?_ all_nil
  have hK6_g3 : g3 < W5.heap.size := blk_lt (hW.blk 0 _ _ _ rfl).1
  have hK6_g1 : g1 < W5.heap.size := blk_lt (hW.blk 1 _ _ _ rfl).1
  have hK6_le : w.heap.size ≤ W5.heap.size := hW.below.size
  refine op_call rfl (cloneB_calls (h.b.below hW.below) hl.2.1) (by kernel_rfl) (by kernel_rfl) ?_
  rintro _ W6 ⟨A6, c6, rfl, hR6, hB⟩
  have hW := hW.step hB
  have hK5 := hK5.below hB
  have hK6 := KeepUp.refl W5.heap.size W6
  refine ⟨_, (up (tc_b8 t xs bs g1 g3 A5 c5 A6 c6) []), rfl, by kernel_rfl, ?_⟩
  refine ⟨(fun _ => hW), ?_⟩
  refine dd_ready [9] (by kernel_rfl) rfl ?_
  refine all_cons ?_ all_nil
  have hK7_g3 : g3 < W6.heap.size := blk_lt (hW.blk 0 _ _ _ rfl).1
  have hK7_g1 : g1 < W6.heap.size := blk_lt (hW.blk 1 _ _ _ rfl).1
  have hK7_le : w.heap.size ≤ W6.heap.size := hW.below.size
  refine op_call rfl (cloneI_calls (h.n.below hW.below) hl.2.2) (by kernel_rfl) (by kernel_rfl) ?_
  rintro _ W7 ⟨A7, c7, rfl, hR7, hB⟩
  have hW := hW.step hB
  have hK5 := hK5.below hB
  have hK6 := hK6.below hB
  have hK7 := KeepUp.refl W6.heap.size W7
  refine ⟨_, (up (tc_b8 t xs bs g1 g3 A5 c5 A6 c6) [(12, .slice A7 ns.length c7)]), rfl, by kernel_rfl, ?_⟩
  refine ⟨(fun _ => hW), ?_⟩
  refine dd_ready [12] (by kernel_rfl) rfl ?_
  refine all_cons ?_ all_nil
  obtain ⟨W8, hr, hW, hF⟩ := hW.store1 (P := Try.prog) (o := 18) (cs' := (tc_c2 t xs A5 c5)) (L' := [(g3, 32, tc_c1), (g1, 32, (tc_c2 t xs A5 c5))]) 1 rfl (.slice A5 xs.length c5) rfl (Nat.le_of_ble_eq_true rfl) (by rfl) rfl 27 (by kernel_rfl)
  have hK5 := hK5.store hF (.inl hK5_g1)
  have hK6 := hK6.store hF (.inl hK6_g1)
  have hK7 := hK7.store hF (.inl hK7_g1)
  refine op_none (w' := W8) (a' := (up (tc_b8 t xs bs g1 g3 A5 c5 A6 c6) [(12, .slice A7 ns.length c7)])) rfl (by kernel_rfl) (Eq.trans (b := (do Instr.storeAt 27 (.pointer (some ⟨g1, 18, none⟩)) (.slice A5 xs.length c5); pure Next.skip : Sem Next).run Try.prog W7) (by kernel_rfl) (st_unit hr)) (by kernel_rfl) ?_
  refine ⟨(fun h => by cases (show true = false from h)), ?_⟩
  refine dd_ready [13] (by kernel_rfl) rfl ?_
  refine all_cons ?_ all_nil
  refine op_val (w' := W8) (a' := (up (tc_b8 t xs bs g1 g3 A5 c5 A6 c6) [(12, .slice A7 ns.length c7), (15, .pointer (some ⟨g1, 19, none⟩))])) (.pointer (some ⟨g1, 19, none⟩)) rfl (by kernel_rfl) (by kernel_rfl) (by kernel_rfl) ?_
  refine ⟨(fun h => by cases (show true = false from h)), ?_⟩
  refine dd_ready [14] (by kernel_rfl) rfl ?_
  refine all_cons ?_ all_nil
  obtain ⟨W9, hr, hW, hF⟩ := hW.store1 (P := Try.prog) (o := 19) (cs' := (tc_c3 t xs bs A5 c5 A6 c6)) (L' := [(g3, 32, tc_c1), (g1, 32, (tc_c3 t xs bs A5 c5 A6 c6))]) 1 rfl (.slice A6 bs.length c6) rfl (Nat.le_of_ble_eq_true rfl) (by rfl) rfl 30 (by kernel_rfl)
  have hK5 := hK5.store hF (.inl hK5_g1)
  have hK6 := hK6.store hF (.inl hK6_g1)
  have hK7 := hK7.store hF (.inl hK7_g1)
  refine op_none (w' := W9) (a' := (up (tc_b8 t xs bs g1 g3 A5 c5 A6 c6) [(12, .slice A7 ns.length c7), (15, .pointer (some ⟨g1, 19, none⟩))])) rfl (by kernel_rfl) (Eq.trans (b := (do Instr.storeAt 30 (.pointer (some ⟨g1, 19, none⟩)) (.slice A6 bs.length c6); pure Next.skip : Sem Next).run Try.prog W8) (by kernel_rfl) (st_unit hr)) (by kernel_rfl) ?_
  refine ⟨(fun h => by cases (show true = false from h)), ?_⟩
  refine dd_ready [15] (by kernel_rfl) rfl ?_
  refine all_cons ?_ all_nil
  refine op_val (w' := W9) (a' := (up (tc_b8 t xs bs g1 g3 A5 c5 A6 c6) [(12, .slice A7 ns.length c7), (15, .pointer (some ⟨g1, 19, none⟩)), (16, .pointer (some ⟨g1, 20, none⟩))])) (.pointer (some ⟨g1, 20, none⟩)) rfl (by kernel_rfl) (by kernel_rfl) (by kernel_rfl) ?_
  refine ⟨(fun h => by cases (show true = false from h)), ?_⟩
  refine dd_ready [16] (by kernel_rfl) rfl ?_
  refine all_cons ?_ all_nil
  obtain ⟨W10, hr, hW, hF⟩ := hW.store1 (P := Try.prog) (o := 20) (cs' := (tc_c4 t xs bs ns A5 c5 A6 c6 A7 c7)) (L' := [(g3, 32, tc_c1), (g1, 32, (tc_c4 t xs bs ns A5 c5 A6 c6 A7 c7))]) 1 rfl (.slice A7 ns.length c7) rfl (Nat.le_of_ble_eq_true rfl) (by rfl) rfl 27 (by kernel_rfl)
  have hK5 := hK5.store hF (.inl hK5_g1)
  have hK6 := hK6.store hF (.inl hK6_g1)
  have hK7 := hK7.store hF (.inl hK7_g1)
  refine op_none (w' := W10) (a' := (up (tc_b8 t xs bs g1 g3 A5 c5 A6 c6) [(12, .slice A7 ns.length c7), (15, .pointer (some ⟨g1, 19, none⟩)), (16, .pointer (some ⟨g1, 20, none⟩))])) rfl (by kernel_rfl) (Eq.trans (b := (do Instr.storeAt 27 (.pointer (some ⟨g1, 20, none⟩)) (.slice A7 ns.length c7); pure Next.skip : Sem Next).run Try.prog W9) (by kernel_rfl) (st_unit hr)) (by kernel_rfl) ?_
  refine ⟨(fun h => by cases (show true = false from h)), ?_⟩
  refine dd_done (by kernel_rfl) ?_ _
  refine wp_seq ?_
  refine wp_region_list ?_
  refine se (a' := (up (tc_b8 t xs bs g1 g3 A5 c5 A6 c6) [(12, .slice A7 ns.length c7), (15, .pointer (some ⟨g1, 19, none⟩)), (16, .pointer (some ⟨g1, 20, none⟩)), (17, .agg (tc_c4 t xs bs ns A5 c5 A6 c6 A7 c7))])) (.agg (tc_c4 t xs bs ns A5 c5 A6 c6 A7 c7)) (evA hW 1 0 Try.underlying32) ?_
  obtain ⟨W11, hr, hW, hF⟩ := hW.storeN (P := Try.prog) (o := 0) (cs' := (tc_c4 t xs bs ns A5 c5 A6 c6 A7 c7)) (L' := [(g3, 32, (tc_c4 t xs bs ns A5 c5 A6 c6 A7 c7)), (g1, 32, (tc_c4 t xs bs ns A5 c5 A6 c6 A7 c7))]) 0 rfl (tc_c4 t xs bs ns A5 c5 A6 c6 A7 c7) (by kernel_rfl) (Nat.le_of_ble_eq_true rfl) (by kernel_rfl) rfl 32 (by kernel_rfl)
  have hK5 := hK5.store hF (.inl hK5_g3)
  have hK6 := hK6.store hF (.inl hK6_g3)
  have hK7 := hK7.store hF (.inl hK7_g3)
  refine st_none (w' := W11) (a' := (up (tc_b8 t xs bs g1 g3 A5 c5 A6 c6) [(12, .slice A7 ns.length c7), (15, .pointer (some ⟨g1, 19, none⟩)), (16, .pointer (some ⟨g1, 20, none⟩)), (17, .agg (tc_c4 t xs bs ns A5 c5 A6 c6 A7 c7))])) (by kernel_rfl) (Eq.trans (b := (do Instr.storeAt 32 (.pointer (some ⟨g3, 0, none⟩)) (.agg (tc_c4 t xs bs ns A5 c5 A6 c6 A7 c7)); pure Next.skip : Sem Next).run Try.prog W10) (by kernel_rfl) (st_unit hr)) (by kernel_rfl) ?_
  refine wpList_nil ?_
  refine wp_ret ?_
  (try simp only [Exit.then, Exit.inBlock])
  change bodyPost Try.prog Try.f16 _ .ret _ _
  refine bodyPost_ret (results_single rfl (.cell g3 32 _ (0, 0) _ (by kernel_rfl) (hW.blk 0 _ _ _ rfl).1 Try.underlying32 rfl (by kernel_rfl) .nil)) rfl ?_
  exact ⟨A5, c5, A6, c6, A7, c7, rfl, ⟨Kd.R_lower (hK5.R hR5) hK5_le, Kd.R_lower (hK6.R hR6) hK6_le, Kd.R_lower (hK7.R hR7) hK7_le⟩, hW.below⟩
def ts_c0 (t : Th) : Array Value := #[.int .i64 t.pc, .int .i64 t.fu, .int .i64 t.st, .int .i64 (t.R 0), .int .i64 (t.R 1), .int .i64 (t.R 2), .int .i64 (t.R 3), .int .i64 (t.R 4), .int .i64 (t.R 5), .int .i64 (t.R 6), .int .i64 (t.R 7), .int .i64 (t.R 8), .int .i64 (t.R 9), .int .i64 (t.R 10), .int .i64 (t.R 11), .int .i64 t.kd, .int .i64 t.mi, .int .i64 t.mn, t.sv, t.bv, t.nv, .int .i64 t.old]
def ts_l1 (t : Th) (g1 : Nat) : List Value := [.agg (ts_c0 t), .pointer (some ⟨g1, 0, none⟩), zz, zz, zz, zz, zz, zz, zz, zz, zz, zz, zz, zz]
def ts_b2 (t : Th) (g1 : Nat) : List Value := (ts_l1 t g1)
def ts_c1 : Array Value := #[.int .i64 0, .int .i64 0, .int .i64 0, .int .i64 0, .int .i64 0, .int .i64 0, .int .i64 0, .int .i64 0, .int .i64 0, .int .i64 0, .int .i64 0, .int .i64 0, .int .i64 0, .int .i64 0, .int .i64 0, .int .i64 0, .int .i64 0, .int .i64 0, .slice none 0 0, .slice none 0 0, .slice none 0 0, .int .i64 0]
def ts_c2 (t : Th) (r5 : Rw) : Array Value := #[.int .i64 t.pc, .int .i64 t.fu, .int .i64 t.st, .int .i64 (t.R 0), .int .i64 (t.R 1), .int .i64 (t.R 2), .int .i64 (t.R 3), .int .i64 (t.R 4), .int .i64 (t.R 5), .int .i64 (t.R 6), .int .i64 (t.R 7), .int .i64 (t.R 8), .int .i64 (t.R 9), .int .i64 (t.R 10), .int .i64 (t.R 11), .int .i64 t.kd, .int .i64 t.mi, .int .i64 t.mn, r5.s, r5.b, r5.n, .int .i64 t.old]
def ts_l5 (t : Th) (g1 : Nat) (g3 : Nat) (r5 : Rw) : List Value := [.agg (ts_c0 t), .pointer (some ⟨g1, 0, none⟩), .pointer (some ⟨g3, 0, none⟩), .agg (ts_c0 t), .agg (ts_c2 t r5), .pointer (some ⟨g1, 1, none⟩), .int .i64 t.fu, .int .i64 (IntKind.wrap .i64 (t.fu - 1)), zz, zz, zz, zz, zz, zz]
def ts_b6 (t : Th) (g1 : Nat) (g3 : Nat) (r5 : Rw) : List Value := (ts_l5 t g1 g3 r5)
def ts_c3 (t : Th) (r5 : Rw) : Array Value := #[.int .i64 t.pc, .int .i64 (IntKind.wrap .i64 (t.fu - 1)), .int .i64 t.st, .int .i64 (t.R 0), .int .i64 (t.R 1), .int .i64 (t.R 2), .int .i64 (t.R 3), .int .i64 (t.R 4), .int .i64 (t.R 5), .int .i64 (t.R 6), .int .i64 (t.R 7), .int .i64 (t.R 8), .int .i64 (t.R 9), .int .i64 (t.R 10), .int .i64 (t.R 11), .int .i64 t.kd, .int .i64 t.mi, .int .i64 t.mn, r5.s, r5.b, r5.n, .int .i64 t.old]
def ts_c4 (t : Th) (r5 : Rw) : Array Value := #[.int .i64 (IntKind.wrap .i64 (t.pc + 1)), .int .i64 (IntKind.wrap .i64 (t.fu - 1)), .int .i64 t.st, .int .i64 (t.R 0), .int .i64 (t.R 1), .int .i64 (t.R 2), .int .i64 (t.R 3), .int .i64 (t.R 4), .int .i64 (t.R 5), .int .i64 (t.R 6), .int .i64 (t.R 7), .int .i64 (t.R 8), .int .i64 (t.R 9), .int .i64 (t.R 10), .int .i64 (t.R 11), .int .i64 t.kd, .int .i64 t.mi, .int .i64 t.mn, r5.s, r5.b, r5.n, .int .i64 t.old]
def ts_l9 (t : Th) (g1 : Nat) (g3 : Nat) (r5 : Rw) : List Value := [.agg (ts_c0 t), .pointer (some ⟨g1, 0, none⟩), .pointer (some ⟨g3, 0, none⟩), .agg (ts_c0 t), .agg (ts_c2 t r5), .pointer (some ⟨g1, 1, none⟩), .int .i64 t.fu, .int .i64 (IntKind.wrap .i64 (t.fu - 1)), .pointer (some ⟨g1, 1, none⟩), .pointer (some ⟨g1, 0, none⟩), .int .i64 t.pc, .int .i64 (IntKind.wrap .i64 (t.pc + 1)), .pointer (some ⟨g1, 0, none⟩), .agg (ts_c4 t r5)]
def ts_b10 (t : Th) (g1 : Nat) (g3 : Nat) (r5 : Rw) : List Value := (ts_l9 t g1 g3 r5)
set_option maxHeartbeats 8000000 in
set_option maxRecDepth 100000 in
theorem th_Start {w : World} {t : Th} {xs : List Int} {bs : List S42} {ns : List Int} (h : t.reads w xs bs ns) (hl : xs.length ≤ 1000 ∧ bs.length ≤ 1000 ∧ ns.length ≤ 1000) : Calls Try.prog 15 #[.agg t.cells] w fun e w' => ∃ As cs Ab cb An cn, e = .returned (.agg (({ t with pc := IntKind.wrap .i64 (t.pc + 1), fu := IntKind.wrap .i64 (t.fu - 1) }).rows (.slice As xs.length cs) (.slice Ab bs.length cb) (.slice An ns.length cn)).cells) ∧ (({ t with pc := IntKind.wrap .i64 (t.pc + 1), fu := IntKind.wrap .i64 (t.fu - 1) }).rows (.slice As xs.length cs) (.slice Ab bs.length cb) (.slice An ns.length cn)).owns w' w.heap.size xs bs ns ∧ Below w.heap.size w w' := by
  refine calls_of_wp Try.func15 rfl ?_
  have hW := Ws.nil w
  refine wp_seq ?_
  refine wp_region_list ?_
  obtain ⟨g1, W2, hr, hW, hbb, hge⟩ := hW.mk1 (P := Try.prog) (s := Instr.box 32 (.agg (ts_c0 t))) (ts_c0 t) 32 (by kernel_rfl)
  refine se (a' := (up (ts_b2 t g1) [])) (.pointer (some ⟨g1, 0, none⟩)) (Eq.trans (b := (do pure (Next.value (← Instr.box 32 (.agg (ts_c0 t)))) : Sem Next).run Try.prog w) (by kernel_rfl) (st_val hr)) ?_
  obtain ⟨g3, W4, hr, hW, hbb, hge⟩ := hW.mk1 (P := Try.prog) (s := Instr.alloc 32 true (.tuple #[])) ts_c1 32 (by kernel_rfl)
  refine se (a' := (up (ts_b2 t g1) [(2, .pointer (some ⟨g3, 0, none⟩))])) (.pointer (some ⟨g3, 0, none⟩)) (Eq.trans (b := (do pure (Next.value (← Instr.alloc 32 true (.tuple #[]))) : Sem Next).run Try.prog W2) (by kernel_rfl) (st_val hr)) ?_
  refine wpList_nil ?_
  refine wp_seq ?_
  refine wp_region_list ?_
  refine se (a' := (up (ts_b2 t g1) [(2, .pointer (some ⟨g3, 0, none⟩)), (3, .agg (ts_c0 t))])) (.agg (ts_c0 t)) (evA hW 1 0 Try.underlying32) ?_
  have hK5_g3 : g3 < W4.heap.size := blk_lt (hW.blk 0 _ _ _ rfl).1
  have hK5_g1 : g1 < W4.heap.size := blk_lt (hW.blk 1 _ _ _ rfl).1
  have hK5_le : w.heap.size ≤ W4.heap.size := hW.below.size
  refine st_call (th_Clone (t := (⟨t.pc, t.fu, t.st, t.R, t.kd, t.mi, t.mn, t.sv, t.bv, t.nv, t.old⟩ : Th)) (xs := xs) (bs := bs) (ns := ns) ⟨h.s.below hW.below, h.b.below hW.below, h.n.below hW.below⟩ hl) (by kernel_rfl) (by kernel_rfl) ?_
  rintro _ W5 ⟨As5, cs5, Ab5, cb5, An5, cn5, rfl, hO5, hB⟩
  have hW := hW.step hB
  have hK5 := KeepUp.refl W4.heap.size W5
  obtain ⟨r5, e5⟩ : ∃ r : Rw, r = ⟨.slice As5 xs.length cs5, .slice Ab5 bs.length cb5, .slice An5 ns.length cn5⟩ := ⟨_, rfl⟩
  refine ⟨_, (up (ts_b2 t g1) [(2, .pointer (some ⟨g3, 0, none⟩)), (3, .agg (ts_c0 t)), (4, .agg (ts_c2 t r5))]), rfl, by (try subst e5); kernel_rfl, ?_⟩
  obtain ⟨W6, hr, hW, hF⟩ := hW.storeN (P := Try.prog) (o := 0) (cs' := (ts_c2 t r5)) (L' := [(g3, 32, ts_c1), (g1, 32, (ts_c2 t r5))]) 1 rfl (ts_c2 t r5) (by (try subst e5); kernel_rfl) (Nat.le_of_ble_eq_true rfl) (by kernel_rfl) rfl 32 (by kernel_rfl)
  have hK5 := hK5.store hF (.inl hK5_g1)
  refine st_none (w' := W6) (a' := (up (ts_b2 t g1) [(2, .pointer (some ⟨g3, 0, none⟩)), (3, .agg (ts_c0 t)), (4, .agg (ts_c2 t r5))])) (by kernel_rfl) (Eq.trans (b := (do Instr.storeAt 32 (.pointer (some ⟨g1, 0, none⟩)) (.agg (ts_c2 t r5)); pure Next.skip : Sem Next).run Try.prog W5) (by kernel_rfl) (st_unit hr)) (by kernel_rfl) ?_
  refine wpList_nil ?_
  refine wp_seq ?_
  refine wp_region_list ?_
  refine skp (.pointer (some ⟨g1, 1, none⟩)) ?_
  refine sep (.int .i64 t.fu) (ev1 hW 1 1 Try.underlying3) ?_
  refine sk (a' := (up (ts_b6 t g1 g3 r5) [])) (.int .i64 (IntKind.wrap .i64 (t.fu - 1))) ?_
  refine sk (a' := (up (ts_b6 t g1 g3 r5) [(8, .pointer (some ⟨g1, 1, none⟩))])) (.pointer (some ⟨g1, 1, none⟩)) ?_
  obtain ⟨W7, hr, hW, hF⟩ := hW.store1 (P := Try.prog) (o := 1) (cs' := (ts_c3 t r5)) (L' := [(g3, 32, ts_c1), (g1, 32, (ts_c3 t r5))]) 1 rfl (.int .i64 (IntKind.wrap .i64 (t.fu - 1))) rfl (Nat.le_of_ble_eq_true rfl) (by rfl) rfl 3 (by kernel_rfl)
  have hK5 := hK5.store hF (.inl hK5_g1)
  refine st_none (w' := W7) (a' := (up (ts_b6 t g1 g3 r5) [(8, .pointer (some ⟨g1, 1, none⟩))])) (by kernel_rfl) (Eq.trans (b := (do Instr.storeAt 3 (.pointer (some ⟨g1, 1, none⟩)) (.int .i64 (IntKind.wrap .i64 (t.fu - 1))); pure Next.skip : Sem Next).run Try.prog W6) (by kernel_rfl) (st_unit hr)) (by kernel_rfl) ?_
  refine wpList_nil ?_
  refine wp_seq ?_
  refine wp_region_list ?_
  refine skp (.pointer (some ⟨g1, 0, none⟩)) ?_
  refine sep (.int .i64 t.pc) (ev1 hW 1 0 Try.underlying3) ?_
  refine sk (a' := (up (ts_b6 t g1 g3 r5) [(8, .pointer (some ⟨g1, 1, none⟩)), (9, .pointer (some ⟨g1, 0, none⟩)), (10, .int .i64 t.pc), (11, .int .i64 (IntKind.wrap .i64 (t.pc + 1)))])) (.int .i64 (IntKind.wrap .i64 (t.pc + 1))) ?_
  refine sk (a' := (up (ts_b6 t g1 g3 r5) [(8, .pointer (some ⟨g1, 1, none⟩)), (9, .pointer (some ⟨g1, 0, none⟩)), (10, .int .i64 t.pc), (11, .int .i64 (IntKind.wrap .i64 (t.pc + 1))), (12, .pointer (some ⟨g1, 0, none⟩))])) (.pointer (some ⟨g1, 0, none⟩)) ?_
  obtain ⟨W8, hr, hW, hF⟩ := hW.store1 (P := Try.prog) (o := 0) (cs' := (ts_c4 t r5)) (L' := [(g3, 32, ts_c1), (g1, 32, (ts_c4 t r5))]) 1 rfl (.int .i64 (IntKind.wrap .i64 (t.pc + 1))) rfl (Nat.le_of_ble_eq_true rfl) (by rfl) rfl 3 (by kernel_rfl)
  have hK5 := hK5.store hF (.inl hK5_g1)
  refine st_none (w' := W8) (a' := (up (ts_b6 t g1 g3 r5) [(8, .pointer (some ⟨g1, 1, none⟩)), (9, .pointer (some ⟨g1, 0, none⟩)), (10, .int .i64 t.pc), (11, .int .i64 (IntKind.wrap .i64 (t.pc + 1))), (12, .pointer (some ⟨g1, 0, none⟩))])) (by kernel_rfl) (Eq.trans (b := (do Instr.storeAt 3 (.pointer (some ⟨g1, 0, none⟩)) (.int .i64 (IntKind.wrap .i64 (t.pc + 1))); pure Next.skip : Sem Next).run Try.prog W7) (by kernel_rfl) (st_unit hr)) (by kernel_rfl) ?_
  refine wpList_nil ?_
  refine wp_seq ?_
  refine wp_region_list ?_
  refine se (a' := (up (ts_b10 t g1 g3 r5) [])) (.agg (ts_c4 t r5)) (evA hW 1 0 Try.underlying32) ?_
  obtain ⟨W9, hr, hW, hF⟩ := hW.storeN (P := Try.prog) (o := 0) (cs' := (ts_c4 t r5)) (L' := [(g3, 32, (ts_c4 t r5)), (g1, 32, (ts_c4 t r5))]) 0 rfl (ts_c4 t r5) (by (try subst e5); kernel_rfl) (Nat.le_of_ble_eq_true rfl) (by kernel_rfl) rfl 32 (by kernel_rfl)
  have hK5 := hK5.store hF (.inl hK5_g3)
  refine st_none (w' := W9) (a' := (up (ts_b10 t g1 g3 r5) [])) (by kernel_rfl) (Eq.trans (b := (do Instr.storeAt 32 (.pointer (some ⟨g3, 0, none⟩)) (.agg (ts_c4 t r5)); pure Next.skip : Sem Next).run Try.prog W8) (by kernel_rfl) (st_unit hr)) (by kernel_rfl) ?_
  refine wpList_nil ?_
  refine wp_ret ?_
  (try simp only [Exit.then, Exit.inBlock])
  change bodyPost Try.prog Try.f15 _ .ret _ _
  refine bodyPost_ret (results_single rfl (.cell g3 32 _ (0, 0) _ (by kernel_rfl) (hW.blk 0 _ _ _ rfl).1 Try.underlying32 rfl (by kernel_rfl) .nil)) rfl ?_
  subst e5
  exact ⟨As5, cs5, Ab5, cb5, An5, cn5, rfl, ⟨Kd.R_lower (hK5.R hO5.s) hK5_le, Kd.R_lower (hK5.R hO5.b) hK5_le, Kd.R_lower (hK5.R hO5.n) hK5_le⟩, hW.below⟩
def tt_c0 (t : Th) : Array Value := #[.int .i64 t.pc, .int .i64 t.fu, .int .i64 t.st, .int .i64 (t.R 0), .int .i64 (t.R 1), .int .i64 (t.R 2), .int .i64 (t.R 3), .int .i64 (t.R 4), .int .i64 (t.R 5), .int .i64 (t.R 6), .int .i64 (t.R 7), .int .i64 (t.R 8), .int .i64 (t.R 9), .int .i64 (t.R 10), .int .i64 (t.R 11), .int .i64 t.kd, .int .i64 t.mi, .int .i64 t.mn, t.sv, t.bv, t.nv, .int .i64 t.old]
def tt_l1 (t : Th) (r : Int) (n : Int) (c : Int) (g : Int) (g1 : Nat) : List Value := [.agg (tt_c0 t), .int .i64 r, .agg #[.int .i64 n, .int .i64 c, .int .i64 g], .pointer (some ⟨g1, 0, none⟩), zz, zz, zz, zz, zz, zz, zz, zz, zz, zz, zz, zz]
def tt_b2 (t : Th) (r : Int) (n : Int) (c : Int) (g : Int) (g1 : Nat) : List Value := (tt_l1 t r n c g g1)
def tt_c1 : Array Value := #[.int .i64 0, .int .i64 0, .int .i64 0, .int .i64 0, .int .i64 0, .int .i64 0, .int .i64 0, .int .i64 0, .int .i64 0, .int .i64 0, .int .i64 0, .int .i64 0, .int .i64 0, .int .i64 0, .int .i64 0, .int .i64 0, .int .i64 0, .int .i64 0, .slice none 0 0, .slice none 0 0, .slice none 0 0, .int .i64 0]
def tt_c2 (t : Th) (r7 : Rw) : Array Value := #[.int .i64 t.pc, .int .i64 t.fu, .int .i64 t.st, .int .i64 (t.R 0), .int .i64 (t.R 1), .int .i64 (t.R 2), .int .i64 (t.R 3), .int .i64 (t.R 4), .int .i64 (t.R 5), .int .i64 (t.R 6), .int .i64 (t.R 7), .int .i64 (t.R 8), .int .i64 (t.R 9), .int .i64 (t.R 10), .int .i64 (t.R 11), .int .i64 t.kd, .int .i64 t.mi, .int .i64 t.mn, r7.s, r7.b, r7.n, .int .i64 t.old]
def tt_l5 (t : Th) (r : Int) (n : Int) (c : Int) (g : Int) (g1 : Nat) (g3 : Nat) (g5 : Nat) (r7 : Rw) : List Value := [.agg (tt_c0 t), .int .i64 r, .agg #[.int .i64 n, .int .i64 c, .int .i64 g], .pointer (some ⟨g1, 0, none⟩), zz, .pointer (some ⟨g3, 0, none⟩), .pointer (some ⟨g5, 0, none⟩), .agg (tt_c0 t), .agg (tt_c2 t r7), .int .i64 r, .bool false, zz, zz, zz, zz, zz]
def tt_b6 (t : Th) (r : Int) (n : Int) (c : Int) (g : Int) (g1 : Nat) (g3 : Nat) (g5 : Nat) (r7 : Rw) : List Value := (tt_l5 t r n c g g1 g3 g5 r7)
def tt_l7 (t : Th) (n : Int) (c : Int) (g : Int) (g1 : Nat) (g3 : Nat) (g5 : Nat) (r7 : Rw) : List Value := [.agg (tt_c0 t), .int .i64 0, .agg #[.int .i64 n, .int .i64 c, .int .i64 g], .pointer (some ⟨g1, 0, none⟩), zz, .pointer (some ⟨g3, 0, none⟩), .pointer (some ⟨g5, 0, none⟩), .agg (tt_c0 t), .agg (tt_c2 t r7), .int .i64 0, zz, zz, zz, zz, zz, zz]
def tt_b8 (t : Th) (n : Int) (c : Int) (g : Int) (g1 : Nat) (g3 : Nat) (g5 : Nat) (r7 : Rw) : List Value := (tt_l7 t n c g g1 g3 g5 r7)
def tt_c3 (t : Th) (n : Int) (c : Int) (g : Int) (r7 : Rw) : Array Value := #[.int .i64 t.pc, .int .i64 t.fu, .int .i64 t.st, .int .i64 n, .int .i64 c, .int .i64 g, .int .i64 (t.R 3), .int .i64 (t.R 4), .int .i64 (t.R 5), .int .i64 (t.R 6), .int .i64 (t.R 7), .int .i64 (t.R 8), .int .i64 (t.R 9), .int .i64 (t.R 10), .int .i64 (t.R 11), .int .i64 t.kd, .int .i64 t.mi, .int .i64 t.mn, r7.s, r7.b, r7.n, .int .i64 t.old]
def tt_l10 (t : Th) (n : Int) (c : Int) (g : Int) (g1 : Nat) (g3 : Nat) (g5 : Nat) (r7 : Rw) : List Value := [.agg (tt_c0 t), .int .i64 0, .agg #[.int .i64 n, .int .i64 c, .int .i64 g], .pointer (some ⟨g1, 0, none⟩), zz, .pointer (some ⟨g3, 0, none⟩), .pointer (some ⟨g5, 0, none⟩), .agg (tt_c0 t), .agg (tt_c2 t r7), .int .i64 0, .bool true, .int .i64 0, .agg #[.int .i64 n, .int .i64 c, .int .i64 g], .pointer (some ⟨g1, 3, none⟩), .pointer (some ⟨g1, 3, none⟩), .agg (tt_c3 t n c g r7)]
def tt_b11 (t : Th) (n : Int) (c : Int) (g : Int) (g1 : Nat) (g3 : Nat) (g5 : Nat) (r7 : Rw) : List Value := (tt_l10 t n c g g1 g3 g5 r7)
def tt_l12 (t : Th) (n : Int) (c : Int) (g : Int) (g1 : Nat) (g3 : Nat) (g5 : Nat) (r7 : Rw) : List Value := [.agg (tt_c0 t), .int .i64 1, .agg #[.int .i64 n, .int .i64 c, .int .i64 g], .pointer (some ⟨g1, 0, none⟩), zz, .pointer (some ⟨g3, 0, none⟩), .pointer (some ⟨g5, 0, none⟩), .agg (tt_c0 t), .agg (tt_c2 t r7), .int .i64 1, zz, zz, zz, zz, zz, zz]
def tt_b13 (t : Th) (n : Int) (c : Int) (g : Int) (g1 : Nat) (g3 : Nat) (g5 : Nat) (r7 : Rw) : List Value := (tt_l12 t n c g g1 g3 g5 r7)
def tt_c4 (t : Th) (n : Int) (c : Int) (g : Int) (r7 : Rw) : Array Value := #[.int .i64 t.pc, .int .i64 t.fu, .int .i64 t.st, .int .i64 (t.R 0), .int .i64 (t.R 1), .int .i64 (t.R 2), .int .i64 n, .int .i64 c, .int .i64 g, .int .i64 (t.R 6), .int .i64 (t.R 7), .int .i64 (t.R 8), .int .i64 (t.R 9), .int .i64 (t.R 10), .int .i64 (t.R 11), .int .i64 t.kd, .int .i64 t.mi, .int .i64 t.mn, r7.s, r7.b, r7.n, .int .i64 t.old]
def tt_l15 (t : Th) (n : Int) (c : Int) (g : Int) (g1 : Nat) (g3 : Nat) (g5 : Nat) (r7 : Rw) : List Value := [.agg (tt_c0 t), .int .i64 1, .agg #[.int .i64 n, .int .i64 c, .int .i64 g], .pointer (some ⟨g1, 0, none⟩), zz, .pointer (some ⟨g3, 0, none⟩), .pointer (some ⟨g5, 0, none⟩), .agg (tt_c0 t), .agg (tt_c2 t r7), .int .i64 1, .bool true, .int .i64 1, .agg #[.int .i64 n, .int .i64 c, .int .i64 g], .pointer (some ⟨g1, 3, none⟩), .pointer (some ⟨g1, 6, none⟩), .agg (tt_c4 t n c g r7)]
def tt_b16 (t : Th) (n : Int) (c : Int) (g : Int) (g1 : Nat) (g3 : Nat) (g5 : Nat) (r7 : Rw) : List Value := (tt_l15 t n c g g1 g3 g5 r7)
def tt_l17 (t : Th) (n : Int) (c : Int) (g : Int) (g1 : Nat) (g3 : Nat) (g5 : Nat) (r7 : Rw) : List Value := [.agg (tt_c0 t), .int .i64 2, .agg #[.int .i64 n, .int .i64 c, .int .i64 g], .pointer (some ⟨g1, 0, none⟩), zz, .pointer (some ⟨g3, 0, none⟩), .pointer (some ⟨g5, 0, none⟩), .agg (tt_c0 t), .agg (tt_c2 t r7), .int .i64 2, zz, zz, zz, zz, zz, zz]
def tt_b18 (t : Th) (n : Int) (c : Int) (g : Int) (g1 : Nat) (g3 : Nat) (g5 : Nat) (r7 : Rw) : List Value := (tt_l17 t n c g g1 g3 g5 r7)
def tt_c5 (t : Th) (n : Int) (c : Int) (g : Int) (r7 : Rw) : Array Value := #[.int .i64 t.pc, .int .i64 t.fu, .int .i64 t.st, .int .i64 (t.R 0), .int .i64 (t.R 1), .int .i64 (t.R 2), .int .i64 (t.R 3), .int .i64 (t.R 4), .int .i64 (t.R 5), .int .i64 n, .int .i64 c, .int .i64 g, .int .i64 (t.R 9), .int .i64 (t.R 10), .int .i64 (t.R 11), .int .i64 t.kd, .int .i64 t.mi, .int .i64 t.mn, r7.s, r7.b, r7.n, .int .i64 t.old]
def tt_l20 (t : Th) (n : Int) (c : Int) (g : Int) (g1 : Nat) (g3 : Nat) (g5 : Nat) (r7 : Rw) : List Value := [.agg (tt_c0 t), .int .i64 2, .agg #[.int .i64 n, .int .i64 c, .int .i64 g], .pointer (some ⟨g1, 0, none⟩), zz, .pointer (some ⟨g3, 0, none⟩), .pointer (some ⟨g5, 0, none⟩), .agg (tt_c0 t), .agg (tt_c2 t r7), .int .i64 2, .bool true, .int .i64 2, .agg #[.int .i64 n, .int .i64 c, .int .i64 g], .pointer (some ⟨g1, 3, none⟩), .pointer (some ⟨g1, 9, none⟩), .agg (tt_c5 t n c g r7)]
def tt_b21 (t : Th) (n : Int) (c : Int) (g : Int) (g1 : Nat) (g3 : Nat) (g5 : Nat) (r7 : Rw) : List Value := (tt_l20 t n c g g1 g3 g5 r7)
def tt_l22 (t : Th) (n : Int) (c : Int) (g : Int) (g1 : Nat) (g3 : Nat) (g5 : Nat) (r7 : Rw) : List Value := [.agg (tt_c0 t), .int .i64 3, .agg #[.int .i64 n, .int .i64 c, .int .i64 g], .pointer (some ⟨g1, 0, none⟩), zz, .pointer (some ⟨g3, 0, none⟩), .pointer (some ⟨g5, 0, none⟩), .agg (tt_c0 t), .agg (tt_c2 t r7), .int .i64 3, zz, zz, zz, zz, zz, zz]
def tt_b23 (t : Th) (n : Int) (c : Int) (g : Int) (g1 : Nat) (g3 : Nat) (g5 : Nat) (r7 : Rw) : List Value := (tt_l22 t n c g g1 g3 g5 r7)
def tt_c6 (t : Th) (n : Int) (c : Int) (g : Int) (r7 : Rw) : Array Value := #[.int .i64 t.pc, .int .i64 t.fu, .int .i64 t.st, .int .i64 (t.R 0), .int .i64 (t.R 1), .int .i64 (t.R 2), .int .i64 (t.R 3), .int .i64 (t.R 4), .int .i64 (t.R 5), .int .i64 (t.R 6), .int .i64 (t.R 7), .int .i64 (t.R 8), .int .i64 n, .int .i64 c, .int .i64 g, .int .i64 t.kd, .int .i64 t.mi, .int .i64 t.mn, r7.s, r7.b, r7.n, .int .i64 t.old]
def tt_l25 (t : Th) (n : Int) (c : Int) (g : Int) (g1 : Nat) (g3 : Nat) (g5 : Nat) (r7 : Rw) : List Value := [.agg (tt_c0 t), .int .i64 3, .agg #[.int .i64 n, .int .i64 c, .int .i64 g], .pointer (some ⟨g1, 0, none⟩), zz, .pointer (some ⟨g3, 0, none⟩), .pointer (some ⟨g5, 0, none⟩), .agg (tt_c0 t), .agg (tt_c2 t r7), .int .i64 3, .bool true, .int .i64 3, .agg #[.int .i64 n, .int .i64 c, .int .i64 g], .pointer (some ⟨g1, 3, none⟩), .pointer (some ⟨g1, 12, none⟩), .agg (tt_c6 t n c g r7)]
def tt_b26 (t : Th) (n : Int) (c : Int) (g : Int) (g1 : Nat) (g3 : Nat) (g5 : Nat) (r7 : Rw) : List Value := (tt_l25 t n c g g1 g3 g5 r7)
set_option maxHeartbeats 8000000 in
set_option maxRecDepth 100000 in
theorem th_Set {w : World} {t : Th} {xs : List Int} {bs : List S42} {ns : List Int} (h : t.reads w xs bs ns) (hl : xs.length ≤ 1000 ∧ bs.length ≤ 1000 ∧ ns.length ≤ 1000) (r n c g : Int) : Calls Try.prog 17 #[.agg t.cells, .int .i64 r, .agg #[.int .i64 n, .int .i64 c, .int .i64 g]] w fun e w' => ∃ As cs Ab cb An cn, e = .returned (.agg (({ t with R := setR t.R r n c g }).rows (.slice As xs.length cs) (.slice Ab bs.length cb) (.slice An ns.length cn)).cells) ∧ (({ t with R := setR t.R r n c g }).rows (.slice As xs.length cs) (.slice Ab bs.length cb) (.slice An ns.length cn)).owns w' w.heap.size xs bs ns ∧ Below w.heap.size w w' := by
  have hc : ¬ (0 ≤ r ∧ r ≤ 3) ∨ r = 0 ∨ r = 1 ∨ r = 2 ∨ r = 3 := by omega
  refine calls_of_wp Try.func17 rfl ?_
  have hW := Ws.nil w
  refine wp_seq ?_
  refine wp_region_list ?_
  obtain ⟨g1, W2, hr, hW, hbb, hge⟩ := hW.mk1 (P := Try.prog) (s := Instr.box 32 (.agg (tt_c0 t))) (tt_c0 t) 32 (by kernel_rfl)
  refine se (a' := (up (tt_b2 t r n c g g1) [])) (.pointer (some ⟨g1, 0, none⟩)) (Eq.trans (b := (do pure (Next.value (← Instr.box 32 (.agg (tt_c0 t)))) : Sem Next).run Try.prog w) (by kernel_rfl) (st_val hr)) ?_
  obtain ⟨g3, W4, hr, hW, hbb, hge⟩ := hW.mk1 (P := Try.prog) (s := Instr.box 25 (.agg #[.int .i64 n, .int .i64 c, .int .i64 g])) #[.int .i64 n, .int .i64 c, .int .i64 g] 25 (by kernel_rfl)
  refine se (a' := (up (tt_b2 t r n c g g1) [(5, .pointer (some ⟨g3, 0, none⟩))])) (.pointer (some ⟨g3, 0, none⟩)) (Eq.trans (b := (do pure (Next.value (← Instr.box 25 (.agg #[.int .i64 n, .int .i64 c, .int .i64 g]))) : Sem Next).run Try.prog W2) (by kernel_rfl) (st_val hr)) ?_
  obtain ⟨g5, W6, hr, hW, hbb, hge⟩ := hW.mk1 (P := Try.prog) (s := Instr.alloc 32 true (.tuple #[])) tt_c1 32 (by kernel_rfl)
  refine se (a' := (up (tt_b2 t r n c g g1) [(5, .pointer (some ⟨g3, 0, none⟩)), (6, .pointer (some ⟨g5, 0, none⟩))])) (.pointer (some ⟨g5, 0, none⟩)) (Eq.trans (b := (do pure (Next.value (← Instr.alloc 32 true (.tuple #[]))) : Sem Next).run Try.prog W4) (by kernel_rfl) (st_val hr)) ?_
  refine wpList_nil ?_
  refine wp_seq ?_
  refine wp_region_list ?_
  refine se (a' := (up (tt_b2 t r n c g g1) [(5, .pointer (some ⟨g3, 0, none⟩)), (6, .pointer (some ⟨g5, 0, none⟩)), (7, .agg (tt_c0 t))])) (.agg (tt_c0 t)) (evA hW 2 0 Try.underlying32) ?_
  have hK7_g5 : g5 < W6.heap.size := blk_lt (hW.blk 0 _ _ _ rfl).1
  have hK7_g3 : g3 < W6.heap.size := blk_lt (hW.blk 1 _ _ _ rfl).1
  have hK7_g1 : g1 < W6.heap.size := blk_lt (hW.blk 2 _ _ _ rfl).1
  have hK7_le : w.heap.size ≤ W6.heap.size := hW.below.size
  refine st_call (th_Clone (t := (⟨t.pc, t.fu, t.st, t.R, t.kd, t.mi, t.mn, t.sv, t.bv, t.nv, t.old⟩ : Th)) (xs := xs) (bs := bs) (ns := ns) ⟨h.s.below hW.below, h.b.below hW.below, h.n.below hW.below⟩ hl) (by kernel_rfl) (by kernel_rfl) ?_
  rintro _ W7 ⟨As7, cs7, Ab7, cb7, An7, cn7, rfl, hO7, hB⟩
  have hW := hW.step hB
  have hK7 := KeepUp.refl W6.heap.size W7
  obtain ⟨r7, e7⟩ : ∃ r : Rw, r = ⟨.slice As7 xs.length cs7, .slice Ab7 bs.length cb7, .slice An7 ns.length cn7⟩ := ⟨_, rfl⟩
  refine ⟨_, (up (tt_b2 t r n c g g1) [(5, .pointer (some ⟨g3, 0, none⟩)), (6, .pointer (some ⟨g5, 0, none⟩)), (7, .agg (tt_c0 t)), (8, .agg (tt_c2 t r7))]), rfl, by (try subst e7); kernel_rfl, ?_⟩
  obtain ⟨W8, hr, hW, hF⟩ := hW.storeN (P := Try.prog) (o := 0) (cs' := (tt_c2 t r7)) (L' := [(g5, 32, tt_c1), (g3, 25, #[.int .i64 n, .int .i64 c, .int .i64 g]), (g1, 32, (tt_c2 t r7))]) 2 rfl (tt_c2 t r7) (by (try subst e7); kernel_rfl) (Nat.le_of_ble_eq_true rfl) (by kernel_rfl) rfl 32 (by kernel_rfl)
  have hK7 := hK7.store hF (.inl hK7_g1)
  refine st_none (w' := W8) (a' := (up (tt_b2 t r n c g g1) [(5, .pointer (some ⟨g3, 0, none⟩)), (6, .pointer (some ⟨g5, 0, none⟩)), (7, .agg (tt_c0 t)), (8, .agg (tt_c2 t r7))])) (by kernel_rfl) (Eq.trans (b := (do Instr.storeAt 32 (.pointer (some ⟨g1, 0, none⟩)) (.agg (tt_c2 t r7)); pure Next.skip : Sem Next).run Try.prog W7) (by kernel_rfl) (st_unit hr)) (by kernel_rfl) ?_
  refine wpList_nil ?_
  refine wp_seq ?_
  refine wp_seq ?_
  rcases hc with hrr | rfl | rfl | rfl | rfl
  · skip
    refine wp_region_list ?_
    refine sk (a' := (up (tt_b2 t r n c g g1) [(5, .pointer (some ⟨g3, 0, none⟩)), (6, .pointer (some ⟨g5, 0, none⟩)), (7, .agg (tt_c0 t)), (8, .agg (tt_c2 t r7)), (9, .int .i64 r)])) (.int .i64 r) ?_
    refine st_call (in_calls r 0 3 false (decide_eq_false (by omega)) W8) (by kernel_rfl) (by kernel_rfl) ?_
    rintro _ W9 ⟨rfl, hB⟩
    have hW := hW.step hB
    have hK7 := hK7.below hB
    refine ⟨_, (up (tt_b6 t r n c g g1 g3 g5 r7) []), rfl, by (try subst e7); kernel_rfl, ?_⟩
    refine wpList_nil ?_
    refine wp_cond (t := false) (by kernel_rfl) ?_
    refine wp_skip ?_
    refine wp_seq ?_
    refine wp_region_list ?_
    refine se (a' := (up (tt_b6 t r n c g g1 g3 g5 r7) [(15, .agg (tt_c2 t r7))])) (.agg (tt_c2 t r7)) (evA hW 2 0 Try.underlying32) ?_
    obtain ⟨W10, hr, hW, hF⟩ := hW.storeN (P := Try.prog) (o := 0) (cs' := (tt_c2 t r7)) (L' := [(g5, 32, (tt_c2 t r7)), (g3, 25, #[.int .i64 n, .int .i64 c, .int .i64 g]), (g1, 32, (tt_c2 t r7))]) 0 rfl (tt_c2 t r7) (by (try subst e7); kernel_rfl) (Nat.le_of_ble_eq_true rfl) (by kernel_rfl) rfl 32 (by kernel_rfl)
    have hK7 := hK7.store hF (.inl hK7_g5)
    refine st_none (w' := W10) (a' := (up (tt_b6 t r n c g g1 g3 g5 r7) [(15, .agg (tt_c2 t r7))])) (by kernel_rfl) (Eq.trans (b := (do Instr.storeAt 32 (.pointer (some ⟨g5, 0, none⟩)) (.agg (tt_c2 t r7)); pure Next.skip : Sem Next).run Try.prog W9) (by kernel_rfl) (st_unit hr)) (by kernel_rfl) ?_
    refine wpList_nil ?_
    refine wp_ret ?_
    (try simp only [Exit.then, Exit.inBlock])
    change bodyPost Try.prog Try.f17 _ .ret _ _
    refine bodyPost_ret (results_single rfl (.cell g5 32 _ (0, 0) _ (by kernel_rfl) (hW.blk 0 _ _ _ rfl).1 Try.underlying32 rfl (by kernel_rfl) .nil)) rfl ?_
    subst e7
    refine ⟨As7, cs7, Ab7, cb7, An7, cn7, ?_, ⟨Kd.R_lower (hK7.R hO7.s) hK7_le, Kd.R_lower (hK7.R hO7.b) hK7_le, Kd.R_lower (hK7.R hO7.n) hK7_le⟩, hW.below⟩
    unfold setR
    rw [if_neg (by omega)]
    rfl
  · skip
    refine wp_region_list ?_
    refine sk (a' := (up (tt_b8 t n c g g1 g3 g5 r7) [])) (.int .i64 0) ?_
    refine st_call (in_calls 0 0 3 true (decide_eq_true (by omega)) W8) (by kernel_rfl) (by kernel_rfl) ?_
    rintro _ W9 ⟨rfl, hB⟩
    have hW := hW.step hB
    have hK7 := hK7.below hB
    refine ⟨_, (up (tt_b8 t n c g g1 g3 g5 r7) [(10, .bool true)]), rfl, by (try subst e7); kernel_rfl, ?_⟩
    refine wpList_nil ?_
    refine wp_cond (t := true) (by kernel_rfl) ?_
    refine wp_region_list ?_
    refine skp (.int .i64 0) ?_
    refine sep (.agg #[.int .i64 n, .int .i64 c, .int .i64 g]) (evA hW 1 0 Try.underlying25) ?_
    refine sk (a' := (up (tt_b8 t n c g g1 g3 g5 r7) [(10, .bool true), (11, .int .i64 0), (12, .agg #[.int .i64 n, .int .i64 c, .int .i64 g]), (13, .pointer (some ⟨g1, 3, none⟩))])) (.pointer (some ⟨g1, 3, none⟩)) ?_
    refine sk (a' := (up (tt_b8 t n c g g1 g3 g5 r7) [(10, .bool true), (11, .int .i64 0), (12, .agg #[.int .i64 n, .int .i64 c, .int .i64 g]), (13, .pointer (some ⟨g1, 3, none⟩)), (14, .pointer (some ⟨g1, 3, none⟩))])) (.pointer (some ⟨g1, 3, none⟩)) ?_
    obtain ⟨W10, hr, hW, hF⟩ := hW.storeN (P := Try.prog) (o := 3) (cs' := (tt_c3 t n c g r7)) (L' := [(g5, 32, tt_c1), (g3, 25, #[.int .i64 n, .int .i64 c, .int .i64 g]), (g1, 32, (tt_c3 t n c g r7))]) 2 rfl #[.int .i64 n, .int .i64 c, .int .i64 g] (by (try subst e7); kernel_rfl) (Nat.le_of_ble_eq_true rfl) (by kernel_rfl) rfl 25 (by kernel_rfl)
    have hK7 := hK7.store hF (.inl hK7_g1)
    refine st_none (w' := W10) (a' := (up (tt_b8 t n c g g1 g3 g5 r7) [(10, .bool true), (11, .int .i64 0), (12, .agg #[.int .i64 n, .int .i64 c, .int .i64 g]), (13, .pointer (some ⟨g1, 3, none⟩)), (14, .pointer (some ⟨g1, 3, none⟩))])) (by kernel_rfl) (Eq.trans (b := (do Instr.storeAt 25 (.pointer (some ⟨g1, 3, none⟩)) (.agg #[.int .i64 n, .int .i64 c, .int .i64 g]); pure Next.skip : Sem Next).run Try.prog W9) (by kernel_rfl) (st_unit hr)) (by kernel_rfl) ?_
    refine wpList_nil ?_
    refine wp_seq ?_
    refine wp_region_list ?_
    refine se (a' := (up (tt_b11 t n c g g1 g3 g5 r7) [])) (.agg (tt_c3 t n c g r7)) (evA hW 2 0 Try.underlying32) ?_
    obtain ⟨W11, hr, hW, hF⟩ := hW.storeN (P := Try.prog) (o := 0) (cs' := (tt_c3 t n c g r7)) (L' := [(g5, 32, (tt_c3 t n c g r7)), (g3, 25, #[.int .i64 n, .int .i64 c, .int .i64 g]), (g1, 32, (tt_c3 t n c g r7))]) 0 rfl (tt_c3 t n c g r7) (by (try subst e7); kernel_rfl) (Nat.le_of_ble_eq_true rfl) (by kernel_rfl) rfl 32 (by kernel_rfl)
    have hK7 := hK7.store hF (.inl hK7_g5)
    refine st_none (w' := W11) (a' := (up (tt_b11 t n c g g1 g3 g5 r7) [])) (by kernel_rfl) (Eq.trans (b := (do Instr.storeAt 32 (.pointer (some ⟨g5, 0, none⟩)) (.agg (tt_c3 t n c g r7)); pure Next.skip : Sem Next).run Try.prog W10) (by kernel_rfl) (st_unit hr)) (by kernel_rfl) ?_
    refine wpList_nil ?_
    refine wp_ret ?_
    (try simp only [Exit.then, Exit.inBlock])
    change bodyPost Try.prog Try.f17 _ .ret _ _
    refine bodyPost_ret (results_single rfl (.cell g5 32 _ (0, 0) _ (by kernel_rfl) (hW.blk 0 _ _ _ rfl).1 Try.underlying32 rfl (by kernel_rfl) .nil)) rfl ?_
    subst e7
    refine ⟨As7, cs7, Ab7, cb7, An7, cn7, ?_, ⟨Kd.R_lower (hK7.R hO7.s) hK7_le, Kd.R_lower (hK7.R hO7.b) hK7_le, Kd.R_lower (hK7.R hO7.n) hK7_le⟩, hW.below⟩
    kernel_rfl
  · skip
    refine wp_region_list ?_
    refine sk (a' := (up (tt_b13 t n c g g1 g3 g5 r7) [])) (.int .i64 1) ?_
    refine st_call (in_calls 1 0 3 true (decide_eq_true (by omega)) W8) (by kernel_rfl) (by kernel_rfl) ?_
    rintro _ W9 ⟨rfl, hB⟩
    have hW := hW.step hB
    have hK7 := hK7.below hB
    refine ⟨_, (up (tt_b13 t n c g g1 g3 g5 r7) [(10, .bool true)]), rfl, by (try subst e7); kernel_rfl, ?_⟩
    refine wpList_nil ?_
    refine wp_cond (t := true) (by kernel_rfl) ?_
    refine wp_region_list ?_
    refine skp (.int .i64 1) ?_
    refine sep (.agg #[.int .i64 n, .int .i64 c, .int .i64 g]) (evA hW 1 0 Try.underlying25) ?_
    refine sk (a' := (up (tt_b13 t n c g g1 g3 g5 r7) [(10, .bool true), (11, .int .i64 1), (12, .agg #[.int .i64 n, .int .i64 c, .int .i64 g]), (13, .pointer (some ⟨g1, 3, none⟩))])) (.pointer (some ⟨g1, 3, none⟩)) ?_
    refine sk (a' := (up (tt_b13 t n c g g1 g3 g5 r7) [(10, .bool true), (11, .int .i64 1), (12, .agg #[.int .i64 n, .int .i64 c, .int .i64 g]), (13, .pointer (some ⟨g1, 3, none⟩)), (14, .pointer (some ⟨g1, 6, none⟩))])) (.pointer (some ⟨g1, 6, none⟩)) ?_
    obtain ⟨W10, hr, hW, hF⟩ := hW.storeN (P := Try.prog) (o := 6) (cs' := (tt_c4 t n c g r7)) (L' := [(g5, 32, tt_c1), (g3, 25, #[.int .i64 n, .int .i64 c, .int .i64 g]), (g1, 32, (tt_c4 t n c g r7))]) 2 rfl #[.int .i64 n, .int .i64 c, .int .i64 g] (by (try subst e7); kernel_rfl) (Nat.le_of_ble_eq_true rfl) (by kernel_rfl) rfl 25 (by kernel_rfl)
    have hK7 := hK7.store hF (.inl hK7_g1)
    refine st_none (w' := W10) (a' := (up (tt_b13 t n c g g1 g3 g5 r7) [(10, .bool true), (11, .int .i64 1), (12, .agg #[.int .i64 n, .int .i64 c, .int .i64 g]), (13, .pointer (some ⟨g1, 3, none⟩)), (14, .pointer (some ⟨g1, 6, none⟩))])) (by kernel_rfl) (Eq.trans (b := (do Instr.storeAt 25 (.pointer (some ⟨g1, 6, none⟩)) (.agg #[.int .i64 n, .int .i64 c, .int .i64 g]); pure Next.skip : Sem Next).run Try.prog W9) (by kernel_rfl) (st_unit hr)) (by kernel_rfl) ?_
    refine wpList_nil ?_
    refine wp_seq ?_
    refine wp_region_list ?_
    refine se (a' := (up (tt_b16 t n c g g1 g3 g5 r7) [])) (.agg (tt_c4 t n c g r7)) (evA hW 2 0 Try.underlying32) ?_
    obtain ⟨W11, hr, hW, hF⟩ := hW.storeN (P := Try.prog) (o := 0) (cs' := (tt_c4 t n c g r7)) (L' := [(g5, 32, (tt_c4 t n c g r7)), (g3, 25, #[.int .i64 n, .int .i64 c, .int .i64 g]), (g1, 32, (tt_c4 t n c g r7))]) 0 rfl (tt_c4 t n c g r7) (by (try subst e7); kernel_rfl) (Nat.le_of_ble_eq_true rfl) (by kernel_rfl) rfl 32 (by kernel_rfl)
    have hK7 := hK7.store hF (.inl hK7_g5)
    refine st_none (w' := W11) (a' := (up (tt_b16 t n c g g1 g3 g5 r7) [])) (by kernel_rfl) (Eq.trans (b := (do Instr.storeAt 32 (.pointer (some ⟨g5, 0, none⟩)) (.agg (tt_c4 t n c g r7)); pure Next.skip : Sem Next).run Try.prog W10) (by kernel_rfl) (st_unit hr)) (by kernel_rfl) ?_
    refine wpList_nil ?_
    refine wp_ret ?_
    (try simp only [Exit.then, Exit.inBlock])
    change bodyPost Try.prog Try.f17 _ .ret _ _
    refine bodyPost_ret (results_single rfl (.cell g5 32 _ (0, 0) _ (by kernel_rfl) (hW.blk 0 _ _ _ rfl).1 Try.underlying32 rfl (by kernel_rfl) .nil)) rfl ?_
    subst e7
    refine ⟨As7, cs7, Ab7, cb7, An7, cn7, ?_, ⟨Kd.R_lower (hK7.R hO7.s) hK7_le, Kd.R_lower (hK7.R hO7.b) hK7_le, Kd.R_lower (hK7.R hO7.n) hK7_le⟩, hW.below⟩
    kernel_rfl
  · skip
    refine wp_region_list ?_
    refine sk (a' := (up (tt_b18 t n c g g1 g3 g5 r7) [])) (.int .i64 2) ?_
    refine st_call (in_calls 2 0 3 true (decide_eq_true (by omega)) W8) (by kernel_rfl) (by kernel_rfl) ?_
    rintro _ W9 ⟨rfl, hB⟩
    have hW := hW.step hB
    have hK7 := hK7.below hB
    refine ⟨_, (up (tt_b18 t n c g g1 g3 g5 r7) [(10, .bool true)]), rfl, by (try subst e7); kernel_rfl, ?_⟩
    refine wpList_nil ?_
    refine wp_cond (t := true) (by kernel_rfl) ?_
    refine wp_region_list ?_
    refine skp (.int .i64 2) ?_
    refine sep (.agg #[.int .i64 n, .int .i64 c, .int .i64 g]) (evA hW 1 0 Try.underlying25) ?_
    refine sk (a' := (up (tt_b18 t n c g g1 g3 g5 r7) [(10, .bool true), (11, .int .i64 2), (12, .agg #[.int .i64 n, .int .i64 c, .int .i64 g]), (13, .pointer (some ⟨g1, 3, none⟩))])) (.pointer (some ⟨g1, 3, none⟩)) ?_
    refine sk (a' := (up (tt_b18 t n c g g1 g3 g5 r7) [(10, .bool true), (11, .int .i64 2), (12, .agg #[.int .i64 n, .int .i64 c, .int .i64 g]), (13, .pointer (some ⟨g1, 3, none⟩)), (14, .pointer (some ⟨g1, 9, none⟩))])) (.pointer (some ⟨g1, 9, none⟩)) ?_
    obtain ⟨W10, hr, hW, hF⟩ := hW.storeN (P := Try.prog) (o := 9) (cs' := (tt_c5 t n c g r7)) (L' := [(g5, 32, tt_c1), (g3, 25, #[.int .i64 n, .int .i64 c, .int .i64 g]), (g1, 32, (tt_c5 t n c g r7))]) 2 rfl #[.int .i64 n, .int .i64 c, .int .i64 g] (by (try subst e7); kernel_rfl) (Nat.le_of_ble_eq_true rfl) (by kernel_rfl) rfl 25 (by kernel_rfl)
    have hK7 := hK7.store hF (.inl hK7_g1)
    refine st_none (w' := W10) (a' := (up (tt_b18 t n c g g1 g3 g5 r7) [(10, .bool true), (11, .int .i64 2), (12, .agg #[.int .i64 n, .int .i64 c, .int .i64 g]), (13, .pointer (some ⟨g1, 3, none⟩)), (14, .pointer (some ⟨g1, 9, none⟩))])) (by kernel_rfl) (Eq.trans (b := (do Instr.storeAt 25 (.pointer (some ⟨g1, 9, none⟩)) (.agg #[.int .i64 n, .int .i64 c, .int .i64 g]); pure Next.skip : Sem Next).run Try.prog W9) (by kernel_rfl) (st_unit hr)) (by kernel_rfl) ?_
    refine wpList_nil ?_
    refine wp_seq ?_
    refine wp_region_list ?_
    refine se (a' := (up (tt_b21 t n c g g1 g3 g5 r7) [])) (.agg (tt_c5 t n c g r7)) (evA hW 2 0 Try.underlying32) ?_
    obtain ⟨W11, hr, hW, hF⟩ := hW.storeN (P := Try.prog) (o := 0) (cs' := (tt_c5 t n c g r7)) (L' := [(g5, 32, (tt_c5 t n c g r7)), (g3, 25, #[.int .i64 n, .int .i64 c, .int .i64 g]), (g1, 32, (tt_c5 t n c g r7))]) 0 rfl (tt_c5 t n c g r7) (by (try subst e7); kernel_rfl) (Nat.le_of_ble_eq_true rfl) (by kernel_rfl) rfl 32 (by kernel_rfl)
    have hK7 := hK7.store hF (.inl hK7_g5)
    refine st_none (w' := W11) (a' := (up (tt_b21 t n c g g1 g3 g5 r7) [])) (by kernel_rfl) (Eq.trans (b := (do Instr.storeAt 32 (.pointer (some ⟨g5, 0, none⟩)) (.agg (tt_c5 t n c g r7)); pure Next.skip : Sem Next).run Try.prog W10) (by kernel_rfl) (st_unit hr)) (by kernel_rfl) ?_
    refine wpList_nil ?_
    refine wp_ret ?_
    (try simp only [Exit.then, Exit.inBlock])
    change bodyPost Try.prog Try.f17 _ .ret _ _
    refine bodyPost_ret (results_single rfl (.cell g5 32 _ (0, 0) _ (by kernel_rfl) (hW.blk 0 _ _ _ rfl).1 Try.underlying32 rfl (by kernel_rfl) .nil)) rfl ?_
    subst e7
    refine ⟨As7, cs7, Ab7, cb7, An7, cn7, ?_, ⟨Kd.R_lower (hK7.R hO7.s) hK7_le, Kd.R_lower (hK7.R hO7.b) hK7_le, Kd.R_lower (hK7.R hO7.n) hK7_le⟩, hW.below⟩
    kernel_rfl
  · skip
    refine wp_region_list ?_
    refine sk (a' := (up (tt_b23 t n c g g1 g3 g5 r7) [])) (.int .i64 3) ?_
    refine st_call (in_calls 3 0 3 true (decide_eq_true (by omega)) W8) (by kernel_rfl) (by kernel_rfl) ?_
    rintro _ W9 ⟨rfl, hB⟩
    have hW := hW.step hB
    have hK7 := hK7.below hB
    refine ⟨_, (up (tt_b23 t n c g g1 g3 g5 r7) [(10, .bool true)]), rfl, by (try subst e7); kernel_rfl, ?_⟩
    refine wpList_nil ?_
    refine wp_cond (t := true) (by kernel_rfl) ?_
    refine wp_region_list ?_
    refine skp (.int .i64 3) ?_
    refine sep (.agg #[.int .i64 n, .int .i64 c, .int .i64 g]) (evA hW 1 0 Try.underlying25) ?_
    refine sk (a' := (up (tt_b23 t n c g g1 g3 g5 r7) [(10, .bool true), (11, .int .i64 3), (12, .agg #[.int .i64 n, .int .i64 c, .int .i64 g]), (13, .pointer (some ⟨g1, 3, none⟩))])) (.pointer (some ⟨g1, 3, none⟩)) ?_
    refine sk (a' := (up (tt_b23 t n c g g1 g3 g5 r7) [(10, .bool true), (11, .int .i64 3), (12, .agg #[.int .i64 n, .int .i64 c, .int .i64 g]), (13, .pointer (some ⟨g1, 3, none⟩)), (14, .pointer (some ⟨g1, 12, none⟩))])) (.pointer (some ⟨g1, 12, none⟩)) ?_
    obtain ⟨W10, hr, hW, hF⟩ := hW.storeN (P := Try.prog) (o := 12) (cs' := (tt_c6 t n c g r7)) (L' := [(g5, 32, tt_c1), (g3, 25, #[.int .i64 n, .int .i64 c, .int .i64 g]), (g1, 32, (tt_c6 t n c g r7))]) 2 rfl #[.int .i64 n, .int .i64 c, .int .i64 g] (by (try subst e7); kernel_rfl) (Nat.le_of_ble_eq_true rfl) (by kernel_rfl) rfl 25 (by kernel_rfl)
    have hK7 := hK7.store hF (.inl hK7_g1)
    refine st_none (w' := W10) (a' := (up (tt_b23 t n c g g1 g3 g5 r7) [(10, .bool true), (11, .int .i64 3), (12, .agg #[.int .i64 n, .int .i64 c, .int .i64 g]), (13, .pointer (some ⟨g1, 3, none⟩)), (14, .pointer (some ⟨g1, 12, none⟩))])) (by kernel_rfl) (Eq.trans (b := (do Instr.storeAt 25 (.pointer (some ⟨g1, 12, none⟩)) (.agg #[.int .i64 n, .int .i64 c, .int .i64 g]); pure Next.skip : Sem Next).run Try.prog W9) (by kernel_rfl) (st_unit hr)) (by kernel_rfl) ?_
    refine wpList_nil ?_
    refine wp_seq ?_
    refine wp_region_list ?_
    refine se (a' := (up (tt_b26 t n c g g1 g3 g5 r7) [])) (.agg (tt_c6 t n c g r7)) (evA hW 2 0 Try.underlying32) ?_
    obtain ⟨W11, hr, hW, hF⟩ := hW.storeN (P := Try.prog) (o := 0) (cs' := (tt_c6 t n c g r7)) (L' := [(g5, 32, (tt_c6 t n c g r7)), (g3, 25, #[.int .i64 n, .int .i64 c, .int .i64 g]), (g1, 32, (tt_c6 t n c g r7))]) 0 rfl (tt_c6 t n c g r7) (by (try subst e7); kernel_rfl) (Nat.le_of_ble_eq_true rfl) (by kernel_rfl) rfl 32 (by kernel_rfl)
    have hK7 := hK7.store hF (.inl hK7_g5)
    refine st_none (w' := W11) (a' := (up (tt_b26 t n c g g1 g3 g5 r7) [])) (by kernel_rfl) (Eq.trans (b := (do Instr.storeAt 32 (.pointer (some ⟨g5, 0, none⟩)) (.agg (tt_c6 t n c g r7)); pure Next.skip : Sem Next).run Try.prog W10) (by kernel_rfl) (st_unit hr)) (by kernel_rfl) ?_
    refine wpList_nil ?_
    refine wp_ret ?_
    (try simp only [Exit.then, Exit.inBlock])
    change bodyPost Try.prog Try.f17 _ .ret _ _
    refine bodyPost_ret (results_single rfl (.cell g5 32 _ (0, 0) _ (by kernel_rfl) (hW.blk 0 _ _ _ rfl).1 Try.underlying32 rfl (by kernel_rfl) .nil)) rfl ?_
    subst e7
    refine ⟨As7, cs7, Ab7, cb7, An7, cn7, ?_, ⟨Kd.R_lower (hK7.R hO7.s) hK7_le, Kd.R_lower (hK7.R hO7.b) hK7_le, Kd.R_lower (hK7.R hO7.n) hK7_le⟩, hW.below⟩
    kernel_rfl
def tb_l0 (c0 : Int) (c1 : Int) (c2 : Int) (c3 : Int) (c4 : Int) (g1 : Nat) : List Value := [.agg #[.int .i64 c0, .int .i64 c1, .int .i64 c2, .int .i64 c3, .int .i64 c4], .pointer (some ⟨g1, 0, none⟩), zz, zz, zz, zz, zz]
def tb_b1 (c0 : Int) (c1 : Int) (c2 : Int) (c3 : Int) (c4 : Int) (g1 : Nat) : List Value := (tb_l0 c0 c1 c2 c3 c4 g1)
def tb_c0 : Array Value := #[.int .i64 0, .int .i64 0, .int .i64 0, .int .i64 0, .int .i64 0, .int .i64 0, .int .i64 0, .int .i64 0, .int .i64 0, .int .i64 0, .int .i64 0, .int .i64 0, .int .i64 0, .int .i64 0, .int .i64 0, .int .i64 0, .int .i64 0, .int .i64 0, .slice none 0 0, .slice none 0 0, .slice none 0 0, .int .i64 0]
def tb_c1 (c3 : Int) : Array Value := #[.int .i64 0, .int .i64 (clampF c3), .int .i64 0, .int .i64 0, .int .i64 0, .int .i64 0, .int .i64 0, .int .i64 0, .int .i64 0, .int .i64 0, .int .i64 0, .int .i64 0, .int .i64 0, .int .i64 0, .int .i64 0, .int .i64 0, .int .i64 0, .int .i64 0, .slice none 0 0, .slice none 0 0, .slice none 0 0, .int .i64 0]
set_option maxHeartbeats 8000000 in
set_option maxRecDepth 100000 in
theorem th_Begin (c0 c1 c2 c3 c4 : Int) (w : World) : Calls Try.prog 13 #[.agg #[.int .i64 c0, .int .i64 c1, .int .i64 c2, .int .i64 c3, .int .i64 c4]] w fun e w' => e = .returned (.agg (th0 (clampF c3)).cells) ∧ Below w.heap.size w w' := by
  refine calls_of_wp Try.func13 rfl ?_
  have hW := Ws.nil w
  refine wp_seq ?_
  refine wp_region_list ?_
  obtain ⟨g1, W2, hr, hW, hbb, hge⟩ := hW.mk1 (P := Try.prog) (s := Instr.box 23 (.agg #[.int .i64 c0, .int .i64 c1, .int .i64 c2, .int .i64 c3, .int .i64 c4])) #[.int .i64 c0, .int .i64 c1, .int .i64 c2, .int .i64 c3, .int .i64 c4] 23 (by kernel_rfl)
  refine se (a' := (up (tb_b1 c0 c1 c2 c3 c4 g1) [])) (.pointer (some ⟨g1, 0, none⟩)) (Eq.trans (b := (do pure (Next.value (← Instr.box 23 (.agg #[.int .i64 c0, .int .i64 c1, .int .i64 c2, .int .i64 c3, .int .i64 c4]))) : Sem Next).run Try.prog w) (by kernel_rfl) (st_val hr)) ?_
  obtain ⟨g3, W4, hr, hW, hbb, hge⟩ := hW.mk1 (P := Try.prog) (s := Instr.alloc 32 true (.tuple #[])) tb_c0 32 (by kernel_rfl)
  refine se (a' := (up (tb_b1 c0 c1 c2 c3 c4 g1) [(2, .pointer (some ⟨g3, 0, none⟩))])) (.pointer (some ⟨g3, 0, none⟩)) (Eq.trans (b := (do pure (Next.value (← Instr.alloc 32 true (.tuple #[]))) : Sem Next).run Try.prog W2) (by kernel_rfl) (st_val hr)) ?_
  refine wpList_nil ?_
  refine wp_seq ?_
  refine wp_region_list ?_
  refine skp (.pointer (some ⟨g1, 3, none⟩)) ?_
  refine se (a' := (up (tb_b1 c0 c1 c2 c3 c4 g1) [(2, .pointer (some ⟨g3, 0, none⟩)), (3, .pointer (some ⟨g1, 3, none⟩)), (4, .int .i64 c3)])) (.int .i64 c3) (ev1 hW 1 3 Try.underlying3) ?_
  refine st_call (clamp_is c3 W4) (by kernel_rfl) (by kernel_rfl) ?_
  rintro _ W5 ⟨rfl, hB⟩
  have hW := hW.step hB
  refine ⟨_, (up (tb_b1 c0 c1 c2 c3 c4 g1) [(2, .pointer (some ⟨g3, 0, none⟩)), (3, .pointer (some ⟨g1, 3, none⟩)), (4, .int .i64 c3), (5, .int .i64 (clampF c3))]), rfl, by kernel_rfl, ?_⟩
  refine sk (a' := (up (tb_b1 c0 c1 c2 c3 c4 g1) [(2, .pointer (some ⟨g3, 0, none⟩)), (3, .pointer (some ⟨g1, 3, none⟩)), (4, .int .i64 c3), (5, .int .i64 (clampF c3)), (6, .agg (tb_c1 c3))])) (.agg (tb_c1 c3)) ?_
  obtain ⟨W6, hr, hW, hF⟩ := hW.storeN (P := Try.prog) (o := 0) (cs' := (tb_c1 c3)) (L' := [(g3, 32, (tb_c1 c3)), (g1, 23, #[.int .i64 c0, .int .i64 c1, .int .i64 c2, .int .i64 c3, .int .i64 c4])]) 0 rfl (tb_c1 c3) (by kernel_rfl) (Nat.le_of_ble_eq_true rfl) (by kernel_rfl) rfl 32 (by kernel_rfl)
  refine st_none (w' := W6) (a' := (up (tb_b1 c0 c1 c2 c3 c4 g1) [(2, .pointer (some ⟨g3, 0, none⟩)), (3, .pointer (some ⟨g1, 3, none⟩)), (4, .int .i64 c3), (5, .int .i64 (clampF c3)), (6, .agg (tb_c1 c3))])) (by kernel_rfl) (Eq.trans (b := (do Instr.storeAt 32 (.pointer (some ⟨g3, 0, none⟩)) (.agg (tb_c1 c3)); pure Next.skip : Sem Next).run Try.prog W5) (by kernel_rfl) (st_unit hr)) (by kernel_rfl) ?_
  refine wpList_nil ?_
  refine wp_ret ?_
  (try simp only [Exit.then, Exit.inBlock])
  change bodyPost Try.prog Try.f13 _ .ret _ _
  refine bodyPost_ret (results_single rfl (.cell g3 32 _ (0, 0) _ (by kernel_rfl) (hW.blk 0 _ _ _ rfl).1 Try.underlying32 rfl (by kernel_rfl) .nil)) rfl ?_
  exact ⟨rfl, hW.below⟩
def td0_c0 (t : Th) : Array Value := #[.int .i64 t.pc, .int .i64 t.fu, .int .i64 t.st, .int .i64 (t.R 0), .int .i64 (t.R 1), .int .i64 (t.R 2), .int .i64 (t.R 3), .int .i64 (t.R 4), .int .i64 (t.R 5), .int .i64 (t.R 6), .int .i64 (t.R 7), .int .i64 (t.R 8), .int .i64 (t.R 9), .int .i64 (t.R 10), .int .i64 (t.R 11), .int .i64 t.kd, .int .i64 t.mi, .int .i64 t.mn, t.sv, t.bv, t.nv, .int .i64 t.old]
def td0_l1 (t : Th) (A : Option Addr) (n : Nat) (c : Nat) (g1 : Nat) : List Value := [.agg (td0_c0 t), .slice A n c, .pointer (some ⟨g1, 0, none⟩), zz, zz, zz, zz, zz, zz, zz, zz, zz, zz, zz, zz, zz]
def td0_l2 : List Value := [zz, zz, zz, zz, zz, zz, zz, zz, zz, zz]
def td0_b3 (t : Th) (A : Option Addr) (n : Nat) (c : Nat) (g1 : Nat) : List Value := (td0_l1 t A n c g1) ++ (td0_l2)
def td1_c0 (t : Th) : Array Value := #[.int .i64 t.pc, .int .i64 t.fu, .int .i64 t.st, .int .i64 (t.R 0), .int .i64 (t.R 1), .int .i64 (t.R 2), .int .i64 (t.R 3), .int .i64 (t.R 4), .int .i64 (t.R 5), .int .i64 (t.R 6), .int .i64 (t.R 7), .int .i64 (t.R 8), .int .i64 (t.R 9), .int .i64 (t.R 10), .int .i64 (t.R 11), .int .i64 t.kd, .int .i64 t.mi, .int .i64 t.mn, t.sv, t.bv, t.nv, .int .i64 t.old]
def td1_l1 (t : Th) (A : Option Addr) (n : Nat) (c : Nat) (g1 : Nat) : List Value := [.agg (td1_c0 t), .slice A n c, .pointer (some ⟨g1, 0, none⟩), zz, zz, zz, zz, zz, zz, zz, zz, zz, zz, zz, zz, zz]
def td1_l2 : List Value := [zz, zz, zz, zz, zz, zz, zz, zz, zz, zz]
def td1_b3 (t : Th) (A : Option Addr) (n : Nat) (c : Nat) (g1 : Nat) : List Value := (td1_l1 t A n c g1) ++ (td1_l2)
def td1_l4 (t : Th) (A : Option Addr) (n : Nat) (c : Nat) (g1 : Nat) : List Value := [.agg (td1_c0 t), .slice A n c, .pointer (some ⟨g1, 0, none⟩), zz, .bool false, .pointer (some ⟨g1, 2, none⟩), .int .i64 t.st, .bool false, .pointer (some ⟨g1, 15, none⟩), .pointer (some ⟨g1, 15, none⟩), zz, zz, zz, zz, zz, zz]
def td1_b5 (t : Th) (A : Option Addr) (n : Nat) (c : Nat) (g1 : Nat) : List Value := (td1_l4 t A n c g1) ++ (td1_l2)
def td2_c0 (t : Th) : Array Value := #[.int .i64 t.pc, .int .i64 t.fu, .int .i64 t.st, .int .i64 (t.R 0), .int .i64 (t.R 1), .int .i64 (t.R 2), .int .i64 (t.R 3), .int .i64 (t.R 4), .int .i64 (t.R 5), .int .i64 (t.R 6), .int .i64 (t.R 7), .int .i64 (t.R 8), .int .i64 (t.R 9), .int .i64 (t.R 10), .int .i64 (t.R 11), .int .i64 t.kd, .int .i64 t.mi, .int .i64 t.mn, t.sv, t.bv, t.nv, .int .i64 t.old]
def td2_l1 (t : Th) (A : Option Addr) (n : Nat) (c : Nat) (g1 : Nat) : List Value := [.agg (td2_c0 t), .slice A n c, .pointer (some ⟨g1, 0, none⟩), zz, zz, zz, zz, zz, zz, zz, zz, zz, zz, zz, zz, zz]
def td2_l2 : List Value := [zz, zz, zz, zz, zz, zz, zz, zz, zz, zz]
def td2_b3 (t : Th) (A : Option Addr) (n : Nat) (c : Nat) (g1 : Nat) : List Value := (td2_l1 t A n c g1) ++ (td2_l2)
def td2_l4 (t : Th) (A : Option Addr) (n : Nat) (c : Nat) (g1 : Nat) : List Value := [.agg (td2_c0 t), .slice A n c, .pointer (some ⟨g1, 0, none⟩), zz, .bool false, .pointer (some ⟨g1, 2, none⟩), .int .i64 t.st, .bool false, .pointer (some ⟨g1, 15, none⟩), .pointer (some ⟨g1, 15, none⟩), zz, zz, zz, zz, zz, zz]
def td2_b5 (t : Th) (A : Option Addr) (n : Nat) (c : Nat) (g1 : Nat) : List Value := (td2_l4 t A n c g1) ++ (td2_l2)
def td2_l6 (t : Th) (A : Option Addr) (n : Nat) (c : Nat) (g1 : Nat) : List Value := [.agg (td2_c0 t), .slice A n c, .pointer (some ⟨g1, 0, none⟩), zz, .bool false, .pointer (some ⟨g1, 2, none⟩), .int .i64 t.st, .bool false, .pointer (some ⟨g1, 15, none⟩), .pointer (some ⟨g1, 15, none⟩), .int .i64 t.kd, .bool true, .bool true, .pointer (some ⟨g1, 1, none⟩), .int .i64 t.fu, .bool true]
def td2_b7 (t : Th) (A : Option Addr) (n : Nat) (c : Nat) (g1 : Nat) : List Value := (td2_l6 t A n c g1) ++ (td2_l2)
def td3_c0 (t : Th) : Array Value := #[.int .i64 t.pc, .int .i64 t.fu, .int .i64 t.st, .int .i64 (t.R 0), .int .i64 (t.R 1), .int .i64 (t.R 2), .int .i64 (t.R 3), .int .i64 (t.R 4), .int .i64 (t.R 5), .int .i64 (t.R 6), .int .i64 (t.R 7), .int .i64 (t.R 8), .int .i64 (t.R 9), .int .i64 (t.R 10), .int .i64 (t.R 11), .int .i64 t.kd, .int .i64 t.mi, .int .i64 t.mn, t.sv, t.bv, t.nv, .int .i64 t.old]
def td3_l1 (t : Th) (A : Option Addr) (n : Nat) (c : Nat) (g1 : Nat) : List Value := [.agg (td3_c0 t), .slice A n c, .pointer (some ⟨g1, 0, none⟩), zz, zz, zz, zz, zz, zz, zz, zz, zz, zz, zz, zz, zz]
def td3_l2 : List Value := [zz, zz, zz, zz, zz, zz, zz, zz, zz, zz]
def td3_b3 (t : Th) (A : Option Addr) (n : Nat) (c : Nat) (g1 : Nat) : List Value := (td3_l1 t A n c g1) ++ (td3_l2)
def td3_l4 (t : Th) (A : Option Addr) (n : Nat) (c : Nat) (g1 : Nat) : List Value := [.agg (td3_c0 t), .slice A n c, .pointer (some ⟨g1, 0, none⟩), zz, .bool false, .pointer (some ⟨g1, 2, none⟩), .int .i64 t.st, .bool false, .pointer (some ⟨g1, 15, none⟩), .pointer (some ⟨g1, 15, none⟩), zz, zz, zz, zz, zz, zz]
def td3_b5 (t : Th) (A : Option Addr) (n : Nat) (c : Nat) (g1 : Nat) : List Value := (td3_l4 t A n c g1) ++ (td3_l2)
def td3_l6 (t : Th) (A : Option Addr) (n : Nat) (c : Nat) (g1 : Nat) : List Value := [.agg (td3_c0 t), .slice A n c, .pointer (some ⟨g1, 0, none⟩), zz, .bool false, .pointer (some ⟨g1, 2, none⟩), .int .i64 t.st, .bool false, .pointer (some ⟨g1, 15, none⟩), .pointer (some ⟨g1, 15, none⟩), .int .i64 t.kd, .bool true, .bool true, .pointer (some ⟨g1, 1, none⟩), .int .i64 t.fu, .bool false]
def td3_b7 (t : Th) (A : Option Addr) (n : Nat) (c : Nat) (g1 : Nat) : List Value := (td3_l6 t A n c g1) ++ (td3_l2)
def td3_l8 (t : Th) (A : Option Addr) (n : Nat) (c : Nat) (g1 : Nat) : List Value := [.bool false, .pointer (some ⟨g1, 0, none⟩), .int .i64 t.pc, .slice A n c, .int .i64 (n : Int), .int .i64 (IntKind.wrap .i64 ((n : Int) - 1)), zz, zz, zz, zz]
def td3_b9 (t : Th) (A : Option Addr) (n : Nat) (c : Nat) (g1 : Nat) : List Value := (td3_l6 t A n c g1) ++ ((td3_l8 t A n c g1))
def td4_c0 (t : Th) : Array Value := #[.int .i64 t.pc, .int .i64 t.fu, .int .i64 t.st, .int .i64 (t.R 0), .int .i64 (t.R 1), .int .i64 (t.R 2), .int .i64 (t.R 3), .int .i64 (t.R 4), .int .i64 (t.R 5), .int .i64 (t.R 6), .int .i64 (t.R 7), .int .i64 (t.R 8), .int .i64 (t.R 9), .int .i64 (t.R 10), .int .i64 (t.R 11), .int .i64 t.kd, .int .i64 t.mi, .int .i64 t.mn, t.sv, t.bv, t.nv, .int .i64 t.old]
def td4_l1 (t : Th) (A : Option Addr) (n : Nat) (c : Nat) (g1 : Nat) : List Value := [.agg (td4_c0 t), .slice A n c, .pointer (some ⟨g1, 0, none⟩), zz, zz, zz, zz, zz, zz, zz, zz, zz, zz, zz, zz, zz]
def td4_l2 : List Value := [zz, zz, zz, zz, zz, zz, zz, zz, zz, zz]
def td4_b3 (t : Th) (A : Option Addr) (n : Nat) (c : Nat) (g1 : Nat) : List Value := (td4_l1 t A n c g1) ++ (td4_l2)
def td4_l4 (t : Th) (A : Option Addr) (n : Nat) (c : Nat) (g1 : Nat) : List Value := [.agg (td4_c0 t), .slice A n c, .pointer (some ⟨g1, 0, none⟩), zz, .bool false, .pointer (some ⟨g1, 2, none⟩), .int .i64 t.st, .bool false, .pointer (some ⟨g1, 15, none⟩), .pointer (some ⟨g1, 15, none⟩), zz, zz, zz, zz, zz, zz]
def td4_b5 (t : Th) (A : Option Addr) (n : Nat) (c : Nat) (g1 : Nat) : List Value := (td4_l4 t A n c g1) ++ (td4_l2)
def td4_l6 (t : Th) (A : Option Addr) (n : Nat) (c : Nat) (g1 : Nat) : List Value := [.agg (td4_c0 t), .slice A n c, .pointer (some ⟨g1, 0, none⟩), zz, .bool false, .pointer (some ⟨g1, 2, none⟩), .int .i64 t.st, .bool false, .pointer (some ⟨g1, 15, none⟩), .pointer (some ⟨g1, 15, none⟩), .int .i64 t.kd, .bool true, .bool true, .pointer (some ⟨g1, 1, none⟩), .int .i64 t.fu, .bool false]
def td4_b7 (t : Th) (A : Option Addr) (n : Nat) (c : Nat) (g1 : Nat) : List Value := (td4_l6 t A n c g1) ++ (td4_l2)
def td4_l8 (t : Th) (A : Option Addr) (n : Nat) (c : Nat) (g1 : Nat) : List Value := [.bool false, .pointer (some ⟨g1, 0, none⟩), .int .i64 t.pc, .slice A n c, .int .i64 (n : Int), .int .i64 (IntKind.wrap .i64 ((n : Int) - 1)), zz, zz, zz, zz]
def td4_b9 (t : Th) (A : Option Addr) (n : Nat) (c : Nat) (g1 : Nat) : List Value := (td4_l6 t A n c g1) ++ ((td4_l8 t A n c g1))
set_option maxHeartbeats 8000000 in
set_option maxRecDepth 100000 in
theorem th_Done (t : Th) (A : Option Addr) (n c : Nat) (hn : n ≤ 9223372036854775807) (w : World) : Calls Try.prog 25 #[.agg t.cells, .slice A n c] w fun e w' => e = .returned (.bool (doneB t n)) ∧ Below w.heap.size w w' := by
  have hw1 : IntKind.wrap .i64 ((n : Int) - 1) = (n : Int) - 1 := by rw [IntKind.wrap_i64]; omega
  have hc : t.st ≠ 0 ∨ (t.st = 0 ∧ t.kd ≠ 0) ∨ (t.st = 0 ∧ t.kd = 0 ∧ t.fu ≤ 0) ∨ (t.st = 0 ∧ t.kd = 0 ∧ 0 < t.fu ∧ 0 ≤ t.pc ∧ t.pc < n) ∨ (t.st = 0 ∧ t.kd = 0 ∧ 0 < t.fu ∧ ¬ (0 ≤ t.pc ∧ t.pc < n)) := by omega
  rcases hc with h1 | h2 | h3 | h4 | h5
  · skip
    refine calls_of_wp Try.func25 rfl ?_
    have hW := Ws.nil w
    refine wp_seq ?_
    refine wp_region_list ?_
    obtain ⟨g1, W2, hr, hW, hbb, hge⟩ := hW.mk1 (P := Try.prog) (s := Instr.box 32 (.agg (td0_c0 t))) (td0_c0 t) 32 (by kernel_rfl)
    refine se (a' := (up (td0_b3 t A n c g1) [])) (.pointer (some ⟨g1, 0, none⟩)) (Eq.trans (b := (do pure (Next.value (← Instr.box 32 (.agg (td0_c0 t)))) : Sem Next).run Try.prog w) (by kernel_rfl) (st_val hr)) ?_
    refine sk (a' := (up (td0_b3 t A n c g1) [(4, .bool false)])) (.bool false) ?_
    refine wpList_nil ?_
    refine wp_seq ?_
    refine wp_seq ?_
    refine wp_region_list ?_
    refine skp (.pointer (some ⟨g1, 2, none⟩)) ?_
    refine sep (.int .i64 t.st) (ev1 hW 0 2 Try.underlying3) ?_
    refine se (a' := (up (td0_b3 t A n c g1) [(4, .bool false), (5, .pointer (some ⟨g1, 2, none⟩)), (6, .int .i64 t.st), (7, .bool true)])) (.bool true) (Eq.trans (b := .ok (.value (.bool ((t.st : Int) != 0))) W2) (by kernel_rfl) (st_ok (bne_iff_ne.2 (by omega)))) ?_
    refine wpList_nil ?_
    refine wp_cond (t := true) (by kernel_rfl) ?_
    refine wp_seq ?_
    refine wp_region_list ?_
    refine sk (a' := (up (td0_b3 t A n c g1) [(4, .bool true), (5, .pointer (some ⟨g1, 2, none⟩)), (6, .int .i64 t.st), (7, .bool true)])) (.bool true) ?_
    refine wpList_nil ?_
    refine wp_ret ?_
    (try simp only [Exit.then, Exit.inBlock])
    change bodyPost Try.prog Try.f25 _ .ret _ _
    refine bodyPost_ret (results_tmp rfl _ _ _) rfl ?_
    refine ⟨?_, hW.below⟩
    rw [show doneB t n = true from by unfold doneB; rw [if_pos h1]]
    kernel_rfl
  · skip
    refine calls_of_wp Try.func25 rfl ?_
    have hW := Ws.nil w
    refine wp_seq ?_
    refine wp_region_list ?_
    obtain ⟨g1, W2, hr, hW, hbb, hge⟩ := hW.mk1 (P := Try.prog) (s := Instr.box 32 (.agg (td1_c0 t))) (td1_c0 t) 32 (by kernel_rfl)
    refine se (a' := (up (td1_b3 t A n c g1) [])) (.pointer (some ⟨g1, 0, none⟩)) (Eq.trans (b := (do pure (Next.value (← Instr.box 32 (.agg (td1_c0 t)))) : Sem Next).run Try.prog w) (by kernel_rfl) (st_val hr)) ?_
    refine sk (a' := (up (td1_b3 t A n c g1) [(4, .bool false)])) (.bool false) ?_
    refine wpList_nil ?_
    refine wp_seq ?_
    refine wp_seq ?_
    refine wp_region_list ?_
    refine skp (.pointer (some ⟨g1, 2, none⟩)) ?_
    refine sep (.int .i64 t.st) (ev1 hW 0 2 Try.underlying3) ?_
    refine se (a' := (up (td1_b3 t A n c g1) [(4, .bool false), (5, .pointer (some ⟨g1, 2, none⟩)), (6, .int .i64 t.st), (7, .bool false)])) (.bool false) (Eq.trans (b := .ok (.value (.bool ((t.st : Int) != 0))) W2) (by kernel_rfl) (st_ok (bne_eq_false_iff_eq.2 (by omega)))) ?_
    refine wpList_nil ?_
    refine wp_cond (t := false) (by kernel_rfl) ?_
    refine wp_skip ?_
    refine wp_seq ?_
    refine wp_region_list ?_
    refine skp (.pointer (some ⟨g1, 15, none⟩)) ?_
    refine skp (.pointer (some ⟨g1, 15, none⟩)) ?_
    refine se (a' := (up (td1_b5 t A n c g1) [(10, .int .i64 t.kd)])) (.int .i64 t.kd) (ev1 hW 0 15 Try.underlying3) ?_
    refine sep (.bool false) (Eq.trans (b := .ok (.value (.bool ((t.kd : Int) == 0))) W2) (by kernel_rfl) (st_ok (beq_eq_false_iff_ne.2 (by omega)))) ?_
    refine st_ones (w' := W2) (a' := (up (td1_b5 t A n c g1) [(10, .int .i64 t.kd), (11, .bool false), (12, .bool false)])) (a2 := (up (td1_b5 t A n c g1) [(10, .int .i64 t.kd), (11, .bool false), (12, .bool false)])) 12 (.bool false) (by kernel_rfl) (by kernel_rfl) (by kernel_rfl) (by kernel_rfl) (by kernel_rfl) ?_
    refine skp (.bool false) ?_
    refine sk (a' := (up (td1_b5 t A n c g1) [(10, .int .i64 t.kd), (11, .bool false), (12, .bool false), (25, .bool false)])) (.bool false) ?_
    refine wpList_nil ?_
    refine wp_ret ?_
    (try simp only [Exit.then, Exit.inBlock])
    change bodyPost Try.prog Try.f25 _ .ret _ _
    refine bodyPost_ret (results_tmp rfl _ _ _) rfl ?_
    refine ⟨?_, hW.below⟩
    rw [show doneB t n = false from by unfold doneB; rw [if_neg (by omega), if_pos h2.2]]
    kernel_rfl
  · skip
    refine calls_of_wp Try.func25 rfl ?_
    have hW := Ws.nil w
    refine wp_seq ?_
    refine wp_region_list ?_
    obtain ⟨g1, W2, hr, hW, hbb, hge⟩ := hW.mk1 (P := Try.prog) (s := Instr.box 32 (.agg (td2_c0 t))) (td2_c0 t) 32 (by kernel_rfl)
    refine se (a' := (up (td2_b3 t A n c g1) [])) (.pointer (some ⟨g1, 0, none⟩)) (Eq.trans (b := (do pure (Next.value (← Instr.box 32 (.agg (td2_c0 t)))) : Sem Next).run Try.prog w) (by kernel_rfl) (st_val hr)) ?_
    refine sk (a' := (up (td2_b3 t A n c g1) [(4, .bool false)])) (.bool false) ?_
    refine wpList_nil ?_
    refine wp_seq ?_
    refine wp_seq ?_
    refine wp_region_list ?_
    refine skp (.pointer (some ⟨g1, 2, none⟩)) ?_
    refine sep (.int .i64 t.st) (ev1 hW 0 2 Try.underlying3) ?_
    refine se (a' := (up (td2_b3 t A n c g1) [(4, .bool false), (5, .pointer (some ⟨g1, 2, none⟩)), (6, .int .i64 t.st), (7, .bool false)])) (.bool false) (Eq.trans (b := .ok (.value (.bool ((t.st : Int) != 0))) W2) (by kernel_rfl) (st_ok (bne_eq_false_iff_eq.2 (by omega)))) ?_
    refine wpList_nil ?_
    refine wp_cond (t := false) (by kernel_rfl) ?_
    refine wp_skip ?_
    refine wp_seq ?_
    refine wp_region_list ?_
    refine skp (.pointer (some ⟨g1, 15, none⟩)) ?_
    refine skp (.pointer (some ⟨g1, 15, none⟩)) ?_
    refine se (a' := (up (td2_b5 t A n c g1) [(10, .int .i64 t.kd)])) (.int .i64 t.kd) (ev1 hW 0 15 Try.underlying3) ?_
    refine sep (.bool true) (Eq.trans (b := .ok (.value (.bool ((t.kd : Int) == 0))) W2) (by kernel_rfl) (st_ok (beq_iff_eq.2 (by omega)))) ?_
    refine sk (a' := (up (td2_b5 t A n c g1) [(10, .int .i64 t.kd), (11, .bool true), (12, .bool true)])) (.bool true) ?_
    refine sk (a' := (up (td2_b5 t A n c g1) [(10, .int .i64 t.kd), (11, .bool true), (12, .bool true), (13, .pointer (some ⟨g1, 1, none⟩))])) (.pointer (some ⟨g1, 1, none⟩)) ?_
    refine se (a' := (up (td2_b5 t A n c g1) [(10, .int .i64 t.kd), (11, .bool true), (12, .bool true), (13, .pointer (some ⟨g1, 1, none⟩)), (14, .int .i64 t.fu)])) (.int .i64 t.fu) (ev1 hW 0 1 Try.underlying3) ?_
    refine se (a' := (up (td2_b7 t A n c g1) [])) (.bool true) (Eq.trans (b := .ok (.value (.bool (decide ((t.fu : Int) ≤ 0)))) W2) (by kernel_rfl) (st_ok (decide_eq_true (by omega)))) ?_
    refine st_ones (w' := W2) (a' := (up (td2_b7 t A n c g1) [(16, .bool true)])) (a2 := (up (td2_b7 t A n c g1) [(16, .bool true)])) 7 (.bool true) (by kernel_rfl) (by kernel_rfl) (by kernel_rfl) (by kernel_rfl) (by kernel_rfl) ?_
    refine skp (.bool true) ?_
    refine skp (.bool true) ?_
    refine sk (a' := (up (td2_b7 t A n c g1) [(4, .bool true), (16, .bool true), (24, .bool true), (25, .bool true)])) (.bool true) ?_
    refine wpList_nil ?_
    refine wp_ret ?_
    (try simp only [Exit.then, Exit.inBlock])
    change bodyPost Try.prog Try.f25 _ .ret _ _
    refine bodyPost_ret (results_tmp rfl _ _ _) rfl ?_
    refine ⟨?_, hW.below⟩
    rw [show doneB t n = true from by unfold doneB; rw [if_neg (by omega), if_neg (by omega), if_pos h3.2.2]]
    kernel_rfl
  · skip
    refine calls_of_wp Try.func25 rfl ?_
    have hW := Ws.nil w
    refine wp_seq ?_
    refine wp_region_list ?_
    obtain ⟨g1, W2, hr, hW, hbb, hge⟩ := hW.mk1 (P := Try.prog) (s := Instr.box 32 (.agg (td3_c0 t))) (td3_c0 t) 32 (by kernel_rfl)
    refine se (a' := (up (td3_b3 t A n c g1) [])) (.pointer (some ⟨g1, 0, none⟩)) (Eq.trans (b := (do pure (Next.value (← Instr.box 32 (.agg (td3_c0 t)))) : Sem Next).run Try.prog w) (by kernel_rfl) (st_val hr)) ?_
    refine sk (a' := (up (td3_b3 t A n c g1) [(4, .bool false)])) (.bool false) ?_
    refine wpList_nil ?_
    refine wp_seq ?_
    refine wp_seq ?_
    refine wp_region_list ?_
    refine skp (.pointer (some ⟨g1, 2, none⟩)) ?_
    refine sep (.int .i64 t.st) (ev1 hW 0 2 Try.underlying3) ?_
    refine se (a' := (up (td3_b3 t A n c g1) [(4, .bool false), (5, .pointer (some ⟨g1, 2, none⟩)), (6, .int .i64 t.st), (7, .bool false)])) (.bool false) (Eq.trans (b := .ok (.value (.bool ((t.st : Int) != 0))) W2) (by kernel_rfl) (st_ok (bne_eq_false_iff_eq.2 (by omega)))) ?_
    refine wpList_nil ?_
    refine wp_cond (t := false) (by kernel_rfl) ?_
    refine wp_skip ?_
    refine wp_seq ?_
    refine wp_region_list ?_
    refine skp (.pointer (some ⟨g1, 15, none⟩)) ?_
    refine skp (.pointer (some ⟨g1, 15, none⟩)) ?_
    refine se (a' := (up (td3_b5 t A n c g1) [(10, .int .i64 t.kd)])) (.int .i64 t.kd) (ev1 hW 0 15 Try.underlying3) ?_
    refine sep (.bool true) (Eq.trans (b := .ok (.value (.bool ((t.kd : Int) == 0))) W2) (by kernel_rfl) (st_ok (beq_iff_eq.2 (by omega)))) ?_
    refine sk (a' := (up (td3_b5 t A n c g1) [(10, .int .i64 t.kd), (11, .bool true), (12, .bool true)])) (.bool true) ?_
    refine sk (a' := (up (td3_b5 t A n c g1) [(10, .int .i64 t.kd), (11, .bool true), (12, .bool true), (13, .pointer (some ⟨g1, 1, none⟩))])) (.pointer (some ⟨g1, 1, none⟩)) ?_
    refine se (a' := (up (td3_b5 t A n c g1) [(10, .int .i64 t.kd), (11, .bool true), (12, .bool true), (13, .pointer (some ⟨g1, 1, none⟩)), (14, .int .i64 t.fu)])) (.int .i64 t.fu) (ev1 hW 0 1 Try.underlying3) ?_
    refine se (a' := (up (td3_b7 t A n c g1) [])) (.bool false) (Eq.trans (b := .ok (.value (.bool (decide ((t.fu : Int) ≤ 0)))) W2) (by kernel_rfl) (st_ok (decide_eq_false (by omega)))) ?_
    refine sk (a' := (up (td3_b7 t A n c g1) [(16, .bool false)])) (.bool false) ?_
    refine sk (a' := (up (td3_b7 t A n c g1) [(16, .bool false), (17, .pointer (some ⟨g1, 0, none⟩))])) (.pointer (some ⟨g1, 0, none⟩)) ?_
    refine se (a' := (up (td3_b7 t A n c g1) [(16, .bool false), (17, .pointer (some ⟨g1, 0, none⟩)), (18, .int .i64 t.pc)])) (.int .i64 t.pc) (ev1 hW 0 0 Try.underlying3) ?_
    refine sk (a' := (up (td3_b7 t A n c g1) [(16, .bool false), (17, .pointer (some ⟨g1, 0, none⟩)), (18, .int .i64 t.pc), (19, .slice A n c)])) (.slice A n c) ?_
    refine sk (a' := (up (td3_b7 t A n c g1) [(16, .bool false), (17, .pointer (some ⟨g1, 0, none⟩)), (18, .int .i64 t.pc), (19, .slice A n c), (20, .int .i64 (n : Int))])) (.int .i64 (n : Int)) ?_
    refine sk (a' := (up (td3_b9 t A n c g1) [])) (.int .i64 (IntKind.wrap .i64 ((n : Int) - 1))) ?_
    refine st_call (in_calls t.pc 0 (IntKind.wrap .i64 ((n : Int) - 1)) true (decide_eq_true (by omega)) W2) (by kernel_rfl) (by kernel_rfl) ?_
    rintro _ W3 ⟨rfl, hB⟩
    have hW := hW.step hB
    refine ⟨_, (up (td3_b9 t A n c g1) [(22, .bool true)]), rfl, by kernel_rfl, ?_⟩
    refine sk (a' := (up (td3_b9 t A n c g1) [(22, .bool true), (23, .bool false)])) (.bool false) ?_
    refine skp (.bool false) ?_
    refine skp (.bool false) ?_
    refine sk (a' := (up (td3_b9 t A n c g1) [(22, .bool true), (23, .bool false), (24, .bool false), (25, .bool false)])) (.bool false) ?_
    refine wpList_nil ?_
    refine wp_ret ?_
    (try simp only [Exit.then, Exit.inBlock])
    change bodyPost Try.prog Try.f25 _ .ret _ _
    refine bodyPost_ret (results_tmp rfl _ _ _) rfl ?_
    refine ⟨?_, hW.below⟩
    rw [show doneB t n = false from by unfold doneB; rw [if_neg (by omega), if_neg (by omega), if_neg (by omega), if_pos h4.2.2.2]]
    kernel_rfl
  · skip
    refine calls_of_wp Try.func25 rfl ?_
    have hW := Ws.nil w
    refine wp_seq ?_
    refine wp_region_list ?_
    obtain ⟨g1, W2, hr, hW, hbb, hge⟩ := hW.mk1 (P := Try.prog) (s := Instr.box 32 (.agg (td4_c0 t))) (td4_c0 t) 32 (by kernel_rfl)
    refine se (a' := (up (td4_b3 t A n c g1) [])) (.pointer (some ⟨g1, 0, none⟩)) (Eq.trans (b := (do pure (Next.value (← Instr.box 32 (.agg (td4_c0 t)))) : Sem Next).run Try.prog w) (by kernel_rfl) (st_val hr)) ?_
    refine sk (a' := (up (td4_b3 t A n c g1) [(4, .bool false)])) (.bool false) ?_
    refine wpList_nil ?_
    refine wp_seq ?_
    refine wp_seq ?_
    refine wp_region_list ?_
    refine skp (.pointer (some ⟨g1, 2, none⟩)) ?_
    refine sep (.int .i64 t.st) (ev1 hW 0 2 Try.underlying3) ?_
    refine se (a' := (up (td4_b3 t A n c g1) [(4, .bool false), (5, .pointer (some ⟨g1, 2, none⟩)), (6, .int .i64 t.st), (7, .bool false)])) (.bool false) (Eq.trans (b := .ok (.value (.bool ((t.st : Int) != 0))) W2) (by kernel_rfl) (st_ok (bne_eq_false_iff_eq.2 (by omega)))) ?_
    refine wpList_nil ?_
    refine wp_cond (t := false) (by kernel_rfl) ?_
    refine wp_skip ?_
    refine wp_seq ?_
    refine wp_region_list ?_
    refine skp (.pointer (some ⟨g1, 15, none⟩)) ?_
    refine skp (.pointer (some ⟨g1, 15, none⟩)) ?_
    refine se (a' := (up (td4_b5 t A n c g1) [(10, .int .i64 t.kd)])) (.int .i64 t.kd) (ev1 hW 0 15 Try.underlying3) ?_
    refine sep (.bool true) (Eq.trans (b := .ok (.value (.bool ((t.kd : Int) == 0))) W2) (by kernel_rfl) (st_ok (beq_iff_eq.2 (by omega)))) ?_
    refine sk (a' := (up (td4_b5 t A n c g1) [(10, .int .i64 t.kd), (11, .bool true), (12, .bool true)])) (.bool true) ?_
    refine sk (a' := (up (td4_b5 t A n c g1) [(10, .int .i64 t.kd), (11, .bool true), (12, .bool true), (13, .pointer (some ⟨g1, 1, none⟩))])) (.pointer (some ⟨g1, 1, none⟩)) ?_
    refine se (a' := (up (td4_b5 t A n c g1) [(10, .int .i64 t.kd), (11, .bool true), (12, .bool true), (13, .pointer (some ⟨g1, 1, none⟩)), (14, .int .i64 t.fu)])) (.int .i64 t.fu) (ev1 hW 0 1 Try.underlying3) ?_
    refine se (a' := (up (td4_b7 t A n c g1) [])) (.bool false) (Eq.trans (b := .ok (.value (.bool (decide ((t.fu : Int) ≤ 0)))) W2) (by kernel_rfl) (st_ok (decide_eq_false (by omega)))) ?_
    refine sk (a' := (up (td4_b7 t A n c g1) [(16, .bool false)])) (.bool false) ?_
    refine sk (a' := (up (td4_b7 t A n c g1) [(16, .bool false), (17, .pointer (some ⟨g1, 0, none⟩))])) (.pointer (some ⟨g1, 0, none⟩)) ?_
    refine se (a' := (up (td4_b7 t A n c g1) [(16, .bool false), (17, .pointer (some ⟨g1, 0, none⟩)), (18, .int .i64 t.pc)])) (.int .i64 t.pc) (ev1 hW 0 0 Try.underlying3) ?_
    refine sk (a' := (up (td4_b7 t A n c g1) [(16, .bool false), (17, .pointer (some ⟨g1, 0, none⟩)), (18, .int .i64 t.pc), (19, .slice A n c)])) (.slice A n c) ?_
    refine sk (a' := (up (td4_b7 t A n c g1) [(16, .bool false), (17, .pointer (some ⟨g1, 0, none⟩)), (18, .int .i64 t.pc), (19, .slice A n c), (20, .int .i64 (n : Int))])) (.int .i64 (n : Int)) ?_
    refine sk (a' := (up (td4_b9 t A n c g1) [])) (.int .i64 (IntKind.wrap .i64 ((n : Int) - 1))) ?_
    refine st_call (in_calls t.pc 0 (IntKind.wrap .i64 ((n : Int) - 1)) false (decide_eq_false (by omega)) W2) (by kernel_rfl) (by kernel_rfl) ?_
    rintro _ W3 ⟨rfl, hB⟩
    have hW := hW.step hB
    refine ⟨_, (up (td4_b9 t A n c g1) [(22, .bool false)]), rfl, by kernel_rfl, ?_⟩
    refine sk (a' := (up (td4_b9 t A n c g1) [(22, .bool false), (23, .bool true)])) (.bool true) ?_
    refine skp (.bool true) ?_
    refine skp (.bool true) ?_
    refine sk (a' := (up (td4_b9 t A n c g1) [(4, .bool true), (22, .bool false), (23, .bool true), (24, .bool true), (25, .bool true)])) (.bool true) ?_
    refine wpList_nil ?_
    refine wp_ret ?_
    (try simp only [Exit.then, Exit.inBlock])
    change bodyPost Try.prog Try.f25 _ .ret _ _
    refine bodyPost_ret (results_tmp rfl _ _ _) rfl ?_
    refine ⟨?_, hW.below⟩
    rw [show doneB t n = true from by unfold doneB; rw [if_neg (by omega), if_neg (by omega), if_neg (by omega), if_neg h5.2.2.2]]
    kernel_rfl
end Go.Proofs.Ythcmcekjgecnhaa.Th
