/- What the plain Get and Set answer. No condition beside those that each theorem names. -/
import Derived.Test.YthcmcekjgecnhaaTlC
namespace Go.Proofs.Ythcmcekjgecnhaa.Th
open Go.RowKit Go.Proofs.YthcmcekjgecnhaaW.PrintWords Go.Proofs.YthcmcekjgecnhaaW.PrintLast
open Go.Proofs.YthcmcekjgecnhaaW.HWords Go.Proofs.Ythcmcekjgecnhaa.QThreadLocals
set_option linter.unusedVariables false
set_option linter.unusedSimpArgs false
def tvn_c0 (t : Th) : Array Value := #[.int .i64 t.pc, .int .i64 t.fu, .int .i64 t.st, .int .i64 (t.R 0), .int .i64 (t.R 1), .int .i64 (t.R 2), .int .i64 (t.R 3), .int .i64 (t.R 4), .int .i64 (t.R 5), .int .i64 (t.R 6), .int .i64 (t.R 7), .int .i64 (t.R 8), .int .i64 (t.R 9), .int .i64 (t.R 10), .int .i64 (t.R 11), .int .i64 t.kd, .int .i64 t.mi, .int .i64 t.mn, t.sv, t.bv, t.nv, .int .i64 t.old]
def tvn_l1 (t : Th) (r : Int) (g1 : Nat) : List Value := [.agg (tvn_c0 t), .int .i64 r, .pointer (some ⟨g1, 0, none⟩), zz, zz, zz, zz, zz, zz, zz, zz, zz, zz, zz, zz, zz]
def tvn_b2 (t : Th) (r : Int) (g1 : Nat) : List Value := (tvn_l1 t r g1)
def tvn_l3 (t : Th) (r : Int) (g1 : Nat) (g3 : Nat) : List Value := [.agg (tvn_c0 t), .int .i64 r, .pointer (some ⟨g1, 0, none⟩), zz, .pointer (some ⟨g3, 0, none⟩), .int .i64 r, .bool true, .bool true, zz, zz, .bool true, .agg #[.int .i64 0, .int .i64 0, .int .i64 0], zz, zz, zz, zz]
def tvn_b4 (t : Th) (r : Int) (g1 : Nat) (g3 : Nat) : List Value := (tvn_l3 t r g1 g3)
def tvo_c0 (t : Th) : Array Value := #[.int .i64 t.pc, .int .i64 t.fu, .int .i64 t.st, .int .i64 (t.R 0), .int .i64 (t.R 1), .int .i64 (t.R 2), .int .i64 (t.R 3), .int .i64 (t.R 4), .int .i64 (t.R 5), .int .i64 (t.R 6), .int .i64 (t.R 7), .int .i64 (t.R 8), .int .i64 (t.R 9), .int .i64 (t.R 10), .int .i64 (t.R 11), .int .i64 t.kd, .int .i64 t.mi, .int .i64 t.mn, t.sv, t.bv, t.nv, .int .i64 t.old]
def tvo_l1 (t : Th) (r : Int) (g1 : Nat) : List Value := [.agg (tvo_c0 t), .int .i64 r, .pointer (some ⟨g1, 0, none⟩), zz, zz, zz, zz, zz, zz, zz, zz, zz, zz, zz, zz, zz]
def tvo_b2 (t : Th) (r : Int) (g1 : Nat) : List Value := (tvo_l1 t r g1)
def tvo_l3 (t : Th) (r : Int) (g1 : Nat) (g3 : Nat) : List Value := [.agg (tvo_c0 t), .int .i64 r, .pointer (some ⟨g1, 0, none⟩), zz, .pointer (some ⟨g3, 0, none⟩), .int .i64 r, .bool false, .bool false, .int .i64 r, .bool true, zz, zz, zz, zz, zz, zz]
def tvo_b4 (t : Th) (r : Int) (g1 : Nat) (g3 : Nat) : List Value := (tvo_l3 t r g1 g3)
def tv0_c0 (t : Th) : Array Value := #[.int .i64 t.pc, .int .i64 t.fu, .int .i64 t.st, .int .i64 (t.R 0), .int .i64 (t.R 1), .int .i64 (t.R 2), .int .i64 (t.R 3), .int .i64 (t.R 4), .int .i64 (t.R 5), .int .i64 (t.R 6), .int .i64 (t.R 7), .int .i64 (t.R 8), .int .i64 (t.R 9), .int .i64 (t.R 10), .int .i64 (t.R 11), .int .i64 t.kd, .int .i64 t.mi, .int .i64 t.mn, t.sv, t.bv, t.nv, .int .i64 t.old]
def tv0_l1 (t : Th) (g1 : Nat) : List Value := [.agg (tv0_c0 t), .int .i64 0, .pointer (some ⟨g1, 0, none⟩), zz, zz, zz, zz, zz, zz, zz, zz, zz, zz, zz, zz, zz]
def tv0_b2 (t : Th) (g1 : Nat) : List Value := (tv0_l1 t g1)
def tv0_l3 (t : Th) (g1 : Nat) (g3 : Nat) : List Value := [.agg (tv0_c0 t), .int .i64 0, .pointer (some ⟨g1, 0, none⟩), zz, .pointer (some ⟨g3, 0, none⟩), .int .i64 0, .bool false, .bool false, .int .i64 0, .bool false, zz, zz, zz, zz, zz, zz]
def tv0_b4 (t : Th) (g1 : Nat) (g3 : Nat) : List Value := (tv0_l3 t g1 g3)
def tv1_c0 (t : Th) : Array Value := #[.int .i64 t.pc, .int .i64 t.fu, .int .i64 t.st, .int .i64 (t.R 0), .int .i64 (t.R 1), .int .i64 (t.R 2), .int .i64 (t.R 3), .int .i64 (t.R 4), .int .i64 (t.R 5), .int .i64 (t.R 6), .int .i64 (t.R 7), .int .i64 (t.R 8), .int .i64 (t.R 9), .int .i64 (t.R 10), .int .i64 (t.R 11), .int .i64 t.kd, .int .i64 t.mi, .int .i64 t.mn, t.sv, t.bv, t.nv, .int .i64 t.old]
def tv1_l1 (t : Th) (g1 : Nat) : List Value := [.agg (tv1_c0 t), .int .i64 1, .pointer (some ⟨g1, 0, none⟩), zz, zz, zz, zz, zz, zz, zz, zz, zz, zz, zz, zz, zz]
def tv1_b2 (t : Th) (g1 : Nat) : List Value := (tv1_l1 t g1)
def tv1_l3 (t : Th) (g1 : Nat) (g3 : Nat) : List Value := [.agg (tv1_c0 t), .int .i64 1, .pointer (some ⟨g1, 0, none⟩), zz, .pointer (some ⟨g3, 0, none⟩), .int .i64 1, .bool false, .bool false, .int .i64 1, .bool false, zz, zz, zz, zz, zz, zz]
def tv1_b4 (t : Th) (g1 : Nat) (g3 : Nat) : List Value := (tv1_l3 t g1 g3)
def tv2_c0 (t : Th) : Array Value := #[.int .i64 t.pc, .int .i64 t.fu, .int .i64 t.st, .int .i64 (t.R 0), .int .i64 (t.R 1), .int .i64 (t.R 2), .int .i64 (t.R 3), .int .i64 (t.R 4), .int .i64 (t.R 5), .int .i64 (t.R 6), .int .i64 (t.R 7), .int .i64 (t.R 8), .int .i64 (t.R 9), .int .i64 (t.R 10), .int .i64 (t.R 11), .int .i64 t.kd, .int .i64 t.mi, .int .i64 t.mn, t.sv, t.bv, t.nv, .int .i64 t.old]
def tv2_l1 (t : Th) (g1 : Nat) : List Value := [.agg (tv2_c0 t), .int .i64 2, .pointer (some ⟨g1, 0, none⟩), zz, zz, zz, zz, zz, zz, zz, zz, zz, zz, zz, zz, zz]
def tv2_b2 (t : Th) (g1 : Nat) : List Value := (tv2_l1 t g1)
def tv2_l3 (t : Th) (g1 : Nat) (g3 : Nat) : List Value := [.agg (tv2_c0 t), .int .i64 2, .pointer (some ⟨g1, 0, none⟩), zz, .pointer (some ⟨g3, 0, none⟩), .int .i64 2, .bool false, .bool false, .int .i64 2, .bool false, zz, zz, zz, zz, zz, zz]
def tv2_b4 (t : Th) (g1 : Nat) (g3 : Nat) : List Value := (tv2_l3 t g1 g3)
def tv3_c0 (t : Th) : Array Value := #[.int .i64 t.pc, .int .i64 t.fu, .int .i64 t.st, .int .i64 (t.R 0), .int .i64 (t.R 1), .int .i64 (t.R 2), .int .i64 (t.R 3), .int .i64 (t.R 4), .int .i64 (t.R 5), .int .i64 (t.R 6), .int .i64 (t.R 7), .int .i64 (t.R 8), .int .i64 (t.R 9), .int .i64 (t.R 10), .int .i64 (t.R 11), .int .i64 t.kd, .int .i64 t.mi, .int .i64 t.mn, t.sv, t.bv, t.nv, .int .i64 t.old]
def tv3_l1 (t : Th) (g1 : Nat) : List Value := [.agg (tv3_c0 t), .int .i64 3, .pointer (some ⟨g1, 0, none⟩), zz, zz, zz, zz, zz, zz, zz, zz, zz, zz, zz, zz, zz]
def tv3_b2 (t : Th) (g1 : Nat) : List Value := (tv3_l1 t g1)
def tv3_l3 (t : Th) (g1 : Nat) (g3 : Nat) : List Value := [.agg (tv3_c0 t), .int .i64 3, .pointer (some ⟨g1, 0, none⟩), zz, .pointer (some ⟨g3, 0, none⟩), .int .i64 3, .bool false, .bool false, .int .i64 3, .bool false, zz, zz, zz, zz, zz, zz]
def tv3_b4 (t : Th) (g1 : Nat) (g3 : Nat) : List Value := (tv3_l3 t g1 g3)
set_option maxHeartbeats 8000000 in
set_option maxRecDepth 100000 in
theorem th_rGet (t : Th) (r : Int) (w : World) : Calls Try.prog 20 #[.agg t.cells, .int .i64 r] w fun e w' => e = .returned (.agg #[.int .i64 (getR t.R r 0), .int .i64 (getR t.R r 1), .int .i64 (getR t.R r 2)]) ∧ Below w.heap.size w w' := by
  have hc : r < 0 ∨ (0 ≤ r ∧ 3 < r) ∨ r = 0 ∨ r = 1 ∨ r = 2 ∨ r = 3 := by omega
  rcases hc with hrr | hrr | rfl | rfl | rfl | rfl
  · skip
    refine calls_of_wp Try.func20 rfl ?_
    have hW := Ws.nil w
    refine wp_seq ?_
    refine wp_region_list ?_
    obtain ⟨g1, W2, hr, hW, hbb, hge⟩ := hW.mk1 (P := Try.prog) (s := Instr.box 32 (.agg (tvn_c0 t))) (tvn_c0 t) 32 (by kernel_rfl)
    refine se (a' := (up (tvn_b2 t r g1) [])) (.pointer (some ⟨g1, 0, none⟩)) (Eq.trans (b := (do pure (Next.value (← Instr.box 32 (.agg (tvn_c0 t)))) : Sem Next).run Try.prog w) (by kernel_rfl) (st_val hr)) ?_
    obtain ⟨g3, W4, hr, hW, hbb, hge⟩ := hW.mk1 (P := Try.prog) (s := Instr.alloc 25 true (.tuple #[])) #[.int .i64 0, .int .i64 0, .int .i64 0] 25 (by kernel_rfl)
    refine se (a' := (up (tvn_b2 t r g1) [(4, .pointer (some ⟨g3, 0, none⟩))])) (.pointer (some ⟨g3, 0, none⟩)) (Eq.trans (b := (do pure (Next.value (← Instr.alloc 25 true (.tuple #[]))) : Sem Next).run Try.prog W2) (by kernel_rfl) (st_val hr)) ?_
    refine wpList_nil ?_
    refine wp_seq ?_
    refine wp_seq ?_
    refine wp_region_list ?_
    refine skp (.int .i64 r) ?_
    refine sep (.bool true) (Eq.trans (b := .ok (.value (.bool (decide ((r : Int) < 0)))) W4) (by kernel_rfl) (st_ok (decide_eq_true (by omega)))) ?_
    refine st_ones (w' := W4) (a' := (up (tvn_b2 t r g1) [(4, .pointer (some ⟨g3, 0, none⟩)), (5, .int .i64 r), (6, .bool true), (7, .bool true)])) (a2 := (up (tvn_b2 t r g1) [(4, .pointer (some ⟨g3, 0, none⟩)), (5, .int .i64 r), (6, .bool true), (7, .bool true)])) 2 (.bool true) (by kernel_rfl) (by kernel_rfl) (by kernel_rfl) (by kernel_rfl) (by kernel_rfl) ?_
    refine sk (a' := (up (tvn_b2 t r g1) [(4, .pointer (some ⟨g3, 0, none⟩)), (5, .int .i64 r), (6, .bool true), (7, .bool true), (10, .bool true)])) (.bool true) ?_
    refine wpList_nil ?_
    refine wp_cond (t := true) (by kernel_rfl) ?_
    refine wp_seq ?_
    refine wp_region_list ?_
    refine sk (a' := (up (tvn_b4 t r g1 g3) [])) (.agg #[.int .i64 0, .int .i64 0, .int .i64 0]) ?_
    obtain ⟨W5, hr, hW, hF⟩ := hW.storeN (P := Try.prog) (o := 0) (cs' := #[.int .i64 0, .int .i64 0, .int .i64 0]) (L' := [(g3, 25, #[.int .i64 0, .int .i64 0, .int .i64 0]), (g1, 32, (tvn_c0 t))]) 0 rfl #[.int .i64 0, .int .i64 0, .int .i64 0] (by kernel_rfl) (Nat.le_of_ble_eq_true rfl) (by kernel_rfl) rfl 25 (by kernel_rfl)
    refine st_none (w' := W5) (a' := (up (tvn_b4 t r g1 g3) [])) (by kernel_rfl) (Eq.trans (b := (do Instr.storeAt 25 (.pointer (some ⟨g3, 0, none⟩)) (.agg #[.int .i64 0, .int .i64 0, .int .i64 0]); pure Next.skip : Sem Next).run Try.prog W4) (by kernel_rfl) (st_unit hr)) (by kernel_rfl) ?_
    refine wpList_nil ?_
    refine wp_ret ?_
    (try simp only [Exit.then, Exit.inBlock])
    change bodyPost Try.prog Try.f20 _ .ret _ _
    refine bodyPost_ret (results_single rfl (.cell g3 25 _ (0, 0) _ (by kernel_rfl) (hW.blk 0 _ _ _ rfl).1 Try.underlying25 rfl (by kernel_rfl) .nil)) rfl ?_
    refine ⟨?_, hW.below⟩
    unfold getR
    simp only [if_neg (show ¬ (0 ≤ r ∧ r ≤ 3) by omega)]
  · skip
    refine calls_of_wp Try.func20 rfl ?_
    have hW := Ws.nil w
    refine wp_seq ?_
    refine wp_region_list ?_
    obtain ⟨g1, W2, hr, hW, hbb, hge⟩ := hW.mk1 (P := Try.prog) (s := Instr.box 32 (.agg (tvo_c0 t))) (tvo_c0 t) 32 (by kernel_rfl)
    refine se (a' := (up (tvo_b2 t r g1) [])) (.pointer (some ⟨g1, 0, none⟩)) (Eq.trans (b := (do pure (Next.value (← Instr.box 32 (.agg (tvo_c0 t)))) : Sem Next).run Try.prog w) (by kernel_rfl) (st_val hr)) ?_
    obtain ⟨g3, W4, hr, hW, hbb, hge⟩ := hW.mk1 (P := Try.prog) (s := Instr.alloc 25 true (.tuple #[])) #[.int .i64 0, .int .i64 0, .int .i64 0] 25 (by kernel_rfl)
    refine se (a' := (up (tvo_b2 t r g1) [(4, .pointer (some ⟨g3, 0, none⟩))])) (.pointer (some ⟨g3, 0, none⟩)) (Eq.trans (b := (do pure (Next.value (← Instr.alloc 25 true (.tuple #[]))) : Sem Next).run Try.prog W2) (by kernel_rfl) (st_val hr)) ?_
    refine wpList_nil ?_
    refine wp_seq ?_
    refine wp_seq ?_
    refine wp_region_list ?_
    refine skp (.int .i64 r) ?_
    refine sep (.bool false) (Eq.trans (b := .ok (.value (.bool (decide ((r : Int) < 0)))) W4) (by kernel_rfl) (st_ok (decide_eq_false (by omega)))) ?_
    refine sk (a' := (up (tvo_b2 t r g1) [(4, .pointer (some ⟨g3, 0, none⟩)), (5, .int .i64 r), (6, .bool false), (7, .bool false)])) (.bool false) ?_
    refine sk (a' := (up (tvo_b2 t r g1) [(4, .pointer (some ⟨g3, 0, none⟩)), (5, .int .i64 r), (6, .bool false), (7, .bool false), (8, .int .i64 r)])) (.int .i64 r) ?_
    refine sep (.bool true) (Eq.trans (b := .ok (.value (.bool (decide ((r : Int) > 3)))) W4) (by kernel_rfl) (st_ok (decide_eq_true (by omega)))) ?_
    refine sk (a' := (up (tvo_b4 t r g1 g3) [(10, .bool true)])) (.bool true) ?_
    refine wpList_nil ?_
    refine wp_cond (t := true) (by kernel_rfl) ?_
    refine wp_seq ?_
    refine wp_region_list ?_
    refine sk (a' := (up (tvo_b4 t r g1 g3) [(10, .bool true), (11, .agg #[.int .i64 0, .int .i64 0, .int .i64 0])])) (.agg #[.int .i64 0, .int .i64 0, .int .i64 0]) ?_
    obtain ⟨W5, hr, hW, hF⟩ := hW.storeN (P := Try.prog) (o := 0) (cs' := #[.int .i64 0, .int .i64 0, .int .i64 0]) (L' := [(g3, 25, #[.int .i64 0, .int .i64 0, .int .i64 0]), (g1, 32, (tvo_c0 t))]) 0 rfl #[.int .i64 0, .int .i64 0, .int .i64 0] (by kernel_rfl) (Nat.le_of_ble_eq_true rfl) (by kernel_rfl) rfl 25 (by kernel_rfl)
    refine st_none (w' := W5) (a' := (up (tvo_b4 t r g1 g3) [(10, .bool true), (11, .agg #[.int .i64 0, .int .i64 0, .int .i64 0])])) (by kernel_rfl) (Eq.trans (b := (do Instr.storeAt 25 (.pointer (some ⟨g3, 0, none⟩)) (.agg #[.int .i64 0, .int .i64 0, .int .i64 0]); pure Next.skip : Sem Next).run Try.prog W4) (by kernel_rfl) (st_unit hr)) (by kernel_rfl) ?_
    refine wpList_nil ?_
    refine wp_ret ?_
    (try simp only [Exit.then, Exit.inBlock])
    change bodyPost Try.prog Try.f20 _ .ret _ _
    refine bodyPost_ret (results_single rfl (.cell g3 25 _ (0, 0) _ (by kernel_rfl) (hW.blk 0 _ _ _ rfl).1 Try.underlying25 rfl (by kernel_rfl) .nil)) rfl ?_
    refine ⟨?_, hW.below⟩
    unfold getR
    simp only [if_neg (show ¬ (0 ≤ r ∧ r ≤ 3) by omega)]
  · skip
    refine calls_of_wp Try.func20 rfl ?_
    have hW := Ws.nil w
    refine wp_seq ?_
    refine wp_region_list ?_
    obtain ⟨g1, W2, hr, hW, hbb, hge⟩ := hW.mk1 (P := Try.prog) (s := Instr.box 32 (.agg (tv0_c0 t))) (tv0_c0 t) 32 (by kernel_rfl)
    refine se (a' := (up (tv0_b2 t g1) [])) (.pointer (some ⟨g1, 0, none⟩)) (Eq.trans (b := (do pure (Next.value (← Instr.box 32 (.agg (tv0_c0 t)))) : Sem Next).run Try.prog w) (by kernel_rfl) (st_val hr)) ?_
    obtain ⟨g3, W4, hr, hW, hbb, hge⟩ := hW.mk1 (P := Try.prog) (s := Instr.alloc 25 true (.tuple #[])) #[.int .i64 0, .int .i64 0, .int .i64 0] 25 (by kernel_rfl)
    refine se (a' := (up (tv0_b2 t g1) [(4, .pointer (some ⟨g3, 0, none⟩))])) (.pointer (some ⟨g3, 0, none⟩)) (Eq.trans (b := (do pure (Next.value (← Instr.alloc 25 true (.tuple #[]))) : Sem Next).run Try.prog W2) (by kernel_rfl) (st_val hr)) ?_
    refine wpList_nil ?_
    refine wp_seq ?_
    refine wp_seq ?_
    refine wp_region_list ?_
    refine skp (.int .i64 0) ?_
    refine skp (.bool false) ?_
    refine sk (a' := (up (tv0_b2 t g1) [(4, .pointer (some ⟨g3, 0, none⟩)), (5, .int .i64 0), (6, .bool false), (7, .bool false)])) (.bool false) ?_
    refine sk (a' := (up (tv0_b2 t g1) [(4, .pointer (some ⟨g3, 0, none⟩)), (5, .int .i64 0), (6, .bool false), (7, .bool false), (8, .int .i64 0)])) (.int .i64 0) ?_
    refine skp (.bool false) ?_
    refine sk (a' := (up (tv0_b4 t g1 g3) [(10, .bool false)])) (.bool false) ?_
    refine wpList_nil ?_
    refine wp_cond (t := false) (by kernel_rfl) ?_
    refine wp_skip ?_
    refine wp_seq ?_
    refine wp_region_list ?_
    refine skp (.int .i64 0) ?_
    refine skp (.pointer (some ⟨g1, 3, none⟩)) ?_
    refine sk (a' := (up (tv0_b4 t g1 g3) [(10, .bool false), (12, .int .i64 0), (13, .pointer (some ⟨g1, 3, none⟩)), (14, .pointer (some ⟨g1, 3, none⟩))])) (.pointer (some ⟨g1, 3, none⟩)) ?_
    refine se (a' := (up (tv0_b4 t g1 g3) [(10, .bool false), (12, .int .i64 0), (13, .pointer (some ⟨g1, 3, none⟩)), (14, .pointer (some ⟨g1, 3, none⟩)), (15, .agg #[.int .i64 (t.R 0), .int .i64 (t.R 1), .int .i64 (t.R 2)])])) (.agg #[.int .i64 (t.R 0), .int .i64 (t.R 1), .int .i64 (t.R 2)]) (evA hW 1 3 Try.underlying25) ?_
    obtain ⟨W5, hr, hW, hF⟩ := hW.storeN (P := Try.prog) (o := 0) (cs' := #[.int .i64 (t.R 0), .int .i64 (t.R 1), .int .i64 (t.R 2)]) (L' := [(g3, 25, #[.int .i64 (t.R 0), .int .i64 (t.R 1), .int .i64 (t.R 2)]), (g1, 32, (tv0_c0 t))]) 0 rfl #[.int .i64 (t.R 0), .int .i64 (t.R 1), .int .i64 (t.R 2)] (by kernel_rfl) (Nat.le_of_ble_eq_true rfl) (by kernel_rfl) rfl 25 (by kernel_rfl)
    refine st_none (w' := W5) (a' := (up (tv0_b4 t g1 g3) [(10, .bool false), (12, .int .i64 0), (13, .pointer (some ⟨g1, 3, none⟩)), (14, .pointer (some ⟨g1, 3, none⟩)), (15, .agg #[.int .i64 (t.R 0), .int .i64 (t.R 1), .int .i64 (t.R 2)])])) (by kernel_rfl) (Eq.trans (b := (do Instr.storeAt 25 (.pointer (some ⟨g3, 0, none⟩)) (.agg #[.int .i64 (t.R 0), .int .i64 (t.R 1), .int .i64 (t.R 2)]); pure Next.skip : Sem Next).run Try.prog W4) (by kernel_rfl) (st_unit hr)) (by kernel_rfl) ?_
    refine wpList_nil ?_
    refine wp_ret ?_
    (try simp only [Exit.then, Exit.inBlock])
    change bodyPost Try.prog Try.f20 _ .ret _ _
    refine bodyPost_ret (results_single rfl (.cell g3 25 _ (0, 0) _ (by kernel_rfl) (hW.blk 0 _ _ _ rfl).1 Try.underlying25 rfl (by kernel_rfl) .nil)) rfl ?_
    exact ⟨rfl, hW.below⟩
  · skip
    refine calls_of_wp Try.func20 rfl ?_
    have hW := Ws.nil w
    refine wp_seq ?_
    refine wp_region_list ?_
    obtain ⟨g1, W2, hr, hW, hbb, hge⟩ := hW.mk1 (P := Try.prog) (s := Instr.box 32 (.agg (tv1_c0 t))) (tv1_c0 t) 32 (by kernel_rfl)
    refine se (a' := (up (tv1_b2 t g1) [])) (.pointer (some ⟨g1, 0, none⟩)) (Eq.trans (b := (do pure (Next.value (← Instr.box 32 (.agg (tv1_c0 t)))) : Sem Next).run Try.prog w) (by kernel_rfl) (st_val hr)) ?_
    obtain ⟨g3, W4, hr, hW, hbb, hge⟩ := hW.mk1 (P := Try.prog) (s := Instr.alloc 25 true (.tuple #[])) #[.int .i64 0, .int .i64 0, .int .i64 0] 25 (by kernel_rfl)
    refine se (a' := (up (tv1_b2 t g1) [(4, .pointer (some ⟨g3, 0, none⟩))])) (.pointer (some ⟨g3, 0, none⟩)) (Eq.trans (b := (do pure (Next.value (← Instr.alloc 25 true (.tuple #[]))) : Sem Next).run Try.prog W2) (by kernel_rfl) (st_val hr)) ?_
    refine wpList_nil ?_
    refine wp_seq ?_
    refine wp_seq ?_
    refine wp_region_list ?_
    refine skp (.int .i64 1) ?_
    refine skp (.bool false) ?_
    refine sk (a' := (up (tv1_b2 t g1) [(4, .pointer (some ⟨g3, 0, none⟩)), (5, .int .i64 1), (6, .bool false), (7, .bool false)])) (.bool false) ?_
    refine sk (a' := (up (tv1_b2 t g1) [(4, .pointer (some ⟨g3, 0, none⟩)), (5, .int .i64 1), (6, .bool false), (7, .bool false), (8, .int .i64 1)])) (.int .i64 1) ?_
    refine skp (.bool false) ?_
    refine sk (a' := (up (tv1_b4 t g1 g3) [(10, .bool false)])) (.bool false) ?_
    refine wpList_nil ?_
    refine wp_cond (t := false) (by kernel_rfl) ?_
    refine wp_skip ?_
    refine wp_seq ?_
    refine wp_region_list ?_
    refine skp (.int .i64 1) ?_
    refine skp (.pointer (some ⟨g1, 3, none⟩)) ?_
    refine sk (a' := (up (tv1_b4 t g1 g3) [(10, .bool false), (12, .int .i64 1), (13, .pointer (some ⟨g1, 3, none⟩)), (14, .pointer (some ⟨g1, 6, none⟩))])) (.pointer (some ⟨g1, 6, none⟩)) ?_
    refine se (a' := (up (tv1_b4 t g1 g3) [(10, .bool false), (12, .int .i64 1), (13, .pointer (some ⟨g1, 3, none⟩)), (14, .pointer (some ⟨g1, 6, none⟩)), (15, .agg #[.int .i64 (t.R 3), .int .i64 (t.R 4), .int .i64 (t.R 5)])])) (.agg #[.int .i64 (t.R 3), .int .i64 (t.R 4), .int .i64 (t.R 5)]) (evA hW 1 6 Try.underlying25) ?_
    obtain ⟨W5, hr, hW, hF⟩ := hW.storeN (P := Try.prog) (o := 0) (cs' := #[.int .i64 (t.R 3), .int .i64 (t.R 4), .int .i64 (t.R 5)]) (L' := [(g3, 25, #[.int .i64 (t.R 3), .int .i64 (t.R 4), .int .i64 (t.R 5)]), (g1, 32, (tv1_c0 t))]) 0 rfl #[.int .i64 (t.R 3), .int .i64 (t.R 4), .int .i64 (t.R 5)] (by kernel_rfl) (Nat.le_of_ble_eq_true rfl) (by kernel_rfl) rfl 25 (by kernel_rfl)
    refine st_none (w' := W5) (a' := (up (tv1_b4 t g1 g3) [(10, .bool false), (12, .int .i64 1), (13, .pointer (some ⟨g1, 3, none⟩)), (14, .pointer (some ⟨g1, 6, none⟩)), (15, .agg #[.int .i64 (t.R 3), .int .i64 (t.R 4), .int .i64 (t.R 5)])])) (by kernel_rfl) (Eq.trans (b := (do Instr.storeAt 25 (.pointer (some ⟨g3, 0, none⟩)) (.agg #[.int .i64 (t.R 3), .int .i64 (t.R 4), .int .i64 (t.R 5)]); pure Next.skip : Sem Next).run Try.prog W4) (by kernel_rfl) (st_unit hr)) (by kernel_rfl) ?_
    refine wpList_nil ?_
    refine wp_ret ?_
    (try simp only [Exit.then, Exit.inBlock])
    change bodyPost Try.prog Try.f20 _ .ret _ _
    refine bodyPost_ret (results_single rfl (.cell g3 25 _ (0, 0) _ (by kernel_rfl) (hW.blk 0 _ _ _ rfl).1 Try.underlying25 rfl (by kernel_rfl) .nil)) rfl ?_
    exact ⟨rfl, hW.below⟩
  · skip
    refine calls_of_wp Try.func20 rfl ?_
    have hW := Ws.nil w
    refine wp_seq ?_
    refine wp_region_list ?_
    obtain ⟨g1, W2, hr, hW, hbb, hge⟩ := hW.mk1 (P := Try.prog) (s := Instr.box 32 (.agg (tv2_c0 t))) (tv2_c0 t) 32 (by kernel_rfl)
    refine se (a' := (up (tv2_b2 t g1) [])) (.pointer (some ⟨g1, 0, none⟩)) (Eq.trans (b := (do pure (Next.value (← Instr.box 32 (.agg (tv2_c0 t)))) : Sem Next).run Try.prog w) (by kernel_rfl) (st_val hr)) ?_
    obtain ⟨g3, W4, hr, hW, hbb, hge⟩ := hW.mk1 (P := Try.prog) (s := Instr.alloc 25 true (.tuple #[])) #[.int .i64 0, .int .i64 0, .int .i64 0] 25 (by kernel_rfl)
    refine se (a' := (up (tv2_b2 t g1) [(4, .pointer (some ⟨g3, 0, none⟩))])) (.pointer (some ⟨g3, 0, none⟩)) (Eq.trans (b := (do pure (Next.value (← Instr.alloc 25 true (.tuple #[]))) : Sem Next).run Try.prog W2) (by kernel_rfl) (st_val hr)) ?_
    refine wpList_nil ?_
    refine wp_seq ?_
    refine wp_seq ?_
    refine wp_region_list ?_
    refine skp (.int .i64 2) ?_
    refine skp (.bool false) ?_
    refine sk (a' := (up (tv2_b2 t g1) [(4, .pointer (some ⟨g3, 0, none⟩)), (5, .int .i64 2), (6, .bool false), (7, .bool false)])) (.bool false) ?_
    refine sk (a' := (up (tv2_b2 t g1) [(4, .pointer (some ⟨g3, 0, none⟩)), (5, .int .i64 2), (6, .bool false), (7, .bool false), (8, .int .i64 2)])) (.int .i64 2) ?_
    refine skp (.bool false) ?_
    refine sk (a' := (up (tv2_b4 t g1 g3) [(10, .bool false)])) (.bool false) ?_
    refine wpList_nil ?_
    refine wp_cond (t := false) (by kernel_rfl) ?_
    refine wp_skip ?_
    refine wp_seq ?_
    refine wp_region_list ?_
    refine skp (.int .i64 2) ?_
    refine skp (.pointer (some ⟨g1, 3, none⟩)) ?_
    refine sk (a' := (up (tv2_b4 t g1 g3) [(10, .bool false), (12, .int .i64 2), (13, .pointer (some ⟨g1, 3, none⟩)), (14, .pointer (some ⟨g1, 9, none⟩))])) (.pointer (some ⟨g1, 9, none⟩)) ?_
    refine se (a' := (up (tv2_b4 t g1 g3) [(10, .bool false), (12, .int .i64 2), (13, .pointer (some ⟨g1, 3, none⟩)), (14, .pointer (some ⟨g1, 9, none⟩)), (15, .agg #[.int .i64 (t.R 6), .int .i64 (t.R 7), .int .i64 (t.R 8)])])) (.agg #[.int .i64 (t.R 6), .int .i64 (t.R 7), .int .i64 (t.R 8)]) (evA hW 1 9 Try.underlying25) ?_
    obtain ⟨W5, hr, hW, hF⟩ := hW.storeN (P := Try.prog) (o := 0) (cs' := #[.int .i64 (t.R 6), .int .i64 (t.R 7), .int .i64 (t.R 8)]) (L' := [(g3, 25, #[.int .i64 (t.R 6), .int .i64 (t.R 7), .int .i64 (t.R 8)]), (g1, 32, (tv2_c0 t))]) 0 rfl #[.int .i64 (t.R 6), .int .i64 (t.R 7), .int .i64 (t.R 8)] (by kernel_rfl) (Nat.le_of_ble_eq_true rfl) (by kernel_rfl) rfl 25 (by kernel_rfl)
    refine st_none (w' := W5) (a' := (up (tv2_b4 t g1 g3) [(10, .bool false), (12, .int .i64 2), (13, .pointer (some ⟨g1, 3, none⟩)), (14, .pointer (some ⟨g1, 9, none⟩)), (15, .agg #[.int .i64 (t.R 6), .int .i64 (t.R 7), .int .i64 (t.R 8)])])) (by kernel_rfl) (Eq.trans (b := (do Instr.storeAt 25 (.pointer (some ⟨g3, 0, none⟩)) (.agg #[.int .i64 (t.R 6), .int .i64 (t.R 7), .int .i64 (t.R 8)]); pure Next.skip : Sem Next).run Try.prog W4) (by kernel_rfl) (st_unit hr)) (by kernel_rfl) ?_
    refine wpList_nil ?_
    refine wp_ret ?_
    (try simp only [Exit.then, Exit.inBlock])
    change bodyPost Try.prog Try.f20 _ .ret _ _
    refine bodyPost_ret (results_single rfl (.cell g3 25 _ (0, 0) _ (by kernel_rfl) (hW.blk 0 _ _ _ rfl).1 Try.underlying25 rfl (by kernel_rfl) .nil)) rfl ?_
    exact ⟨rfl, hW.below⟩
  · skip
    refine calls_of_wp Try.func20 rfl ?_
    have hW := Ws.nil w
    refine wp_seq ?_
    refine wp_region_list ?_
    obtain ⟨g1, W2, hr, hW, hbb, hge⟩ := hW.mk1 (P := Try.prog) (s := Instr.box 32 (.agg (tv3_c0 t))) (tv3_c0 t) 32 (by kernel_rfl)
    refine se (a' := (up (tv3_b2 t g1) [])) (.pointer (some ⟨g1, 0, none⟩)) (Eq.trans (b := (do pure (Next.value (← Instr.box 32 (.agg (tv3_c0 t)))) : Sem Next).run Try.prog w) (by kernel_rfl) (st_val hr)) ?_
    obtain ⟨g3, W4, hr, hW, hbb, hge⟩ := hW.mk1 (P := Try.prog) (s := Instr.alloc 25 true (.tuple #[])) #[.int .i64 0, .int .i64 0, .int .i64 0] 25 (by kernel_rfl)
    refine se (a' := (up (tv3_b2 t g1) [(4, .pointer (some ⟨g3, 0, none⟩))])) (.pointer (some ⟨g3, 0, none⟩)) (Eq.trans (b := (do pure (Next.value (← Instr.alloc 25 true (.tuple #[]))) : Sem Next).run Try.prog W2) (by kernel_rfl) (st_val hr)) ?_
    refine wpList_nil ?_
    refine wp_seq ?_
    refine wp_seq ?_
    refine wp_region_list ?_
    refine skp (.int .i64 3) ?_
    refine skp (.bool false) ?_
    refine sk (a' := (up (tv3_b2 t g1) [(4, .pointer (some ⟨g3, 0, none⟩)), (5, .int .i64 3), (6, .bool false), (7, .bool false)])) (.bool false) ?_
    refine sk (a' := (up (tv3_b2 t g1) [(4, .pointer (some ⟨g3, 0, none⟩)), (5, .int .i64 3), (6, .bool false), (7, .bool false), (8, .int .i64 3)])) (.int .i64 3) ?_
    refine skp (.bool false) ?_
    refine sk (a' := (up (tv3_b4 t g1 g3) [(10, .bool false)])) (.bool false) ?_
    refine wpList_nil ?_
    refine wp_cond (t := false) (by kernel_rfl) ?_
    refine wp_skip ?_
    refine wp_seq ?_
    refine wp_region_list ?_
    refine skp (.int .i64 3) ?_
    refine skp (.pointer (some ⟨g1, 3, none⟩)) ?_
    refine sk (a' := (up (tv3_b4 t g1 g3) [(10, .bool false), (12, .int .i64 3), (13, .pointer (some ⟨g1, 3, none⟩)), (14, .pointer (some ⟨g1, 12, none⟩))])) (.pointer (some ⟨g1, 12, none⟩)) ?_
    refine se (a' := (up (tv3_b4 t g1 g3) [(10, .bool false), (12, .int .i64 3), (13, .pointer (some ⟨g1, 3, none⟩)), (14, .pointer (some ⟨g1, 12, none⟩)), (15, .agg #[.int .i64 (t.R 9), .int .i64 (t.R 10), .int .i64 (t.R 11)])])) (.agg #[.int .i64 (t.R 9), .int .i64 (t.R 10), .int .i64 (t.R 11)]) (evA hW 1 12 Try.underlying25) ?_
    obtain ⟨W5, hr, hW, hF⟩ := hW.storeN (P := Try.prog) (o := 0) (cs' := #[.int .i64 (t.R 9), .int .i64 (t.R 10), .int .i64 (t.R 11)]) (L' := [(g3, 25, #[.int .i64 (t.R 9), .int .i64 (t.R 10), .int .i64 (t.R 11)]), (g1, 32, (tv3_c0 t))]) 0 rfl #[.int .i64 (t.R 9), .int .i64 (t.R 10), .int .i64 (t.R 11)] (by kernel_rfl) (Nat.le_of_ble_eq_true rfl) (by kernel_rfl) rfl 25 (by kernel_rfl)
    refine st_none (w' := W5) (a' := (up (tv3_b4 t g1 g3) [(10, .bool false), (12, .int .i64 3), (13, .pointer (some ⟨g1, 3, none⟩)), (14, .pointer (some ⟨g1, 12, none⟩)), (15, .agg #[.int .i64 (t.R 9), .int .i64 (t.R 10), .int .i64 (t.R 11)])])) (by kernel_rfl) (Eq.trans (b := (do Instr.storeAt 25 (.pointer (some ⟨g3, 0, none⟩)) (.agg #[.int .i64 (t.R 9), .int .i64 (t.R 10), .int .i64 (t.R 11)]); pure Next.skip : Sem Next).run Try.prog W4) (by kernel_rfl) (st_unit hr)) (by kernel_rfl) ?_
    refine wpList_nil ?_
    refine wp_ret ?_
    (try simp only [Exit.then, Exit.inBlock])
    change bodyPost Try.prog Try.f20 _ .ret _ _
    refine bodyPost_ret (results_single rfl (.cell g3 25 _ (0, 0) _ (by kernel_rfl) (hW.blk 0 _ _ _ rfl).1 Try.underlying25 rfl (by kernel_rfl) .nil)) rfl ?_
    exact ⟨rfl, hW.below⟩
def tu_c0 (t : Th) : Array Value := #[.int .i64 t.pc, .int .i64 t.fu, .int .i64 t.st, .int .i64 (t.R 0), .int .i64 (t.R 1), .int .i64 (t.R 2), .int .i64 (t.R 3), .int .i64 (t.R 4), .int .i64 (t.R 5), .int .i64 (t.R 6), .int .i64 (t.R 7), .int .i64 (t.R 8), .int .i64 (t.R 9), .int .i64 (t.R 10), .int .i64 (t.R 11), .int .i64 t.kd, .int .i64 t.mi, .int .i64 t.mn, t.sv, t.bv, t.nv, .int .i64 t.old]
def tu_l1 (t : Th) (r : Int) (n : Int) (c : Int) (g : Int) (g1 : Nat) : List Value := [.agg (tu_c0 t), .int .i64 r, .agg #[.int .i64 n, .int .i64 c, .int .i64 g], .pointer (some ⟨g1, 0, none⟩), zz, zz, zz, zz, zz, zz, zz, zz, zz, zz, zz, zz]
def tu_l2 : List Value := [zz, zz, zz, zz]
def tu_b3 (t : Th) (r : Int) (n : Int) (c : Int) (g : Int) (g1 : Nat) : List Value := (tu_l1 t r n c g g1) ++ (tu_l2)
def tu_c1 : Array Value := #[.int .i64 0, .int .i64 0, .int .i64 0, .int .i64 0, .int .i64 0, .int .i64 0, .int .i64 0, .int .i64 0, .int .i64 0, .int .i64 0, .int .i64 0, .int .i64 0, .int .i64 0, .int .i64 0, .int .i64 0, .int .i64 0, .int .i64 0, .int .i64 0, .slice none 0 0, .slice none 0 0, .slice none 0 0, .int .i64 0]
def tu_c2 (t : Th) (r7 : Rw) : Array Value := #[.int .i64 t.pc, .int .i64 t.fu, .int .i64 t.st, .int .i64 (t.R 0), .int .i64 (t.R 1), .int .i64 (t.R 2), .int .i64 (t.R 3), .int .i64 (t.R 4), .int .i64 (t.R 5), .int .i64 (t.R 6), .int .i64 (t.R 7), .int .i64 (t.R 8), .int .i64 (t.R 9), .int .i64 (t.R 10), .int .i64 (t.R 11), .int .i64 t.kd, .int .i64 t.mi, .int .i64 t.mn, r7.s, r7.b, r7.n, .int .i64 t.old]
def tu_l6 (t : Th) (r : Int) (n : Int) (c : Int) (g : Int) (g1 : Nat) (g3 : Nat) (g5 : Nat) (r7 : Rw) : List Value := [.agg (tu_c0 t), .int .i64 r, .agg #[.int .i64 n, .int .i64 c, .int .i64 g], .pointer (some ⟨g1, 0, none⟩), zz, .pointer (some ⟨g3, 0, none⟩), .pointer (some ⟨g5, 0, none⟩), .agg (tu_c0 t), .agg (tu_c2 t r7), .int .i64 r, .bool false, zz, zz, zz, zz, zz]
def tu_b7 (t : Th) (r : Int) (n : Int) (c : Int) (g : Int) (g1 : Nat) (g3 : Nat) (g5 : Nat) (r7 : Rw) : List Value := (tu_l6 t r n c g g1 g3 g5 r7) ++ (tu_l2)
def tu_l8 (t : Th) (r : Int) (n : Int) (c : Int) (g : Int) (g1 : Nat) (g3 : Nat) (g5 : Nat) (r7 : Rw) : List Value := [.agg (tu_c0 t), .int .i64 r, .agg #[.int .i64 n, .int .i64 c, .int .i64 g], .pointer (some ⟨g1, 0, none⟩), zz, .pointer (some ⟨g3, 0, none⟩), .pointer (some ⟨g5, 0, none⟩), .agg (tu_c0 t), .agg (tu_c2 t r7), .int .i64 r, .bool true, zz, zz, zz, zz, zz]
def tu_b9 (t : Th) (r : Int) (n : Int) (c : Int) (g : Int) (g1 : Nat) (g3 : Nat) (g5 : Nat) (r7 : Rw) : List Value := (tu_l8 t r n c g g1 g3 g5 r7) ++ (tu_l2)
def tu_l10 (t : Th) (n : Int) (c : Int) (g : Int) (g1 : Nat) (g3 : Nat) (g5 : Nat) (r7 : Rw) : List Value := [.agg (tu_c0 t), .int .i64 0, .agg #[.int .i64 n, .int .i64 c, .int .i64 g], .pointer (some ⟨g1, 0, none⟩), zz, .pointer (some ⟨g3, 0, none⟩), .pointer (some ⟨g5, 0, none⟩), .agg (tu_c0 t), .agg (tu_c2 t r7), .int .i64 0, zz, zz, zz, zz, zz, zz]
def tu_b11 (t : Th) (n : Int) (c : Int) (g : Int) (g1 : Nat) (g3 : Nat) (g5 : Nat) (r7 : Rw) : List Value := (tu_l10 t n c g g1 g3 g5 r7) ++ (tu_l2)
def tu_l12 (t : Th) (n : Int) (c : Int) (g : Int) (g1 : Nat) (g3 : Nat) (g5 : Nat) (r7 : Rw) : List Value := [.agg (tu_c0 t), .int .i64 0, .agg #[.int .i64 n, .int .i64 c, .int .i64 g], .pointer (some ⟨g1, 0, none⟩), zz, .pointer (some ⟨g3, 0, none⟩), .pointer (some ⟨g5, 0, none⟩), .agg (tu_c0 t), .agg (tu_c2 t r7), .int .i64 0, .bool true, .bool true, .int .i64 0, .bool true, .bool true, .int .i64 0]
def tu_b13 (t : Th) (n : Int) (c : Int) (g : Int) (g1 : Nat) (g3 : Nat) (g5 : Nat) (r7 : Rw) : List Value := (tu_l12 t n c g g1 g3 g5 r7) ++ (tu_l2)
def tu_c3 (t : Th) (n : Int) (c : Int) (g : Int) (r7 : Rw) : Array Value := #[.int .i64 t.pc, .int .i64 t.fu, .int .i64 t.st, .int .i64 n, .int .i64 c, .int .i64 g, .int .i64 (t.R 3), .int .i64 (t.R 4), .int .i64 (t.R 5), .int .i64 (t.R 6), .int .i64 (t.R 7), .int .i64 (t.R 8), .int .i64 (t.R 9), .int .i64 (t.R 10), .int .i64 (t.R 11), .int .i64 t.kd, .int .i64 t.mi, .int .i64 t.mn, r7.s, r7.b, r7.n, .int .i64 t.old]
def tu_l15 (t : Th) (n : Int) (c : Int) (g : Int) (g1 : Nat) (g3 : Nat) (g5 : Nat) (r7 : Rw) : List Value := [.agg (tu_c0 t), .int .i64 1, .agg #[.int .i64 n, .int .i64 c, .int .i64 g], .pointer (some ⟨g1, 0, none⟩), zz, .pointer (some ⟨g3, 0, none⟩), .pointer (some ⟨g5, 0, none⟩), .agg (tu_c0 t), .agg (tu_c2 t r7), .int .i64 1, zz, zz, zz, zz, zz, zz]
def tu_b16 (t : Th) (n : Int) (c : Int) (g : Int) (g1 : Nat) (g3 : Nat) (g5 : Nat) (r7 : Rw) : List Value := (tu_l15 t n c g g1 g3 g5 r7) ++ (tu_l2)
def tu_l17 (t : Th) (n : Int) (c : Int) (g : Int) (g1 : Nat) (g3 : Nat) (g5 : Nat) (r7 : Rw) : List Value := [.agg (tu_c0 t), .int .i64 1, .agg #[.int .i64 n, .int .i64 c, .int .i64 g], .pointer (some ⟨g1, 0, none⟩), zz, .pointer (some ⟨g3, 0, none⟩), .pointer (some ⟨g5, 0, none⟩), .agg (tu_c0 t), .agg (tu_c2 t r7), .int .i64 1, .bool true, .bool true, .int .i64 1, .bool true, .bool true, .int .i64 1]
def tu_b18 (t : Th) (n : Int) (c : Int) (g : Int) (g1 : Nat) (g3 : Nat) (g5 : Nat) (r7 : Rw) : List Value := (tu_l17 t n c g g1 g3 g5 r7) ++ (tu_l2)
def tu_c4 (t : Th) (n : Int) (c : Int) (g : Int) (r7 : Rw) : Array Value := #[.int .i64 t.pc, .int .i64 t.fu, .int .i64 t.st, .int .i64 (t.R 0), .int .i64 (t.R 1), .int .i64 (t.R 2), .int .i64 n, .int .i64 c, .int .i64 g, .int .i64 (t.R 6), .int .i64 (t.R 7), .int .i64 (t.R 8), .int .i64 (t.R 9), .int .i64 (t.R 10), .int .i64 (t.R 11), .int .i64 t.kd, .int .i64 t.mi, .int .i64 t.mn, r7.s, r7.b, r7.n, .int .i64 t.old]
def tu_l20 (t : Th) (n : Int) (c : Int) (g : Int) (g1 : Nat) (g3 : Nat) (g5 : Nat) (r7 : Rw) : List Value := [.agg (tu_c0 t), .int .i64 2, .agg #[.int .i64 n, .int .i64 c, .int .i64 g], .pointer (some ⟨g1, 0, none⟩), zz, .pointer (some ⟨g3, 0, none⟩), .pointer (some ⟨g5, 0, none⟩), .agg (tu_c0 t), .agg (tu_c2 t r7), .int .i64 2, zz, zz, zz, zz, zz, zz]
def tu_b21 (t : Th) (n : Int) (c : Int) (g : Int) (g1 : Nat) (g3 : Nat) (g5 : Nat) (r7 : Rw) : List Value := (tu_l20 t n c g g1 g3 g5 r7) ++ (tu_l2)
def tu_l22 (t : Th) (n : Int) (c : Int) (g : Int) (g1 : Nat) (g3 : Nat) (g5 : Nat) (r7 : Rw) : List Value := [.agg (tu_c0 t), .int .i64 2, .agg #[.int .i64 n, .int .i64 c, .int .i64 g], .pointer (some ⟨g1, 0, none⟩), zz, .pointer (some ⟨g3, 0, none⟩), .pointer (some ⟨g5, 0, none⟩), .agg (tu_c0 t), .agg (tu_c2 t r7), .int .i64 2, .bool true, .bool true, .int .i64 2, .bool true, .bool true, .int .i64 2]
def tu_b23 (t : Th) (n : Int) (c : Int) (g : Int) (g1 : Nat) (g3 : Nat) (g5 : Nat) (r7 : Rw) : List Value := (tu_l22 t n c g g1 g3 g5 r7) ++ (tu_l2)
def tu_c5 (t : Th) (n : Int) (c : Int) (g : Int) (r7 : Rw) : Array Value := #[.int .i64 t.pc, .int .i64 t.fu, .int .i64 t.st, .int .i64 (t.R 0), .int .i64 (t.R 1), .int .i64 (t.R 2), .int .i64 (t.R 3), .int .i64 (t.R 4), .int .i64 (t.R 5), .int .i64 n, .int .i64 c, .int .i64 g, .int .i64 (t.R 9), .int .i64 (t.R 10), .int .i64 (t.R 11), .int .i64 t.kd, .int .i64 t.mi, .int .i64 t.mn, r7.s, r7.b, r7.n, .int .i64 t.old]
def tu_l25 (t : Th) (n : Int) (c : Int) (g : Int) (g1 : Nat) (g3 : Nat) (g5 : Nat) (r7 : Rw) : List Value := [.agg (tu_c0 t), .int .i64 3, .agg #[.int .i64 n, .int .i64 c, .int .i64 g], .pointer (some ⟨g1, 0, none⟩), zz, .pointer (some ⟨g3, 0, none⟩), .pointer (some ⟨g5, 0, none⟩), .agg (tu_c0 t), .agg (tu_c2 t r7), .int .i64 3, zz, zz, zz, zz, zz, zz]
def tu_b26 (t : Th) (n : Int) (c : Int) (g : Int) (g1 : Nat) (g3 : Nat) (g5 : Nat) (r7 : Rw) : List Value := (tu_l25 t n c g g1 g3 g5 r7) ++ (tu_l2)
def tu_l27 (t : Th) (n : Int) (c : Int) (g : Int) (g1 : Nat) (g3 : Nat) (g5 : Nat) (r7 : Rw) : List Value := [.agg (tu_c0 t), .int .i64 3, .agg #[.int .i64 n, .int .i64 c, .int .i64 g], .pointer (some ⟨g1, 0, none⟩), zz, .pointer (some ⟨g3, 0, none⟩), .pointer (some ⟨g5, 0, none⟩), .agg (tu_c0 t), .agg (tu_c2 t r7), .int .i64 3, .bool true, .bool true, .int .i64 3, .bool true, .bool true, .int .i64 3]
def tu_b28 (t : Th) (n : Int) (c : Int) (g : Int) (g1 : Nat) (g3 : Nat) (g5 : Nat) (r7 : Rw) : List Value := (tu_l27 t n c g g1 g3 g5 r7) ++ (tu_l2)
def tu_c6 (t : Th) (n : Int) (c : Int) (g : Int) (r7 : Rw) : Array Value := #[.int .i64 t.pc, .int .i64 t.fu, .int .i64 t.st, .int .i64 (t.R 0), .int .i64 (t.R 1), .int .i64 (t.R 2), .int .i64 (t.R 3), .int .i64 (t.R 4), .int .i64 (t.R 5), .int .i64 (t.R 6), .int .i64 (t.R 7), .int .i64 (t.R 8), .int .i64 n, .int .i64 c, .int .i64 g, .int .i64 t.kd, .int .i64 t.mi, .int .i64 t.mn, r7.s, r7.b, r7.n, .int .i64 t.old]
set_option maxHeartbeats 8000000 in
set_option maxRecDepth 100000 in
theorem th_rSet {w : World} {t : Th} {xs : List Int} {bs : List S42} {ns : List Int} (h : t.reads w xs bs ns) (hl : xs.length ≤ 1000 ∧ bs.length ≤ 1000 ∧ ns.length ≤ 1000) (r n c g : Int) : Calls Try.prog 18 #[.agg t.cells, .int .i64 r, .agg #[.int .i64 n, .int .i64 c, .int .i64 g]] w fun e w' => ∃ As cs Ab cb An cn, e = .returned (.agg (({ t with R := setR t.R r n c g }).rows (.slice As xs.length cs) (.slice Ab bs.length cb) (.slice An ns.length cn)).cells) ∧ (({ t with R := setR t.R r n c g }).rows (.slice As xs.length cs) (.slice Ab bs.length cb) (.slice An ns.length cn)).owns w' w.heap.size xs bs ns ∧ Below w.heap.size w w' := by
  have hc : r < 0 ∨ (0 ≤ r ∧ 3 < r) ∨ r = 0 ∨ r = 1 ∨ r = 2 ∨ r = 3 := by omega
  refine calls_of_wp Try.func18 rfl ?_
  have hW := Ws.nil w
  refine wp_seq ?_
  refine wp_region_list ?_
  obtain ⟨g1, W2, hr, hW, hbb, hge⟩ := hW.mk1 (P := Try.prog) (s := Instr.box 32 (.agg (tu_c0 t))) (tu_c0 t) 32 (by kernel_rfl)
  refine se (a' := (up (tu_b3 t r n c g g1) [])) (.pointer (some ⟨g1, 0, none⟩)) (Eq.trans (b := (do pure (Next.value (← Instr.box 32 (.agg (tu_c0 t)))) : Sem Next).run Try.prog w) (by kernel_rfl) (st_val hr)) ?_
  obtain ⟨g3, W4, hr, hW, hbb, hge⟩ := hW.mk1 (P := Try.prog) (s := Instr.box 25 (.agg #[.int .i64 n, .int .i64 c, .int .i64 g])) #[.int .i64 n, .int .i64 c, .int .i64 g] 25 (by kernel_rfl)
  refine se (a' := (up (tu_b3 t r n c g g1) [(5, .pointer (some ⟨g3, 0, none⟩))])) (.pointer (some ⟨g3, 0, none⟩)) (Eq.trans (b := (do pure (Next.value (← Instr.box 25 (.agg #[.int .i64 n, .int .i64 c, .int .i64 g]))) : Sem Next).run Try.prog W2) (by kernel_rfl) (st_val hr)) ?_
  obtain ⟨g5, W6, hr, hW, hbb, hge⟩ := hW.mk1 (P := Try.prog) (s := Instr.alloc 32 true (.tuple #[])) tu_c1 32 (by kernel_rfl)
  refine se (a' := (up (tu_b3 t r n c g g1) [(5, .pointer (some ⟨g3, 0, none⟩)), (6, .pointer (some ⟨g5, 0, none⟩))])) (.pointer (some ⟨g5, 0, none⟩)) (Eq.trans (b := (do pure (Next.value (← Instr.alloc 32 true (.tuple #[]))) : Sem Next).run Try.prog W4) (by kernel_rfl) (st_val hr)) ?_
  refine wpList_nil ?_
  refine wp_seq ?_
  refine wp_region_list ?_
  refine se (a' := (up (tu_b3 t r n c g g1) [(5, .pointer (some ⟨g3, 0, none⟩)), (6, .pointer (some ⟨g5, 0, none⟩)), (7, .agg (tu_c0 t))])) (.agg (tu_c0 t)) (evA hW 2 0 Try.underlying32) ?_
  have hK7_g5 : g5 < W6.heap.size := blk_lt (hW.blk 0 _ _ _ rfl).1
  have hK7_g3 : g3 < W6.heap.size := blk_lt (hW.blk 1 _ _ _ rfl).1
  have hK7_g1 : g1 < W6.heap.size := blk_lt (hW.blk 2 _ _ _ rfl).1
  have hK7_le : w.heap.size ≤ W6.heap.size := hW.below.size
  refine st_call (th_Copy (t := (⟨t.pc, t.fu, t.st, t.R, t.kd, t.mi, t.mn, t.sv, t.bv, t.nv, t.old⟩ : Th)) (xs := xs) (bs := bs) (ns := ns) ⟨h.s.below hW.below, h.b.below hW.below, h.n.below hW.below⟩ hl) (by kernel_rfl) (by kernel_rfl) ?_
  rintro _ W7 ⟨As7, cs7, Ab7, cb7, An7, cn7, rfl, hO7, hB⟩
  have hW := hW.step hB
  have hK7 := KeepUp.refl W6.heap.size W7
  obtain ⟨r7, e7⟩ : ∃ r : Rw, r = ⟨.slice As7 xs.length cs7, .slice Ab7 bs.length cb7, .slice An7 ns.length cn7⟩ := ⟨_, rfl⟩
  refine ⟨_, (up (tu_b3 t r n c g g1) [(5, .pointer (some ⟨g3, 0, none⟩)), (6, .pointer (some ⟨g5, 0, none⟩)), (7, .agg (tu_c0 t)), (8, .agg (tu_c2 t r7))]), rfl, by (try subst e7); kernel_rfl, ?_⟩
  obtain ⟨W8, hr, hW, hF⟩ := hW.storeN (P := Try.prog) (o := 0) (cs' := (tu_c2 t r7)) (L' := [(g5, 32, tu_c1), (g3, 25, #[.int .i64 n, .int .i64 c, .int .i64 g]), (g1, 32, (tu_c2 t r7))]) 2 rfl (tu_c2 t r7) (by (try subst e7); kernel_rfl) (Nat.le_of_ble_eq_true rfl) (by kernel_rfl) rfl 32 (by kernel_rfl)
  have hK7 := hK7.store hF (.inl hK7_g1)
  refine st_none (w' := W8) (a' := (up (tu_b3 t r n c g g1) [(5, .pointer (some ⟨g3, 0, none⟩)), (6, .pointer (some ⟨g5, 0, none⟩)), (7, .agg (tu_c0 t)), (8, .agg (tu_c2 t r7))])) (by kernel_rfl) (Eq.trans (b := (do Instr.storeAt 32 (.pointer (some ⟨g1, 0, none⟩)) (.agg (tu_c2 t r7)); pure Next.skip : Sem Next).run Try.prog W7) (by kernel_rfl) (st_unit hr)) (by kernel_rfl) ?_
  refine wpList_nil ?_
  refine wp_seq ?_
  refine wp_seq ?_
  rcases hc with hrr | hrr | rfl | rfl | rfl | rfl
  · skip
    refine wp_region_list ?_
    refine skp (.int .i64 r) ?_
    refine sep (.bool false) (Eq.trans (b := .ok (.value (.bool (decide ((r : Int) ≥ 0)))) W8) (by kernel_rfl) (st_ok (decide_eq_false (by omega)))) ?_
    refine st_ones (w' := W8) (a' := (up (tu_b7 t r n c g g1 g3 g5 r7) [(11, .bool false)])) (a2 := (up (tu_b7 t r n c g g1 g3 g5 r7) [(11, .bool false)])) 2 (.bool false) (by kernel_rfl) (by kernel_rfl) (by kernel_rfl) (by kernel_rfl) (by kernel_rfl) ?_
    refine sk (a' := (up (tu_b7 t r n c g g1 g3 g5 r7) [(11, .bool false), (14, .bool false)])) (.bool false) ?_
    refine wpList_nil ?_
    refine wp_cond (t := false) (by kernel_rfl) ?_
    refine wp_skip ?_
    refine wp_seq ?_
    refine wp_region_list ?_
    refine se (a' := (up (tu_b7 t r n c g g1 g3 g5 r7) [(11, .bool false), (14, .bool false), (19, .agg (tu_c2 t r7))])) (.agg (tu_c2 t r7)) (evA hW 2 0 Try.underlying32) ?_
    obtain ⟨W9, hr, hW, hF⟩ := hW.storeN (P := Try.prog) (o := 0) (cs' := (tu_c2 t r7)) (L' := [(g5, 32, (tu_c2 t r7)), (g3, 25, #[.int .i64 n, .int .i64 c, .int .i64 g]), (g1, 32, (tu_c2 t r7))]) 0 rfl (tu_c2 t r7) (by (try subst e7); kernel_rfl) (Nat.le_of_ble_eq_true rfl) (by kernel_rfl) rfl 32 (by kernel_rfl)
    have hK7 := hK7.store hF (.inl hK7_g5)
    refine st_none (w' := W9) (a' := (up (tu_b7 t r n c g g1 g3 g5 r7) [(11, .bool false), (14, .bool false), (19, .agg (tu_c2 t r7))])) (by kernel_rfl) (Eq.trans (b := (do Instr.storeAt 32 (.pointer (some ⟨g5, 0, none⟩)) (.agg (tu_c2 t r7)); pure Next.skip : Sem Next).run Try.prog W8) (by kernel_rfl) (st_unit hr)) (by kernel_rfl) ?_
    refine wpList_nil ?_
    refine wp_ret ?_
    (try simp only [Exit.then, Exit.inBlock])
    change bodyPost Try.prog Try.f18 _ .ret _ _
    refine bodyPost_ret (results_single rfl (.cell g5 32 _ (0, 0) _ (by kernel_rfl) (hW.blk 0 _ _ _ rfl).1 Try.underlying32 rfl (by kernel_rfl) .nil)) rfl ?_
    subst e7
    refine ⟨As7, cs7, Ab7, cb7, An7, cn7, ?_, ⟨Kd.R_lower (hK7.R hO7.s) hK7_le, Kd.R_lower (hK7.R hO7.b) hK7_le, Kd.R_lower (hK7.R hO7.n) hK7_le⟩, hW.below⟩
    unfold setR
    rw [if_neg (by omega)]
    rfl
  · skip
    refine wp_region_list ?_
    refine skp (.int .i64 r) ?_
    refine sep (.bool true) (Eq.trans (b := .ok (.value (.bool (decide ((r : Int) ≥ 0)))) W8) (by kernel_rfl) (st_ok (decide_eq_true (by omega)))) ?_
    refine sk (a' := (up (tu_b9 t r n c g g1 g3 g5 r7) [(11, .bool true)])) (.bool true) ?_
    refine sk (a' := (up (tu_b9 t r n c g g1 g3 g5 r7) [(11, .bool true), (12, .int .i64 r)])) (.int .i64 r) ?_
    refine sep (.bool false) (Eq.trans (b := .ok (.value (.bool (decide ((r : Int) ≤ 3)))) W8) (by kernel_rfl) (st_ok (decide_eq_false (by omega)))) ?_
    refine sk (a' := (up (tu_b9 t r n c g g1 g3 g5 r7) [(11, .bool true), (12, .int .i64 r), (13, .bool false), (14, .bool false)])) (.bool false) ?_
    refine wpList_nil ?_
    refine wp_cond (t := false) (by kernel_rfl) ?_
    refine wp_skip ?_
    refine wp_seq ?_
    refine wp_region_list ?_
    refine se (a' := (up (tu_b9 t r n c g g1 g3 g5 r7) [(11, .bool true), (12, .int .i64 r), (13, .bool false), (14, .bool false), (19, .agg (tu_c2 t r7))])) (.agg (tu_c2 t r7)) (evA hW 2 0 Try.underlying32) ?_
    obtain ⟨W9, hr, hW, hF⟩ := hW.storeN (P := Try.prog) (o := 0) (cs' := (tu_c2 t r7)) (L' := [(g5, 32, (tu_c2 t r7)), (g3, 25, #[.int .i64 n, .int .i64 c, .int .i64 g]), (g1, 32, (tu_c2 t r7))]) 0 rfl (tu_c2 t r7) (by (try subst e7); kernel_rfl) (Nat.le_of_ble_eq_true rfl) (by kernel_rfl) rfl 32 (by kernel_rfl)
    have hK7 := hK7.store hF (.inl hK7_g5)
    refine st_none (w' := W9) (a' := (up (tu_b9 t r n c g g1 g3 g5 r7) [(11, .bool true), (12, .int .i64 r), (13, .bool false), (14, .bool false), (19, .agg (tu_c2 t r7))])) (by kernel_rfl) (Eq.trans (b := (do Instr.storeAt 32 (.pointer (some ⟨g5, 0, none⟩)) (.agg (tu_c2 t r7)); pure Next.skip : Sem Next).run Try.prog W8) (by kernel_rfl) (st_unit hr)) (by kernel_rfl) ?_
    refine wpList_nil ?_
    refine wp_ret ?_
    (try simp only [Exit.then, Exit.inBlock])
    change bodyPost Try.prog Try.f18 _ .ret _ _
    refine bodyPost_ret (results_single rfl (.cell g5 32 _ (0, 0) _ (by kernel_rfl) (hW.blk 0 _ _ _ rfl).1 Try.underlying32 rfl (by kernel_rfl) .nil)) rfl ?_
    subst e7
    refine ⟨As7, cs7, Ab7, cb7, An7, cn7, ?_, ⟨Kd.R_lower (hK7.R hO7.s) hK7_le, Kd.R_lower (hK7.R hO7.b) hK7_le, Kd.R_lower (hK7.R hO7.n) hK7_le⟩, hW.below⟩
    unfold setR
    rw [if_neg (by omega)]
    rfl
  · skip
    refine wp_region_list ?_
    refine skp (.int .i64 0) ?_
    refine skp (.bool true) ?_
    refine sk (a' := (up (tu_b11 t n c g g1 g3 g5 r7) [(10, .bool true), (11, .bool true)])) (.bool true) ?_
    refine sk (a' := (up (tu_b11 t n c g g1 g3 g5 r7) [(10, .bool true), (11, .bool true), (12, .int .i64 0)])) (.int .i64 0) ?_
    refine skp (.bool true) ?_
    refine sk (a' := (up (tu_b11 t n c g g1 g3 g5 r7) [(10, .bool true), (11, .bool true), (12, .int .i64 0), (13, .bool true), (14, .bool true)])) (.bool true) ?_
    refine wpList_nil ?_
    refine wp_cond (t := true) (by kernel_rfl) ?_
    refine wp_region_list ?_
    refine skp (.int .i64 0) ?_
    refine sep (.agg #[.int .i64 n, .int .i64 c, .int .i64 g]) (evA hW 1 0 Try.underlying25) ?_
    refine sk (a' := (up (tu_b13 t n c g g1 g3 g5 r7) [(16, .agg #[.int .i64 n, .int .i64 c, .int .i64 g]), (17, .pointer (some ⟨g1, 3, none⟩))])) (.pointer (some ⟨g1, 3, none⟩)) ?_
    refine sk (a' := (up (tu_b13 t n c g g1 g3 g5 r7) [(16, .agg #[.int .i64 n, .int .i64 c, .int .i64 g]), (17, .pointer (some ⟨g1, 3, none⟩)), (18, .pointer (some ⟨g1, 3, none⟩))])) (.pointer (some ⟨g1, 3, none⟩)) ?_
    obtain ⟨W9, hr, hW, hF⟩ := hW.storeN (P := Try.prog) (o := 3) (cs' := (tu_c3 t n c g r7)) (L' := [(g5, 32, tu_c1), (g3, 25, #[.int .i64 n, .int .i64 c, .int .i64 g]), (g1, 32, (tu_c3 t n c g r7))]) 2 rfl #[.int .i64 n, .int .i64 c, .int .i64 g] (by (try subst e7); kernel_rfl) (Nat.le_of_ble_eq_true rfl) (by kernel_rfl) rfl 25 (by kernel_rfl)
    have hK7 := hK7.store hF (.inl hK7_g1)
    refine st_none (w' := W9) (a' := (up (tu_b13 t n c g g1 g3 g5 r7) [(16, .agg #[.int .i64 n, .int .i64 c, .int .i64 g]), (17, .pointer (some ⟨g1, 3, none⟩)), (18, .pointer (some ⟨g1, 3, none⟩))])) (by kernel_rfl) (Eq.trans (b := (do Instr.storeAt 25 (.pointer (some ⟨g1, 3, none⟩)) (.agg #[.int .i64 n, .int .i64 c, .int .i64 g]); pure Next.skip : Sem Next).run Try.prog W8) (by kernel_rfl) (st_unit hr)) (by kernel_rfl) ?_
    refine wpList_nil ?_
    refine wp_seq ?_
    refine wp_region_list ?_
    refine se (a' := (up (tu_b13 t n c g g1 g3 g5 r7) [(16, .agg #[.int .i64 n, .int .i64 c, .int .i64 g]), (17, .pointer (some ⟨g1, 3, none⟩)), (18, .pointer (some ⟨g1, 3, none⟩)), (19, .agg (tu_c3 t n c g r7))])) (.agg (tu_c3 t n c g r7)) (evA hW 2 0 Try.underlying32) ?_
    obtain ⟨W10, hr, hW, hF⟩ := hW.storeN (P := Try.prog) (o := 0) (cs' := (tu_c3 t n c g r7)) (L' := [(g5, 32, (tu_c3 t n c g r7)), (g3, 25, #[.int .i64 n, .int .i64 c, .int .i64 g]), (g1, 32, (tu_c3 t n c g r7))]) 0 rfl (tu_c3 t n c g r7) (by (try subst e7); kernel_rfl) (Nat.le_of_ble_eq_true rfl) (by kernel_rfl) rfl 32 (by kernel_rfl)
    have hK7 := hK7.store hF (.inl hK7_g5)
    refine st_none (w' := W10) (a' := (up (tu_b13 t n c g g1 g3 g5 r7) [(16, .agg #[.int .i64 n, .int .i64 c, .int .i64 g]), (17, .pointer (some ⟨g1, 3, none⟩)), (18, .pointer (some ⟨g1, 3, none⟩)), (19, .agg (tu_c3 t n c g r7))])) (by kernel_rfl) (Eq.trans (b := (do Instr.storeAt 32 (.pointer (some ⟨g5, 0, none⟩)) (.agg (tu_c3 t n c g r7)); pure Next.skip : Sem Next).run Try.prog W9) (by kernel_rfl) (st_unit hr)) (by kernel_rfl) ?_
    refine wpList_nil ?_
    refine wp_ret ?_
    (try simp only [Exit.then, Exit.inBlock])
    change bodyPost Try.prog Try.f18 _ .ret _ _
    refine bodyPost_ret (results_single rfl (.cell g5 32 _ (0, 0) _ (by kernel_rfl) (hW.blk 0 _ _ _ rfl).1 Try.underlying32 rfl (by kernel_rfl) .nil)) rfl ?_
    subst e7
    refine ⟨As7, cs7, Ab7, cb7, An7, cn7, ?_, ⟨Kd.R_lower (hK7.R hO7.s) hK7_le, Kd.R_lower (hK7.R hO7.b) hK7_le, Kd.R_lower (hK7.R hO7.n) hK7_le⟩, hW.below⟩
    kernel_rfl
  · skip
    refine wp_region_list ?_
    refine skp (.int .i64 1) ?_
    refine skp (.bool true) ?_
    refine sk (a' := (up (tu_b16 t n c g g1 g3 g5 r7) [(10, .bool true), (11, .bool true)])) (.bool true) ?_
    refine sk (a' := (up (tu_b16 t n c g g1 g3 g5 r7) [(10, .bool true), (11, .bool true), (12, .int .i64 1)])) (.int .i64 1) ?_
    refine skp (.bool true) ?_
    refine sk (a' := (up (tu_b16 t n c g g1 g3 g5 r7) [(10, .bool true), (11, .bool true), (12, .int .i64 1), (13, .bool true), (14, .bool true)])) (.bool true) ?_
    refine wpList_nil ?_
    refine wp_cond (t := true) (by kernel_rfl) ?_
    refine wp_region_list ?_
    refine skp (.int .i64 1) ?_
    refine sep (.agg #[.int .i64 n, .int .i64 c, .int .i64 g]) (evA hW 1 0 Try.underlying25) ?_
    refine sk (a' := (up (tu_b18 t n c g g1 g3 g5 r7) [(16, .agg #[.int .i64 n, .int .i64 c, .int .i64 g]), (17, .pointer (some ⟨g1, 3, none⟩))])) (.pointer (some ⟨g1, 3, none⟩)) ?_
    refine sk (a' := (up (tu_b18 t n c g g1 g3 g5 r7) [(16, .agg #[.int .i64 n, .int .i64 c, .int .i64 g]), (17, .pointer (some ⟨g1, 3, none⟩)), (18, .pointer (some ⟨g1, 6, none⟩))])) (.pointer (some ⟨g1, 6, none⟩)) ?_
    obtain ⟨W9, hr, hW, hF⟩ := hW.storeN (P := Try.prog) (o := 6) (cs' := (tu_c4 t n c g r7)) (L' := [(g5, 32, tu_c1), (g3, 25, #[.int .i64 n, .int .i64 c, .int .i64 g]), (g1, 32, (tu_c4 t n c g r7))]) 2 rfl #[.int .i64 n, .int .i64 c, .int .i64 g] (by (try subst e7); kernel_rfl) (Nat.le_of_ble_eq_true rfl) (by kernel_rfl) rfl 25 (by kernel_rfl)
    have hK7 := hK7.store hF (.inl hK7_g1)
    refine st_none (w' := W9) (a' := (up (tu_b18 t n c g g1 g3 g5 r7) [(16, .agg #[.int .i64 n, .int .i64 c, .int .i64 g]), (17, .pointer (some ⟨g1, 3, none⟩)), (18, .pointer (some ⟨g1, 6, none⟩))])) (by kernel_rfl) (Eq.trans (b := (do Instr.storeAt 25 (.pointer (some ⟨g1, 6, none⟩)) (.agg #[.int .i64 n, .int .i64 c, .int .i64 g]); pure Next.skip : Sem Next).run Try.prog W8) (by kernel_rfl) (st_unit hr)) (by kernel_rfl) ?_
    refine wpList_nil ?_
    refine wp_seq ?_
    refine wp_region_list ?_
    refine se (a' := (up (tu_b18 t n c g g1 g3 g5 r7) [(16, .agg #[.int .i64 n, .int .i64 c, .int .i64 g]), (17, .pointer (some ⟨g1, 3, none⟩)), (18, .pointer (some ⟨g1, 6, none⟩)), (19, .agg (tu_c4 t n c g r7))])) (.agg (tu_c4 t n c g r7)) (evA hW 2 0 Try.underlying32) ?_
    obtain ⟨W10, hr, hW, hF⟩ := hW.storeN (P := Try.prog) (o := 0) (cs' := (tu_c4 t n c g r7)) (L' := [(g5, 32, (tu_c4 t n c g r7)), (g3, 25, #[.int .i64 n, .int .i64 c, .int .i64 g]), (g1, 32, (tu_c4 t n c g r7))]) 0 rfl (tu_c4 t n c g r7) (by (try subst e7); kernel_rfl) (Nat.le_of_ble_eq_true rfl) (by kernel_rfl) rfl 32 (by kernel_rfl)
    have hK7 := hK7.store hF (.inl hK7_g5)
    refine st_none (w' := W10) (a' := (up (tu_b18 t n c g g1 g3 g5 r7) [(16, .agg #[.int .i64 n, .int .i64 c, .int .i64 g]), (17, .pointer (some ⟨g1, 3, none⟩)), (18, .pointer (some ⟨g1, 6, none⟩)), (19, .agg (tu_c4 t n c g r7))])) (by kernel_rfl) (Eq.trans (b := (do Instr.storeAt 32 (.pointer (some ⟨g5, 0, none⟩)) (.agg (tu_c4 t n c g r7)); pure Next.skip : Sem Next).run Try.prog W9) (by kernel_rfl) (st_unit hr)) (by kernel_rfl) ?_
    refine wpList_nil ?_
    refine wp_ret ?_
    (try simp only [Exit.then, Exit.inBlock])
    change bodyPost Try.prog Try.f18 _ .ret _ _
    refine bodyPost_ret (results_single rfl (.cell g5 32 _ (0, 0) _ (by kernel_rfl) (hW.blk 0 _ _ _ rfl).1 Try.underlying32 rfl (by kernel_rfl) .nil)) rfl ?_
    subst e7
    refine ⟨As7, cs7, Ab7, cb7, An7, cn7, ?_, ⟨Kd.R_lower (hK7.R hO7.s) hK7_le, Kd.R_lower (hK7.R hO7.b) hK7_le, Kd.R_lower (hK7.R hO7.n) hK7_le⟩, hW.below⟩
    kernel_rfl
  · skip
    refine wp_region_list ?_
    refine skp (.int .i64 2) ?_
    refine skp (.bool true) ?_
    refine sk (a' := (up (tu_b21 t n c g g1 g3 g5 r7) [(10, .bool true), (11, .bool true)])) (.bool true) ?_
    refine sk (a' := (up (tu_b21 t n c g g1 g3 g5 r7) [(10, .bool true), (11, .bool true), (12, .int .i64 2)])) (.int .i64 2) ?_
    refine skp (.bool true) ?_
    refine sk (a' := (up (tu_b21 t n c g g1 g3 g5 r7) [(10, .bool true), (11, .bool true), (12, .int .i64 2), (13, .bool true), (14, .bool true)])) (.bool true) ?_
    refine wpList_nil ?_
    refine wp_cond (t := true) (by kernel_rfl) ?_
    refine wp_region_list ?_
    refine skp (.int .i64 2) ?_
    refine sep (.agg #[.int .i64 n, .int .i64 c, .int .i64 g]) (evA hW 1 0 Try.underlying25) ?_
    refine sk (a' := (up (tu_b23 t n c g g1 g3 g5 r7) [(16, .agg #[.int .i64 n, .int .i64 c, .int .i64 g]), (17, .pointer (some ⟨g1, 3, none⟩))])) (.pointer (some ⟨g1, 3, none⟩)) ?_
    refine sk (a' := (up (tu_b23 t n c g g1 g3 g5 r7) [(16, .agg #[.int .i64 n, .int .i64 c, .int .i64 g]), (17, .pointer (some ⟨g1, 3, none⟩)), (18, .pointer (some ⟨g1, 9, none⟩))])) (.pointer (some ⟨g1, 9, none⟩)) ?_
    obtain ⟨W9, hr, hW, hF⟩ := hW.storeN (P := Try.prog) (o := 9) (cs' := (tu_c5 t n c g r7)) (L' := [(g5, 32, tu_c1), (g3, 25, #[.int .i64 n, .int .i64 c, .int .i64 g]), (g1, 32, (tu_c5 t n c g r7))]) 2 rfl #[.int .i64 n, .int .i64 c, .int .i64 g] (by (try subst e7); kernel_rfl) (Nat.le_of_ble_eq_true rfl) (by kernel_rfl) rfl 25 (by kernel_rfl)
    have hK7 := hK7.store hF (.inl hK7_g1)
    refine st_none (w' := W9) (a' := (up (tu_b23 t n c g g1 g3 g5 r7) [(16, .agg #[.int .i64 n, .int .i64 c, .int .i64 g]), (17, .pointer (some ⟨g1, 3, none⟩)), (18, .pointer (some ⟨g1, 9, none⟩))])) (by kernel_rfl) (Eq.trans (b := (do Instr.storeAt 25 (.pointer (some ⟨g1, 9, none⟩)) (.agg #[.int .i64 n, .int .i64 c, .int .i64 g]); pure Next.skip : Sem Next).run Try.prog W8) (by kernel_rfl) (st_unit hr)) (by kernel_rfl) ?_
    refine wpList_nil ?_
    refine wp_seq ?_
    refine wp_region_list ?_
    refine se (a' := (up (tu_b23 t n c g g1 g3 g5 r7) [(16, .agg #[.int .i64 n, .int .i64 c, .int .i64 g]), (17, .pointer (some ⟨g1, 3, none⟩)), (18, .pointer (some ⟨g1, 9, none⟩)), (19, .agg (tu_c5 t n c g r7))])) (.agg (tu_c5 t n c g r7)) (evA hW 2 0 Try.underlying32) ?_
    obtain ⟨W10, hr, hW, hF⟩ := hW.storeN (P := Try.prog) (o := 0) (cs' := (tu_c5 t n c g r7)) (L' := [(g5, 32, (tu_c5 t n c g r7)), (g3, 25, #[.int .i64 n, .int .i64 c, .int .i64 g]), (g1, 32, (tu_c5 t n c g r7))]) 0 rfl (tu_c5 t n c g r7) (by (try subst e7); kernel_rfl) (Nat.le_of_ble_eq_true rfl) (by kernel_rfl) rfl 32 (by kernel_rfl)
    have hK7 := hK7.store hF (.inl hK7_g5)
    refine st_none (w' := W10) (a' := (up (tu_b23 t n c g g1 g3 g5 r7) [(16, .agg #[.int .i64 n, .int .i64 c, .int .i64 g]), (17, .pointer (some ⟨g1, 3, none⟩)), (18, .pointer (some ⟨g1, 9, none⟩)), (19, .agg (tu_c5 t n c g r7))])) (by kernel_rfl) (Eq.trans (b := (do Instr.storeAt 32 (.pointer (some ⟨g5, 0, none⟩)) (.agg (tu_c5 t n c g r7)); pure Next.skip : Sem Next).run Try.prog W9) (by kernel_rfl) (st_unit hr)) (by kernel_rfl) ?_
    refine wpList_nil ?_
    refine wp_ret ?_
    (try simp only [Exit.then, Exit.inBlock])
    change bodyPost Try.prog Try.f18 _ .ret _ _
    refine bodyPost_ret (results_single rfl (.cell g5 32 _ (0, 0) _ (by kernel_rfl) (hW.blk 0 _ _ _ rfl).1 Try.underlying32 rfl (by kernel_rfl) .nil)) rfl ?_
    subst e7
    refine ⟨As7, cs7, Ab7, cb7, An7, cn7, ?_, ⟨Kd.R_lower (hK7.R hO7.s) hK7_le, Kd.R_lower (hK7.R hO7.b) hK7_le, Kd.R_lower (hK7.R hO7.n) hK7_le⟩, hW.below⟩
    kernel_rfl
  · skip
    refine wp_region_list ?_
    refine skp (.int .i64 3) ?_
    refine skp (.bool true) ?_
    refine sk (a' := (up (tu_b26 t n c g g1 g3 g5 r7) [(10, .bool true), (11, .bool true)])) (.bool true) ?_
    refine sk (a' := (up (tu_b26 t n c g g1 g3 g5 r7) [(10, .bool true), (11, .bool true), (12, .int .i64 3)])) (.int .i64 3) ?_
    refine skp (.bool true) ?_
    refine sk (a' := (up (tu_b26 t n c g g1 g3 g5 r7) [(10, .bool true), (11, .bool true), (12, .int .i64 3), (13, .bool true), (14, .bool true)])) (.bool true) ?_
    refine wpList_nil ?_
    refine wp_cond (t := true) (by kernel_rfl) ?_
    refine wp_region_list ?_
    refine skp (.int .i64 3) ?_
    refine sep (.agg #[.int .i64 n, .int .i64 c, .int .i64 g]) (evA hW 1 0 Try.underlying25) ?_
    refine sk (a' := (up (tu_b28 t n c g g1 g3 g5 r7) [(16, .agg #[.int .i64 n, .int .i64 c, .int .i64 g]), (17, .pointer (some ⟨g1, 3, none⟩))])) (.pointer (some ⟨g1, 3, none⟩)) ?_
    refine sk (a' := (up (tu_b28 t n c g g1 g3 g5 r7) [(16, .agg #[.int .i64 n, .int .i64 c, .int .i64 g]), (17, .pointer (some ⟨g1, 3, none⟩)), (18, .pointer (some ⟨g1, 12, none⟩))])) (.pointer (some ⟨g1, 12, none⟩)) ?_
    obtain ⟨W9, hr, hW, hF⟩ := hW.storeN (P := Try.prog) (o := 12) (cs' := (tu_c6 t n c g r7)) (L' := [(g5, 32, tu_c1), (g3, 25, #[.int .i64 n, .int .i64 c, .int .i64 g]), (g1, 32, (tu_c6 t n c g r7))]) 2 rfl #[.int .i64 n, .int .i64 c, .int .i64 g] (by (try subst e7); kernel_rfl) (Nat.le_of_ble_eq_true rfl) (by kernel_rfl) rfl 25 (by kernel_rfl)
    have hK7 := hK7.store hF (.inl hK7_g1)
    refine st_none (w' := W9) (a' := (up (tu_b28 t n c g g1 g3 g5 r7) [(16, .agg #[.int .i64 n, .int .i64 c, .int .i64 g]), (17, .pointer (some ⟨g1, 3, none⟩)), (18, .pointer (some ⟨g1, 12, none⟩))])) (by kernel_rfl) (Eq.trans (b := (do Instr.storeAt 25 (.pointer (some ⟨g1, 12, none⟩)) (.agg #[.int .i64 n, .int .i64 c, .int .i64 g]); pure Next.skip : Sem Next).run Try.prog W8) (by kernel_rfl) (st_unit hr)) (by kernel_rfl) ?_
    refine wpList_nil ?_
    refine wp_seq ?_
    refine wp_region_list ?_
    refine se (a' := (up (tu_b28 t n c g g1 g3 g5 r7) [(16, .agg #[.int .i64 n, .int .i64 c, .int .i64 g]), (17, .pointer (some ⟨g1, 3, none⟩)), (18, .pointer (some ⟨g1, 12, none⟩)), (19, .agg (tu_c6 t n c g r7))])) (.agg (tu_c6 t n c g r7)) (evA hW 2 0 Try.underlying32) ?_
    obtain ⟨W10, hr, hW, hF⟩ := hW.storeN (P := Try.prog) (o := 0) (cs' := (tu_c6 t n c g r7)) (L' := [(g5, 32, (tu_c6 t n c g r7)), (g3, 25, #[.int .i64 n, .int .i64 c, .int .i64 g]), (g1, 32, (tu_c6 t n c g r7))]) 0 rfl (tu_c6 t n c g r7) (by (try subst e7); kernel_rfl) (Nat.le_of_ble_eq_true rfl) (by kernel_rfl) rfl 32 (by kernel_rfl)
    have hK7 := hK7.store hF (.inl hK7_g5)
    refine st_none (w' := W10) (a' := (up (tu_b28 t n c g g1 g3 g5 r7) [(16, .agg #[.int .i64 n, .int .i64 c, .int .i64 g]), (17, .pointer (some ⟨g1, 3, none⟩)), (18, .pointer (some ⟨g1, 12, none⟩)), (19, .agg (tu_c6 t n c g r7))])) (by kernel_rfl) (Eq.trans (b := (do Instr.storeAt 32 (.pointer (some ⟨g5, 0, none⟩)) (.agg (tu_c6 t n c g r7)); pure Next.skip : Sem Next).run Try.prog W9) (by kernel_rfl) (st_unit hr)) (by kernel_rfl) ?_
    refine wpList_nil ?_
    refine wp_ret ?_
    (try simp only [Exit.then, Exit.inBlock])
    change bodyPost Try.prog Try.f18 _ .ret _ _
    refine bodyPost_ret (results_single rfl (.cell g5 32 _ (0, 0) _ (by kernel_rfl) (hW.blk 0 _ _ _ rfl).1 Try.underlying32 rfl (by kernel_rfl) .nil)) rfl ?_
    subst e7
    refine ⟨As7, cs7, Ab7, cb7, An7, cn7, ?_, ⟨Kd.R_lower (hK7.R hO7.s) hK7_le, Kd.R_lower (hK7.R hO7.b) hK7_le, Kd.R_lower (hK7.R hO7.n) hK7_le⟩, hW.below⟩
    kernel_rfl
end Go.Proofs.Ythcmcekjgecnhaa.Th
