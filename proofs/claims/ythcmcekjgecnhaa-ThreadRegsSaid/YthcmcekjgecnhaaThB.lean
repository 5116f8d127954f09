/- What thread.Get, Clone, Start, Set, Begin and Done answer. No condition beside those that each theorem names. -/
import Derived.Test.YthcmcekjgecnhaaThA
namespace Go.Proofs.Ythcmcekjgecnhaa.Th
open Go.RowKit Go.Proofs.YthcmcekjgecnhaaW.PrintWords Go.Proofs.YthcmcekjgecnhaaW.PrintLast Go.Proofs.YthcmcekjgecnhaaW.PrintMore
open Go.Proofs.YthcmcekjgecnhaaW.HWords Go.Proofs.Ythcmcekjgecnhaa.QThreadLocals
set_option linter.unusedVariables false
set_option linter.unusedSimpArgs false
def tg_o_c0 (t : Th) : Array Value := #[.int .i64 t.pc, .int .i64 t.fu, .int .i64 t.st, .int .i64 (t.R 0), .int .i64 (t.R 1), .int .i64 (t.R 2), .int .i64 (t.R 3), .int .i64 (t.R 4), .int .i64 (t.R 5), .int .i64 (t.R 6), .int .i64 (t.R 7), .int .i64 (t.R 8), .int .i64 (t.R 9), .int .i64 (t.R 10), .int .i64 (t.R 11), .int .i64 t.kd, .int .i64 t.mi, .int .i64 t.mn, t.sv, t.bv, t.nv, .int .i64 t.old]
def tg_o_a1 (t : Th) (r : Int) (g1 : Nat) : Act := ⟨#[.agg (tg_o_c0 t), .int .i64 r, .pointer (some ⟨g1, 0, none⟩), zz, zz, zz, zz, zz, zz, zz, zz, zz, zz], []⟩
def tg_o_a2 (t : Th) (r : Int) (g1 : Nat) (g3 : Nat) : Act := ⟨#[.agg (tg_o_c0 t), .int .i64 r, .pointer (some ⟨g1, 0, none⟩), zz, .pointer (some ⟨g3, 0, none⟩), zz, zz, zz, zz, zz, zz, zz, zz], []⟩
def tg_o_a3 (t : Th) (r : Int) (g1 : Nat) (g3 : Nat) : Act := ⟨#[.agg (tg_o_c0 t), .int .i64 r, .pointer (some ⟨g1, 0, none⟩), zz, .pointer (some ⟨g3, 0, none⟩), .int .i64 r, zz, zz, zz, zz, zz, zz, zz], []⟩
def tg_o_a4 (t : Th) (r : Int) (g1 : Nat) (g3 : Nat) : Act := ⟨#[.agg (tg_o_c0 t), .int .i64 r, .pointer (some ⟨g1, 0, none⟩), zz, .pointer (some ⟨g3, 0, none⟩), .int .i64 r, .bool false, zz, zz, zz, zz, zz, zz], []⟩
def tg_o_a5 (t : Th) (r : Int) (g1 : Nat) (g3 : Nat) : Act := ⟨#[.agg (tg_o_c0 t), .int .i64 r, .pointer (some ⟨g1, 0, none⟩), zz, .pointer (some ⟨g3, 0, none⟩), .int .i64 r, .bool false, .bool true, zz, zz, zz, zz, zz], []⟩
def tg_o_a6 (t : Th) (r : Int) (g1 : Nat) (g3 : Nat) : Act := ⟨#[.agg (tg_o_c0 t), .int .i64 r, .pointer (some ⟨g1, 0, none⟩), zz, .pointer (some ⟨g3, 0, none⟩), .int .i64 r, .bool false, .bool true, .agg #[.int .i64 0, .int .i64 0, .int .i64 0], zz, zz, zz, zz], []⟩
def tg_0_c0 (t : Th) : Array Value := #[.int .i64 t.pc, .int .i64 t.fu, .int .i64 t.st, .int .i64 (t.R 0), .int .i64 (t.R 1), .int .i64 (t.R 2), .int .i64 (t.R 3), .int .i64 (t.R 4), .int .i64 (t.R 5), .int .i64 (t.R 6), .int .i64 (t.R 7), .int .i64 (t.R 8), .int .i64 (t.R 9), .int .i64 (t.R 10), .int .i64 (t.R 11), .int .i64 t.kd, .int .i64 t.mi, .int .i64 t.mn, t.sv, t.bv, t.nv, .int .i64 t.old]
def tg_0_a1 (t : Th) (g1 : Nat) : Act := ⟨#[.agg (tg_0_c0 t), .int .i64 0, .pointer (some ⟨g1, 0, none⟩), zz, zz, zz, zz, zz, zz, zz, zz, zz, zz], []⟩
def tg_0_a2 (t : Th) (g1 : Nat) (g3 : Nat) : Act := ⟨#[.agg (tg_0_c0 t), .int .i64 0, .pointer (some ⟨g1, 0, none⟩), zz, .pointer (some ⟨g3, 0, none⟩), zz, zz, zz, zz, zz, zz, zz, zz], []⟩
def tg_0_a3 (t : Th) (g1 : Nat) (g3 : Nat) : Act := ⟨#[.agg (tg_0_c0 t), .int .i64 0, .pointer (some ⟨g1, 0, none⟩), zz, .pointer (some ⟨g3, 0, none⟩), .int .i64 0, zz, zz, zz, zz, zz, zz, zz], []⟩
def tg_0_a4 (t : Th) (g1 : Nat) (g3 : Nat) : Act := ⟨#[.agg (tg_0_c0 t), .int .i64 0, .pointer (some ⟨g1, 0, none⟩), zz, .pointer (some ⟨g3, 0, none⟩), .int .i64 0, .bool true, zz, zz, zz, zz, zz, zz], []⟩
def tg_0_a5 (t : Th) (g1 : Nat) (g3 : Nat) : Act := ⟨#[.agg (tg_0_c0 t), .int .i64 0, .pointer (some ⟨g1, 0, none⟩), zz, .pointer (some ⟨g3, 0, none⟩), .int .i64 0, .bool true, .bool false, zz, zz, zz, zz, zz], []⟩
def tg_0_a6 (t : Th) (g1 : Nat) (g3 : Nat) : Act := ⟨#[.agg (tg_0_c0 t), .int .i64 0, .pointer (some ⟨g1, 0, none⟩), zz, .pointer (some ⟨g3, 0, none⟩), .int .i64 0, .bool true, .bool false, zz, .int .i64 0, zz, zz, zz], []⟩
def tg_0_a7 (t : Th) (g1 : Nat) (g3 : Nat) : Act := ⟨#[.agg (tg_0_c0 t), .int .i64 0, .pointer (some ⟨g1, 0, none⟩), zz, .pointer (some ⟨g3, 0, none⟩), .int .i64 0, .bool true, .bool false, zz, .int .i64 0, .pointer (some ⟨g1, 3, none⟩), zz, zz], []⟩
def tg_0_a8 (t : Th) (g1 : Nat) (g3 : Nat) : Act := ⟨#[.agg (tg_0_c0 t), .int .i64 0, .pointer (some ⟨g1, 0, none⟩), zz, .pointer (some ⟨g3, 0, none⟩), .int .i64 0, .bool true, .bool false, zz, .int .i64 0, .pointer (some ⟨g1, 3, none⟩), .pointer (some ⟨g1, 3, none⟩), zz], []⟩
def tg_0_a9 (t : Th) (g1 : Nat) (g3 : Nat) : Act := ⟨#[.agg (tg_0_c0 t), .int .i64 0, .pointer (some ⟨g1, 0, none⟩), zz, .pointer (some ⟨g3, 0, none⟩), .int .i64 0, .bool true, .bool false, zz, .int .i64 0, .pointer (some ⟨g1, 3, none⟩), .pointer (some ⟨g1, 3, none⟩), .agg #[.int .i64 (t.R 0), .int .i64 (t.R 1), .int .i64 (t.R 2)]], []⟩
def tg_1_c0 (t : Th) : Array Value := #[.int .i64 t.pc, .int .i64 t.fu, .int .i64 t.st, .int .i64 (t.R 0), .int .i64 (t.R 1), .int .i64 (t.R 2), .int .i64 (t.R 3), .int .i64 (t.R 4), .int .i64 (t.R 5), .int .i64 (t.R 6), .int .i64 (t.R 7), .int .i64 (t.R 8), .int .i64 (t.R 9), .int .i64 (t.R 10), .int .i64 (t.R 11), .int .i64 t.kd, .int .i64 t.mi, .int .i64 t.mn, t.sv, t.bv, t.nv, .int .i64 t.old]
def tg_1_a1 (t : Th) (g1 : Nat) : Act := ⟨#[.agg (tg_1_c0 t), .int .i64 1, .pointer (some ⟨g1, 0, none⟩), zz, zz, zz, zz, zz, zz, zz, zz, zz, zz], []⟩
def tg_1_a2 (t : Th) (g1 : Nat) (g3 : Nat) : Act := ⟨#[.agg (tg_1_c0 t), .int .i64 1, .pointer (some ⟨g1, 0, none⟩), zz, .pointer (some ⟨g3, 0, none⟩), zz, zz, zz, zz, zz, zz, zz, zz], []⟩
def tg_1_a3 (t : Th) (g1 : Nat) (g3 : Nat) : Act := ⟨#[.agg (tg_1_c0 t), .int .i64 1, .pointer (some ⟨g1, 0, none⟩), zz, .pointer (some ⟨g3, 0, none⟩), .int .i64 1, zz, zz, zz, zz, zz, zz, zz], []⟩
def tg_1_a4 (t : Th) (g1 : Nat) (g3 : Nat) : Act := ⟨#[.agg (tg_1_c0 t), .int .i64 1, .pointer (some ⟨g1, 0, none⟩), zz, .pointer (some ⟨g3, 0, none⟩), .int .i64 1, .bool true, zz, zz, zz, zz, zz, zz], []⟩
def tg_1_a5 (t : Th) (g1 : Nat) (g3 : Nat) : Act := ⟨#[.agg (tg_1_c0 t), .int .i64 1, .pointer (some ⟨g1, 0, none⟩), zz, .pointer (some ⟨g3, 0, none⟩), .int .i64 1, .bool true, .bool false, zz, zz, zz, zz, zz], []⟩
def tg_1_a6 (t : Th) (g1 : Nat) (g3 : Nat) : Act := ⟨#[.agg (tg_1_c0 t), .int .i64 1, .pointer (some ⟨g1, 0, none⟩), zz, .pointer (some ⟨g3, 0, none⟩), .int .i64 1, .bool true, .bool false, zz, .int .i64 1, zz, zz, zz], []⟩
def tg_1_a7 (t : Th) (g1 : Nat) (g3 : Nat) : Act := ⟨#[.agg (tg_1_c0 t), .int .i64 1, .pointer (some ⟨g1, 0, none⟩), zz, .pointer (some ⟨g3, 0, none⟩), .int .i64 1, .bool true, .bool false, zz, .int .i64 1, .pointer (some ⟨g1, 3, none⟩), zz, zz], []⟩
def tg_1_a8 (t : Th) (g1 : Nat) (g3 : Nat) : Act := ⟨#[.agg (tg_1_c0 t), .int .i64 1, .pointer (some ⟨g1, 0, none⟩), zz, .pointer (some ⟨g3, 0, none⟩), .int .i64 1, .bool true, .bool false, zz, .int .i64 1, .pointer (some ⟨g1, 3, none⟩), .pointer (some ⟨g1, 6, none⟩), zz], []⟩
def tg_1_a9 (t : Th) (g1 : Nat) (g3 : Nat) : Act := ⟨#[.agg (tg_1_c0 t), .int .i64 1, .pointer (some ⟨g1, 0, none⟩), zz, .pointer (some ⟨g3, 0, none⟩), .int .i64 1, .bool true, .bool false, zz, .int .i64 1, .pointer (some ⟨g1, 3, none⟩), .pointer (some ⟨g1, 6, none⟩), .agg #[.int .i64 (t.R 3), .int .i64 (t.R 4), .int .i64 (t.R 5)]], []⟩
def tg_2_c0 (t : Th) : Array Value := #[.int .i64 t.pc, .int .i64 t.fu, .int .i64 t.st, .int .i64 (t.R 0), .int .i64 (t.R 1), .int .i64 (t.R 2), .int .i64 (t.R 3), .int .i64 (t.R 4), .int .i64 (t.R 5), .int .i64 (t.R 6), .int .i64 (t.R 7), .int .i64 (t.R 8), .int .i64 (t.R 9), .int .i64 (t.R 10), .int .i64 (t.R 11), .int .i64 t.kd, .int .i64 t.mi, .int .i64 t.mn, t.sv, t.bv, t.nv, .int .i64 t.old]
def tg_2_a1 (t : Th) (g1 : Nat) : Act := ⟨#[.agg (tg_2_c0 t), .int .i64 2, .pointer (some ⟨g1, 0, none⟩), zz, zz, zz, zz, zz, zz, zz, zz, zz, zz], []⟩
def tg_2_a2 (t : Th) (g1 : Nat) (g3 : Nat) : Act := ⟨#[.agg (tg_2_c0 t), .int .i64 2, .pointer (some ⟨g1, 0, none⟩), zz, .pointer (some ⟨g3, 0, none⟩), zz, zz, zz, zz, zz, zz, zz, zz], []⟩
def tg_2_a3 (t : Th) (g1 : Nat) (g3 : Nat) : Act := ⟨#[.agg (tg_2_c0 t), .int .i64 2, .pointer (some ⟨g1, 0, none⟩), zz, .pointer (some ⟨g3, 0, none⟩), .int .i64 2, zz, zz, zz, zz, zz, zz, zz], []⟩
def tg_2_a4 (t : Th) (g1 : Nat) (g3 : Nat) : Act := ⟨#[.agg (tg_2_c0 t), .int .i64 2, .pointer (some ⟨g1, 0, none⟩), zz, .pointer (some ⟨g3, 0, none⟩), .int .i64 2, .bool true, zz, zz, zz, zz, zz, zz], []⟩
def tg_2_a5 (t : Th) (g1 : Nat) (g3 : Nat) : Act := ⟨#[.agg (tg_2_c0 t), .int .i64 2, .pointer (some ⟨g1, 0, none⟩), zz, .pointer (some ⟨g3, 0, none⟩), .int .i64 2, .bool true, .bool false, zz, zz, zz, zz, zz], []⟩
def tg_2_a6 (t : Th) (g1 : Nat) (g3 : Nat) : Act := ⟨#[.agg (tg_2_c0 t), .int .i64 2, .pointer (some ⟨g1, 0, none⟩), zz, .pointer (some ⟨g3, 0, none⟩), .int .i64 2, .bool true, .bool false, zz, .int .i64 2, zz, zz, zz], []⟩
def tg_2_a7 (t : Th) (g1 : Nat) (g3 : Nat) : Act := ⟨#[.agg (tg_2_c0 t), .int .i64 2, .pointer (some ⟨g1, 0, none⟩), zz, .pointer (some ⟨g3, 0, none⟩), .int .i64 2, .bool true, .bool false, zz, .int .i64 2, .pointer (some ⟨g1, 3, none⟩), zz, zz], []⟩
def tg_2_a8 (t : Th) (g1 : Nat) (g3 : Nat) : Act := ⟨#[.agg (tg_2_c0 t), .int .i64 2, .pointer (some ⟨g1, 0, none⟩), zz, .pointer (some ⟨g3, 0, none⟩), .int .i64 2, .bool true, .bool false, zz, .int .i64 2, .pointer (some ⟨g1, 3, none⟩), .pointer (some ⟨g1, 9, none⟩), zz], []⟩
def tg_2_a9 (t : Th) (g1 : Nat) (g3 : Nat) : Act := ⟨#[.agg (tg_2_c0 t), .int .i64 2, .pointer (some ⟨g1, 0, none⟩), zz, .pointer (some ⟨g3, 0, none⟩), .int .i64 2, .bool true, .bool false, zz, .int .i64 2, .pointer (some ⟨g1, 3, none⟩), .pointer (some ⟨g1, 9, none⟩), .agg #[.int .i64 (t.R 6), .int .i64 (t.R 7), .int .i64 (t.R 8)]], []⟩
def tg_3_c0 (t : Th) : Array Value := #[.int .i64 t.pc, .int .i64 t.fu, .int .i64 t.st, .int .i64 (t.R 0), .int .i64 (t.R 1), .int .i64 (t.R 2), .int .i64 (t.R 3), .int .i64 (t.R 4), .int .i64 (t.R 5), .int .i64 (t.R 6), .int .i64 (t.R 7), .int .i64 (t.R 8), .int .i64 (t.R 9), .int .i64 (t.R 10), .int .i64 (t.R 11), .int .i64 t.kd, .int .i64 t.mi, .int .i64 t.mn, t.sv, t.bv, t.nv, .int .i64 t.old]
def tg_3_a1 (t : Th) (g1 : Nat) : Act := ⟨#[.agg (tg_3_c0 t), .int .i64 3, .pointer (some ⟨g1, 0, none⟩), zz, zz, zz, zz, zz, zz, zz, zz, zz, zz], []⟩
def tg_3_a2 (t : Th) (g1 : Nat) (g3 : Nat) : Act := ⟨#[.agg (tg_3_c0 t), .int .i64 3, .pointer (some ⟨g1, 0, none⟩), zz, .pointer (some ⟨g3, 0, none⟩), zz, zz, zz, zz, zz, zz, zz, zz], []⟩
def tg_3_a3 (t : Th) (g1 : Nat) (g3 : Nat) : Act := ⟨#[.agg (tg_3_c0 t), .int .i64 3, .pointer (some ⟨g1, 0, none⟩), zz, .pointer (some ⟨g3, 0, none⟩), .int .i64 3, zz, zz, zz, zz, zz, zz, zz], []⟩
def tg_3_a4 (t : Th) (g1 : Nat) (g3 : Nat) : Act := ⟨#[.agg (tg_3_c0 t), .int .i64 3, .pointer (some ⟨g1, 0, none⟩), zz, .pointer (some ⟨g3, 0, none⟩), .int .i64 3, .bool true, zz, zz, zz, zz, zz, zz], []⟩
def tg_3_a5 (t : Th) (g1 : Nat) (g3 : Nat) : Act := ⟨#[.agg (tg_3_c0 t), .int .i64 3, .pointer (some ⟨g1, 0, none⟩), zz, .pointer (some ⟨g3, 0, none⟩), .int .i64 3, .bool true, .bool false, zz, zz, zz, zz, zz], []⟩
def tg_3_a6 (t : Th) (g1 : Nat) (g3 : Nat) : Act := ⟨#[.agg (tg_3_c0 t), .int .i64 3, .pointer (some ⟨g1, 0, none⟩), zz, .pointer (some ⟨g3, 0, none⟩), .int .i64 3, .bool true, .bool false, zz, .int .i64 3, zz, zz, zz], []⟩
def tg_3_a7 (t : Th) (g1 : Nat) (g3 : Nat) : Act := ⟨#[.agg (tg_3_c0 t), .int .i64 3, .pointer (some ⟨g1, 0, none⟩), zz, .pointer (some ⟨g3, 0, none⟩), .int .i64 3, .bool true, .bool false, zz, .int .i64 3, .pointer (some ⟨g1, 3, none⟩), zz, zz], []⟩
def tg_3_a8 (t : Th) (g1 : Nat) (g3 : Nat) : Act := ⟨#[.agg (tg_3_c0 t), .int .i64 3, .pointer (some ⟨g1, 0, none⟩), zz, .pointer (some ⟨g3, 0, none⟩), .int .i64 3, .bool true, .bool false, zz, .int .i64 3, .pointer (some ⟨g1, 3, none⟩), .pointer (some ⟨g1, 12, none⟩), zz], []⟩
def tg_3_a9 (t : Th) (g1 : Nat) (g3 : Nat) : Act := ⟨#[.agg (tg_3_c0 t), .int .i64 3, .pointer (some ⟨g1, 0, none⟩), zz, .pointer (some ⟨g3, 0, none⟩), .int .i64 3, .bool true, .bool false, zz, .int .i64 3, .pointer (some ⟨g1, 3, none⟩), .pointer (some ⟨g1, 12, none⟩), .agg #[.int .i64 (t.R 9), .int .i64 (t.R 10), .int .i64 (t.R 11)]], []⟩
set_option maxHeartbeats 8000000 in
set_option maxRecDepth 100000 in
theorem th_Get (t : Th) (r : Int) (w : World) : Calls Try.prog 19 #[.agg t.cells, .int .i64 r] w fun e w' => e = .returned (.agg #[.int .i64 (getR t.R r 0), .int .i64 (getR t.R r 1), .int .i64 (getR t.R r 2)]) ∧ Below w.heap.size w w' := by
  have hc : ¬ (0 ≤ r ∧ r ≤ 3) ∨ r = 0 ∨ r = 1 ∨ r = 2 ∨ r = 3 := by omega
  rcases hc with hrr | rfl | rfl | rfl | rfl
  · skip
    refine calls_of_wp Try.func19 rfl ?_
    have hW := Ws.nil w
    refine wp_seq ?_
    refine wp_region_list ?_
    obtain ⟨g1, W2, hr, hW, hbb, hge⟩ := hW.mk1 (P := Try.prog) (s := Instr.box 32 (.agg (tg_o_c0 t))) (tg_o_c0 t) 32 (by kernel_rfl)
    refine se (a' := (tg_o_a1 t r g1)) (.pointer (some ⟨g1, 0, none⟩)) (Eq.trans (b := (do pure (Next.value (← Instr.box 32 (.agg (tg_o_c0 t)))) : Sem Next).run Try.prog w) (by kernel_rfl) (st_val hr)) ?_
    obtain ⟨g3, W4, hr, hW, hbb, hge⟩ := hW.mk1 (P := Try.prog) (s := Instr.alloc 25 true (.tuple #[])) #[.int .i64 0, .int .i64 0, .int .i64 0] 25 (by kernel_rfl)
    refine se (a' := (tg_o_a2 t r g1 g3)) (.pointer (some ⟨g3, 0, none⟩)) (Eq.trans (b := (do pure (Next.value (← Instr.alloc 25 true (.tuple #[]))) : Sem Next).run Try.prog W2) (by kernel_rfl) (st_val hr)) ?_
    refine wpList_nil ?_
    refine wp_seq ?_
    refine wp_seq ?_
    refine wp_region_list ?_
    refine sk (a' := (tg_o_a3 t r g1 g3)) (.int .i64 r) ?_
    refine st_call (in_calls r 0 3 false (decide_eq_false (by omega)) W4) (by kernel_rfl) (by kernel_rfl) ?_
    rintro _ W5 ⟨rfl, hB⟩
    have hW := hW.step hB
    refine ⟨_, (tg_o_a4 t r g1 g3), rfl, by kernel_rfl, ?_⟩
    refine sk (a' := (tg_o_a5 t r g1 g3)) (.bool true) ?_
    refine wpList_nil ?_
    refine wp_cond (t := true) (by kernel_rfl) ?_
    refine wp_seq ?_
    refine wp_region_list ?_
    refine sk (a' := (tg_o_a6 t r g1 g3)) (.agg #[.int .i64 0, .int .i64 0, .int .i64 0]) ?_
    obtain ⟨W6, hr, hW, hF⟩ := hW.storeN (P := Try.prog) (o := 0) (cs' := #[.int .i64 0, .int .i64 0, .int .i64 0]) (L' := [(g3, 25, #[.int .i64 0, .int .i64 0, .int .i64 0]), (g1, 32, (tg_o_c0 t))]) 0 rfl #[.int .i64 0, .int .i64 0, .int .i64 0] (by kernel_rfl) (Nat.le_of_ble_eq_true rfl) (by kernel_rfl) rfl 25 (by kernel_rfl)
    refine st_none (w' := W6) (a' := (tg_o_a6 t r g1 g3)) (by kernel_rfl) (Eq.trans (b := (do Instr.storeAt 25 (.pointer (some ⟨g3, 0, none⟩)) (.agg #[.int .i64 0, .int .i64 0, .int .i64 0]); pure Next.skip : Sem Next).run Try.prog W5) (by kernel_rfl) (st_unit hr)) (by kernel_rfl) ?_
    refine wpList_nil ?_
    refine wp_ret ?_
    (try simp only [Exit.then, Exit.inBlock])
    change bodyPost Try.prog Try.f19 _ .ret _ _
    refine bodyPost_ret (results_single rfl (.cell g3 25 _ (0, 0) _ (by kernel_rfl) (hW.blk 0 _ _ _ rfl).1 Try.underlying25 rfl (by kernel_rfl) .nil)) rfl ?_
    refine ⟨?_, hW.below⟩
    unfold getR
    simp only [if_neg hrr]
  · skip
    refine calls_of_wp Try.func19 rfl ?_
    have hW := Ws.nil w
    refine wp_seq ?_
    refine wp_region_list ?_
    obtain ⟨g1, W2, hr, hW, hbb, hge⟩ := hW.mk1 (P := Try.prog) (s := Instr.box 32 (.agg (tg_0_c0 t))) (tg_0_c0 t) 32 (by kernel_rfl)
    refine se (a' := (tg_0_a1 t g1)) (.pointer (some ⟨g1, 0, none⟩)) (Eq.trans (b := (do pure (Next.value (← Instr.box 32 (.agg (tg_0_c0 t)))) : Sem Next).run Try.prog w) (by kernel_rfl) (st_val hr)) ?_
    obtain ⟨g3, W4, hr, hW, hbb, hge⟩ := hW.mk1 (P := Try.prog) (s := Instr.alloc 25 true (.tuple #[])) #[.int .i64 0, .int .i64 0, .int .i64 0] 25 (by kernel_rfl)
    refine se (a' := (tg_0_a2 t g1 g3)) (.pointer (some ⟨g3, 0, none⟩)) (Eq.trans (b := (do pure (Next.value (← Instr.alloc 25 true (.tuple #[]))) : Sem Next).run Try.prog W2) (by kernel_rfl) (st_val hr)) ?_
    refine wpList_nil ?_
    refine wp_seq ?_
    refine wp_seq ?_
    refine wp_region_list ?_
    refine sk (a' := (tg_0_a3 t g1 g3)) (.int .i64 0) ?_
    refine st_call (in_calls 0 0 3 true (decide_eq_true (by omega)) W4) (by kernel_rfl) (by kernel_rfl) ?_
    rintro _ W5 ⟨rfl, hB⟩
    have hW := hW.step hB
    refine ⟨_, (tg_0_a4 t g1 g3), rfl, by kernel_rfl, ?_⟩
    refine sk (a' := (tg_0_a5 t g1 g3)) (.bool false) ?_
    refine wpList_nil ?_
    refine wp_cond (t := false) (by kernel_rfl) ?_
    refine wp_skip ?_
    refine wp_seq ?_
    refine wp_region_list ?_
    refine sk (a' := (tg_0_a6 t g1 g3)) (.int .i64 0) ?_
    refine sk (a' := (tg_0_a7 t g1 g3)) (.pointer (some ⟨g1, 3, none⟩)) ?_
    refine sk (a' := (tg_0_a8 t g1 g3)) (.pointer (some ⟨g1, 3, none⟩)) ?_
    refine se (a' := (tg_0_a9 t g1 g3)) (.agg #[.int .i64 (t.R 0), .int .i64 (t.R 1), .int .i64 (t.R 2)]) (evA hW 1 3 Try.underlying25) ?_
    obtain ⟨W6, hr, hW, hF⟩ := hW.storeN (P := Try.prog) (o := 0) (cs' := #[.int .i64 (t.R 0), .int .i64 (t.R 1), .int .i64 (t.R 2)]) (L' := [(g3, 25, #[.int .i64 (t.R 0), .int .i64 (t.R 1), .int .i64 (t.R 2)]), (g1, 32, (tg_0_c0 t))]) 0 rfl #[.int .i64 (t.R 0), .int .i64 (t.R 1), .int .i64 (t.R 2)] (by kernel_rfl) (Nat.le_of_ble_eq_true rfl) (by kernel_rfl) rfl 25 (by kernel_rfl)
    refine st_none (w' := W6) (a' := (tg_0_a9 t g1 g3)) (by kernel_rfl) (Eq.trans (b := (do Instr.storeAt 25 (.pointer (some ⟨g3, 0, none⟩)) (.agg #[.int .i64 (t.R 0), .int .i64 (t.R 1), .int .i64 (t.R 2)]); pure Next.skip : Sem Next).run Try.prog W5) (by kernel_rfl) (st_unit hr)) (by kernel_rfl) ?_
    refine wpList_nil ?_
    refine wp_ret ?_
    (try simp only [Exit.then, Exit.inBlock])
    change bodyPost Try.prog Try.f19 _ .ret _ _
    refine bodyPost_ret (results_single rfl (.cell g3 25 _ (0, 0) _ (by kernel_rfl) (hW.blk 0 _ _ _ rfl).1 Try.underlying25 rfl (by kernel_rfl) .nil)) rfl ?_
    exact ⟨rfl, hW.below⟩
  · skip
    refine calls_of_wp Try.func19 rfl ?_
    have hW := Ws.nil w
    refine wp_seq ?_
    refine wp_region_list ?_
    obtain ⟨g1, W2, hr, hW, hbb, hge⟩ := hW.mk1 (P := Try.prog) (s := Instr.box 32 (.agg (tg_1_c0 t))) (tg_1_c0 t) 32 (by kernel_rfl)
    refine se (a' := (tg_1_a1 t g1)) (.pointer (some ⟨g1, 0, none⟩)) (Eq.trans (b := (do pure (Next.value (← Instr.box 32 (.agg (tg_1_c0 t)))) : Sem Next).run Try.prog w) (by kernel_rfl) (st_val hr)) ?_
    obtain ⟨g3, W4, hr, hW, hbb, hge⟩ := hW.mk1 (P := Try.prog) (s := Instr.alloc 25 true (.tuple #[])) #[.int .i64 0, .int .i64 0, .int .i64 0] 25 (by kernel_rfl)
    refine se (a' := (tg_1_a2 t g1 g3)) (.pointer (some ⟨g3, 0, none⟩)) (Eq.trans (b := (do pure (Next.value (← Instr.alloc 25 true (.tuple #[]))) : Sem Next).run Try.prog W2) (by kernel_rfl) (st_val hr)) ?_
    refine wpList_nil ?_
    refine wp_seq ?_
    refine wp_seq ?_
    refine wp_region_list ?_
    refine sk (a' := (tg_1_a3 t g1 g3)) (.int .i64 1) ?_
    refine st_call (in_calls 1 0 3 true (decide_eq_true (by omega)) W4) (by kernel_rfl) (by kernel_rfl) ?_
    rintro _ W5 ⟨rfl, hB⟩
    have hW := hW.step hB
    refine ⟨_, (tg_1_a4 t g1 g3), rfl, by kernel_rfl, ?_⟩
    refine sk (a' := (tg_1_a5 t g1 g3)) (.bool false) ?_
    refine wpList_nil ?_
    refine wp_cond (t := false) (by kernel_rfl) ?_
    refine wp_skip ?_
    refine wp_seq ?_
    refine wp_region_list ?_
    refine sk (a' := (tg_1_a6 t g1 g3)) (.int .i64 1) ?_
    refine sk (a' := (tg_1_a7 t g1 g3)) (.pointer (some ⟨g1, 3, none⟩)) ?_
    refine sk (a' := (tg_1_a8 t g1 g3)) (.pointer (some ⟨g1, 6, none⟩)) ?_
    refine se (a' := (tg_1_a9 t g1 g3)) (.agg #[.int .i64 (t.R 3), .int .i64 (t.R 4), .int .i64 (t.R 5)]) (evA hW 1 6 Try.underlying25) ?_
    obtain ⟨W6, hr, hW, hF⟩ := hW.storeN (P := Try.prog) (o := 0) (cs' := #[.int .i64 (t.R 3), .int .i64 (t.R 4), .int .i64 (t.R 5)]) (L' := [(g3, 25, #[.int .i64 (t.R 3), .int .i64 (t.R 4), .int .i64 (t.R 5)]), (g1, 32, (tg_1_c0 t))]) 0 rfl #[.int .i64 (t.R 3), .int .i64 (t.R 4), .int .i64 (t.R 5)] (by kernel_rfl) (Nat.le_of_ble_eq_true rfl) (by kernel_rfl) rfl 25 (by kernel_rfl)
    refine st_none (w' := W6) (a' := (tg_1_a9 t g1 g3)) (by kernel_rfl) (Eq.trans (b := (do Instr.storeAt 25 (.pointer (some ⟨g3, 0, none⟩)) (.agg #[.int .i64 (t.R 3), .int .i64 (t.R 4), .int .i64 (t.R 5)]); pure Next.skip : Sem Next).run Try.prog W5) (by kernel_rfl) (st_unit hr)) (by kernel_rfl) ?_
    refine wpList_nil ?_
    refine wp_ret ?_
    (try simp only [Exit.then, Exit.inBlock])
    change bodyPost Try.prog Try.f19 _ .ret _ _
    refine bodyPost_ret (results_single rfl (.cell g3 25 _ (0, 0) _ (by kernel_rfl) (hW.blk 0 _ _ _ rfl).1 Try.underlying25 rfl (by kernel_rfl) .nil)) rfl ?_
    exact ⟨rfl, hW.below⟩
  · skip
    refine calls_of_wp Try.func19 rfl ?_
    have hW := Ws.nil w
    refine wp_seq ?_
    refine wp_region_list ?_
    obtain ⟨g1, W2, hr, hW, hbb, hge⟩ := hW.mk1 (P := Try.prog) (s := Instr.box 32 (.agg (tg_2_c0 t))) (tg_2_c0 t) 32 (by kernel_rfl)
    refine se (a' := (tg_2_a1 t g1)) (.pointer (some ⟨g1, 0, none⟩)) (Eq.trans (b := (do pure (Next.value (← Instr.box 32 (.agg (tg_2_c0 t)))) : Sem Next).run Try.prog w) (by kernel_rfl) (st_val hr)) ?_
    obtain ⟨g3, W4, hr, hW, hbb, hge⟩ := hW.mk1 (P := Try.prog) (s := Instr.alloc 25 true (.tuple #[])) #[.int .i64 0, .int .i64 0, .int .i64 0] 25 (by kernel_rfl)
    refine se (a' := (tg_2_a2 t g1 g3)) (.pointer (some ⟨g3, 0, none⟩)) (Eq.trans (b := (do pure (Next.value (← Instr.alloc 25 true (.tuple #[]))) : Sem Next).run Try.prog W2) (by kernel_rfl) (st_val hr)) ?_
    refine wpList_nil ?_
    refine wp_seq ?_
    refine wp_seq ?_
    refine wp_region_list ?_
    refine sk (a' := (tg_2_a3 t g1 g3)) (.int .i64 2) ?_
    refine st_call (in_calls 2 0 3 true (decide_eq_true (by omega)) W4) (by kernel_rfl) (by kernel_rfl) ?_
    rintro _ W5 ⟨rfl, hB⟩
    have hW := hW.step hB
    refine ⟨_, (tg_2_a4 t g1 g3), rfl, by kernel_rfl, ?_⟩
    refine sk (a' := (tg_2_a5 t g1 g3)) (.bool false) ?_
    refine wpList_nil ?_
    refine wp_cond (t := false) (by kernel_rfl) ?_
    refine wp_skip ?_
    refine wp_seq ?_
    refine wp_region_list ?_
    refine sk (a' := (tg_2_a6 t g1 g3)) (.int .i64 2) ?_
    refine sk (a' := (tg_2_a7 t g1 g3)) (.pointer (some ⟨g1, 3, none⟩)) ?_
    refine sk (a' := (tg_2_a8 t g1 g3)) (.pointer (some ⟨g1, 9, none⟩)) ?_
    refine se (a' := (tg_2_a9 t g1 g3)) (.agg #[.int .i64 (t.R 6), .int .i64 (t.R 7), .int .i64 (t.R 8)]) (evA hW 1 9 Try.underlying25) ?_
    obtain ⟨W6, hr, hW, hF⟩ := hW.storeN (P := Try.prog) (o := 0) (cs' := #[.int .i64 (t.R 6), .int .i64 (t.R 7), .int .i64 (t.R 8)]) (L' := [(g3, 25, #[.int .i64 (t.R 6), .int .i64 (t.R 7), .int .i64 (t.R 8)]), (g1, 32, (tg_2_c0 t))]) 0 rfl #[.int .i64 (t.R 6), .int .i64 (t.R 7), .int .i64 (t.R 8)] (by kernel_rfl) (Nat.le_of_ble_eq_true rfl) (by kernel_rfl) rfl 25 (by kernel_rfl)
    refine st_none (w' := W6) (a' := (tg_2_a9 t g1 g3)) (by kernel_rfl) (Eq.trans (b := (do Instr.storeAt 25 (.pointer (some ⟨g3, 0, none⟩)) (.agg #[.int .i64 (t.R 6), .int .i64 (t.R 7), .int .i64 (t.R 8)]); pure Next.skip : Sem Next).run Try.prog W5) (by kernel_rfl) (st_unit hr)) (by kernel_rfl) ?_
    refine wpList_nil ?_
    refine wp_ret ?_
    (try simp only [Exit.then, Exit.inBlock])
    change bodyPost Try.prog Try.f19 _ .ret _ _
    refine bodyPost_ret (results_single rfl (.cell g3 25 _ (0, 0) _ (by kernel_rfl) (hW.blk 0 _ _ _ rfl).1 Try.underlying25 rfl (by kernel_rfl) .nil)) rfl ?_
    exact ⟨rfl, hW.below⟩
  · skip
    refine calls_of_wp Try.func19 rfl ?_
    have hW := Ws.nil w
    refine wp_seq ?_
    refine wp_region_list ?_
    obtain ⟨g1, W2, hr, hW, hbb, hge⟩ := hW.mk1 (P := Try.prog) (s := Instr.box 32 (.agg (tg_3_c0 t))) (tg_3_c0 t) 32 (by kernel_rfl)
    refine se (a' := (tg_3_a1 t g1)) (.pointer (some ⟨g1, 0, none⟩)) (Eq.trans (b := (do pure (Next.value (← Instr.box 32 (.agg (tg_3_c0 t)))) : Sem Next).run Try.prog w) (by kernel_rfl) (st_val hr)) ?_
    obtain ⟨g3, W4, hr, hW, hbb, hge⟩ := hW.mk1 (P := Try.prog) (s := Instr.alloc 25 true (.tuple #[])) #[.int .i64 0, .int .i64 0, .int .i64 0] 25 (by kernel_rfl)
    refine se (a' := (tg_3_a2 t g1 g3)) (.pointer (some ⟨g3, 0, none⟩)) (Eq.trans (b := (do pure (Next.value (← Instr.alloc 25 true (.tuple #[]))) : Sem Next).run Try.prog W2) (by kernel_rfl) (st_val hr)) ?_
    refine wpList_nil ?_
    refine wp_seq ?_
    refine wp_seq ?_
    refine wp_region_list ?_
    refine sk (a' := (tg_3_a3 t g1 g3)) (.int .i64 3) ?_
    refine st_call (in_calls 3 0 3 true (decide_eq_true (by omega)) W4) (by kernel_rfl) (by kernel_rfl) ?_
    rintro _ W5 ⟨rfl, hB⟩
    have hW := hW.step hB
    refine ⟨_, (tg_3_a4 t g1 g3), rfl, by kernel_rfl, ?_⟩
    refine sk (a' := (tg_3_a5 t g1 g3)) (.bool false) ?_
    refine wpList_nil ?_
    refine wp_cond (t := false) (by kernel_rfl) ?_
    refine wp_skip ?_
    refine wp_seq ?_
    refine wp_region_list ?_
    refine sk (a' := (tg_3_a6 t g1 g3)) (.int .i64 3) ?_
    refine sk (a' := (tg_3_a7 t g1 g3)) (.pointer (some ⟨g1, 3, none⟩)) ?_
    refine sk (a' := (tg_3_a8 t g1 g3)) (.pointer (some ⟨g1, 12, none⟩)) ?_
    refine se (a' := (tg_3_a9 t g1 g3)) (.agg #[.int .i64 (t.R 9), .int .i64 (t.R 10), .int .i64 (t.R 11)]) (evA hW 1 12 Try.underlying25) ?_
    obtain ⟨W6, hr, hW, hF⟩ := hW.storeN (P := Try.prog) (o := 0) (cs' := #[.int .i64 (t.R 9), .int .i64 (t.R 10), .int .i64 (t.R 11)]) (L' := [(g3, 25, #[.int .i64 (t.R 9), .int .i64 (t.R 10), .int .i64 (t.R 11)]), (g1, 32, (tg_3_c0 t))]) 0 rfl #[.int .i64 (t.R 9), .int .i64 (t.R 10), .int .i64 (t.R 11)] (by kernel_rfl) (Nat.le_of_ble_eq_true rfl) (by kernel_rfl) rfl 25 (by kernel_rfl)
    refine st_none (w' := W6) (a' := (tg_3_a9 t g1 g3)) (by kernel_rfl) (Eq.trans (b := (do Instr.storeAt 25 (.pointer (some ⟨g3, 0, none⟩)) (.agg #[.int .i64 (t.R 9), .int .i64 (t.R 10), .int .i64 (t.R 11)]); pure Next.skip : Sem Next).run Try.prog W5) (by kernel_rfl) (st_unit hr)) (by kernel_rfl) ?_
    refine wpList_nil ?_
    refine wp_ret ?_
    (try simp only [Exit.then, Exit.inBlock])
    change bodyPost Try.prog Try.f19 _ .ret _ _
    refine bodyPost_ret (results_single rfl (.cell g3 25 _ (0, 0) _ (by kernel_rfl) (hW.blk 0 _ _ _ rfl).1 Try.underlying25 rfl (by kernel_rfl) .nil)) rfl ?_
    exact ⟨rfl, hW.below⟩
def tc_c0 (t : Th) : Array Value := #[.int .i64 t.pc, .int .i64 t.fu, .int .i64 t.st, .int .i64 (t.R 0), .int .i64 (t.R 1), .int .i64 (t.R 2), .int .i64 (t.R 3), .int .i64 (t.R 4), .int .i64 (t.R 5), .int .i64 (t.R 6), .int .i64 (t.R 7), .int .i64 (t.R 8), .int .i64 (t.R 9), .int .i64 (t.R 10), .int .i64 (t.R 11), .int .i64 t.kd, .int .i64 t.mi, .int .i64 t.mn, t.sv, t.bv, t.nv, .int .i64 t.old]
def tc_a1 (t : Th) (g1 : Nat) : Act := ⟨#[.agg (tc_c0 t), .pointer (some ⟨g1, 0, none⟩), zz, zz, zz, zz, zz, zz, zz, zz, zz, zz, zz, zz, zz, zz, zz, zz], []⟩
def tc_c1 : Array Value := #[.int .i64 0, .int .i64 0, .int .i64 0, .int .i64 0, .int .i64 0, .int .i64 0, .int .i64 0, .int .i64 0, .int .i64 0, .int .i64 0, .int .i64 0, .int .i64 0, .int .i64 0, .int .i64 0, .int .i64 0, .int .i64 0, .int .i64 0, .int .i64 0, .slice none 0 0, .slice none 0 0, .slice none 0 0, .int .i64 0]
def tc_a3 (t : Th) (g1 : Nat) (g3 : Nat) : Act := ⟨#[.agg (tc_c0 t), .pointer (some ⟨g1, 0, none⟩), .pointer (some ⟨g3, 0, none⟩), zz, zz, zz, zz, zz, zz, zz, zz, zz, zz, zz, zz, zz, zz, zz], []⟩
def tc_a4 (t : Th) (g1 : Nat) (g3 : Nat) : Act := ⟨#[.agg (tc_c0 t), .pointer (some ⟨g1, 0, none⟩), .pointer (some ⟨g3, 0, none⟩), .pointer (some ⟨g1, 15, none⟩), zz, zz, zz, zz, zz, zz, zz, zz, zz, zz, zz, zz, zz, zz], []⟩
def tc_a5 (t : Th) (g1 : Nat) (g3 : Nat) : Act := ⟨#[.agg (tc_c0 t), .pointer (some ⟨g1, 0, none⟩), .pointer (some ⟨g3, 0, none⟩), .pointer (some ⟨g1, 15, none⟩), .pointer (some ⟨g1, 18, none⟩), zz, zz, zz, zz, zz, zz, zz, zz, zz, zz, zz, zz, zz], []⟩
def tc_a6 (t : Th) (g1 : Nat) (g3 : Nat) : Act := ⟨#[.agg (tc_c0 t), .pointer (some ⟨g1, 0, none⟩), .pointer (some ⟨g3, 0, none⟩), .pointer (some ⟨g1, 15, none⟩), .pointer (some ⟨g1, 18, none⟩), t.sv, zz, zz, zz, zz, zz, zz, zz, zz, zz, zz, zz, zz], []⟩
def tc_a7 (t : Th) (g1 : Nat) (g3 : Nat) : Act := ⟨#[.agg (tc_c0 t), .pointer (some ⟨g1, 0, none⟩), .pointer (some ⟨g3, 0, none⟩), .pointer (some ⟨g1, 15, none⟩), .pointer (some ⟨g1, 18, none⟩), t.sv, zz, .pointer (some ⟨g1, 19, none⟩), zz, zz, zz, zz, zz, zz, zz, zz, zz, zz], []⟩
def tc_a8 (t : Th) (g1 : Nat) (g3 : Nat) : Act := ⟨#[.agg (tc_c0 t), .pointer (some ⟨g1, 0, none⟩), .pointer (some ⟨g3, 0, none⟩), .pointer (some ⟨g1, 15, none⟩), .pointer (some ⟨g1, 18, none⟩), t.sv, zz, .pointer (some ⟨g1, 19, none⟩), t.bv, zz, zz, zz, zz, zz, zz, zz, zz, zz], []⟩
def tc_a9 (t : Th) (g1 : Nat) (g3 : Nat) : Act := ⟨#[.agg (tc_c0 t), .pointer (some ⟨g1, 0, none⟩), .pointer (some ⟨g3, 0, none⟩), .pointer (some ⟨g1, 15, none⟩), .pointer (some ⟨g1, 18, none⟩), t.sv, zz, .pointer (some ⟨g1, 19, none⟩), t.bv, zz, .pointer (some ⟨g1, 20, none⟩), zz, zz, zz, zz, zz, zz, zz], []⟩
def tc_a10 (t : Th) (g1 : Nat) (g3 : Nat) : Act := ⟨#[.agg (tc_c0 t), .pointer (some ⟨g1, 0, none⟩), .pointer (some ⟨g3, 0, none⟩), .pointer (some ⟨g1, 15, none⟩), .pointer (some ⟨g1, 18, none⟩), t.sv, zz, .pointer (some ⟨g1, 19, none⟩), t.bv, zz, .pointer (some ⟨g1, 20, none⟩), t.nv, zz, zz, zz, zz, zz, zz], []⟩
def tc_a11 (t : Th) (xs : List Int) (g1 : Nat) (g3 : Nat) (A5 : Option Addr) (c5 : Nat) : Act := ⟨#[.agg (tc_c0 t), .pointer (some ⟨g1, 0, none⟩), .pointer (some ⟨g3, 0, none⟩), .pointer (some ⟨g1, 15, none⟩), .pointer (some ⟨g1, 18, none⟩), t.sv, .slice A5 xs.length c5, .pointer (some ⟨g1, 19, none⟩), t.bv, zz, .pointer (some ⟨g1, 20, none⟩), t.nv, zz, zz, zz, zz, zz, zz], []⟩
def tc_a12 (t : Th) (xs : List Int) (g1 : Nat) (g3 : Nat) (A5 : Option Addr) (c5 : Nat) : Act := ⟨#[.agg (tc_c0 t), .pointer (some ⟨g1, 0, none⟩), .pointer (some ⟨g3, 0, none⟩), .pointer (some ⟨g1, 15, none⟩), .pointer (some ⟨g1, 18, none⟩), t.sv, .slice A5 xs.length c5, .pointer (some ⟨g1, 19, none⟩), t.bv, zz, .pointer (some ⟨g1, 20, none⟩), t.nv, zz, .pointer (some ⟨g1, 15, none⟩), zz, zz, zz, zz], []⟩
def tc_a13 (t : Th) (xs : List Int) (g1 : Nat) (g3 : Nat) (A5 : Option Addr) (c5 : Nat) : Act := ⟨#[.agg (tc_c0 t), .pointer (some ⟨g1, 0, none⟩), .pointer (some ⟨g3, 0, none⟩), .pointer (some ⟨g1, 15, none⟩), .pointer (some ⟨g1, 18, none⟩), t.sv, .slice A5 xs.length c5, .pointer (some ⟨g1, 19, none⟩), t.bv, zz, .pointer (some ⟨g1, 20, none⟩), t.nv, zz, .pointer (some ⟨g1, 15, none⟩), .pointer (some ⟨g1, 18, none⟩), zz, zz, zz], []⟩
def tc_a14 (t : Th) (xs : List Int) (bs : List S42) (g1 : Nat) (g3 : Nat) (A5 : Option Addr) (c5 : Nat) (A6 : Option Addr) (c6 : Nat) : Act := ⟨#[.agg (tc_c0 t), .pointer (some ⟨g1, 0, none⟩), .pointer (some ⟨g3, 0, none⟩), .pointer (some ⟨g1, 15, none⟩), .pointer (some ⟨g1, 18, none⟩), t.sv, .slice A5 xs.length c5, .pointer (some ⟨g1, 19, none⟩), t.bv, .slice A6 bs.length c6, .pointer (some ⟨g1, 20, none⟩), t.nv, zz, .pointer (some ⟨g1, 15, none⟩), .pointer (some ⟨g1, 18, none⟩), zz, zz, zz], []⟩
def tc_a15 (t : Th) (xs : List Int) (bs : List S42) (ns : List Int) (g1 : Nat) (g3 : Nat) (A5 : Option Addr) (c5 : Nat) (A6 : Option Addr) (c6 : Nat) (A7 : Option Addr) (c7 : Nat) : Act := ⟨#[.agg (tc_c0 t), .pointer (some ⟨g1, 0, none⟩), .pointer (some ⟨g3, 0, none⟩), .pointer (some ⟨g1, 15, none⟩), .pointer (some ⟨g1, 18, none⟩), t.sv, .slice A5 xs.length c5, .pointer (some ⟨g1, 19, none⟩), t.bv, .slice A6 bs.length c6, .pointer (some ⟨g1, 20, none⟩), t.nv, .slice A7 ns.length c7, .pointer (some ⟨g1, 15, none⟩), .pointer (some ⟨g1, 18, none⟩), zz, zz, zz], []⟩
def tc_c2 (t : Th) (xs : List Int) (A5 : Option Addr) (c5 : Nat) : Array Value := #[.int .i64 t.pc, .int .i64 t.fu, .int .i64 t.st, .int .i64 (t.R 0), .int .i64 (t.R 1), .int .i64 (t.R 2), .int .i64 (t.R 3), .int .i64 (t.R 4), .int .i64 (t.R 5), .int .i64 (t.R 6), .int .i64 (t.R 7), .int .i64 (t.R 8), .int .i64 (t.R 9), .int .i64 (t.R 10), .int .i64 (t.R 11), .int .i64 t.kd, .int .i64 t.mi, .int .i64 t.mn, .slice A5 xs.length c5, t.bv, t.nv, .int .i64 t.old]
def tc_a17 (t : Th) (xs : List Int) (bs : List S42) (ns : List Int) (g1 : Nat) (g3 : Nat) (A5 : Option Addr) (c5 : Nat) (A6 : Option Addr) (c6 : Nat) (A7 : Option Addr) (c7 : Nat) : Act := ⟨#[.agg (tc_c0 t), .pointer (some ⟨g1, 0, none⟩), .pointer (some ⟨g3, 0, none⟩), .pointer (some ⟨g1, 15, none⟩), .pointer (some ⟨g1, 18, none⟩), t.sv, .slice A5 xs.length c5, .pointer (some ⟨g1, 19, none⟩), t.bv, .slice A6 bs.length c6, .pointer (some ⟨g1, 20, none⟩), t.nv, .slice A7 ns.length c7, .pointer (some ⟨g1, 15, none⟩), .pointer (some ⟨g1, 18, none⟩), .pointer (some ⟨g1, 19, none⟩), zz, zz], []⟩
def tc_c3 (t : Th) (xs : List Int) (bs : List S42) (A5 : Option Addr) (c5 : Nat) (A6 : Option Addr) (c6 : Nat) : Array Value := #[.int .i64 t.pc, .int .i64 t.fu, .int .i64 t.st, .int .i64 (t.R 0), .int .i64 (t.R 1), .int .i64 (t.R 2), .int .i64 (t.R 3), .int .i64 (t.R 4), .int .i64 (t.R 5), .int .i64 (t.R 6), .int .i64 (t.R 7), .int .i64 (t.R 8), .int .i64 (t.R 9), .int .i64 (t.R 10), .int .i64 (t.R 11), .int .i64 t.kd, .int .i64 t.mi, .int .i64 t.mn, .slice A5 xs.length c5, .slice A6 bs.length c6, t.nv, .int .i64 t.old]
def tc_a19 (t : Th) (xs : List Int) (bs : List S42) (ns : List Int) (g1 : Nat) (g3 : Nat) (A5 : Option Addr) (c5 : Nat) (A6 : Option Addr) (c6 : Nat) (A7 : Option Addr) (c7 : Nat) : Act := ⟨#[.agg (tc_c0 t), .pointer (some ⟨g1, 0, none⟩), .pointer (some ⟨g3, 0, none⟩), .pointer (some ⟨g1, 15, none⟩), .pointer (some ⟨g1, 18, none⟩), t.sv, .slice A5 xs.length c5, .pointer (some ⟨g1, 19, none⟩), t.bv, .slice A6 bs.length c6, .pointer (some ⟨g1, 20, none⟩), t.nv, .slice A7 ns.length c7, .pointer (some ⟨g1, 15, none⟩), .pointer (some ⟨g1, 18, none⟩), .pointer (some ⟨g1, 19, none⟩), .pointer (some ⟨g1, 20, none⟩), zz], []⟩
def tc_c4 (t : Th) (xs : List Int) (bs : List S42) (ns : List Int) (A5 : Option Addr) (c5 : Nat) (A6 : Option Addr) (c6 : Nat) (A7 : Option Addr) (c7 : Nat) : Array Value := #[.int .i64 t.pc, .int .i64 t.fu, .int .i64 t.st, .int .i64 (t.R 0), .int .i64 (t.R 1), .int .i64 (t.R 2), .int .i64 (t.R 3), .int .i64 (t.R 4), .int .i64 (t.R 5), .int .i64 (t.R 6), .int .i64 (t.R 7), .int .i64 (t.R 8), .int .i64 (t.R 9), .int .i64 (t.R 10), .int .i64 (t.R 11), .int .i64 t.kd, .int .i64 t.mi, .int .i64 t.mn, .slice A5 xs.length c5, .slice A6 bs.length c6, .slice A7 ns.length c7, .int .i64 t.old]
def tc_a21 (t : Th) (xs : List Int) (bs : List S42) (ns : List Int) (g1 : Nat) (g3 : Nat) (A5 : Option Addr) (c5 : Nat) (A6 : Option Addr) (c6 : Nat) (A7 : Option Addr) (c7 : Nat) : Act := ⟨#[.agg (tc_c0 t), .pointer (some ⟨g1, 0, none⟩), .pointer (some ⟨g3, 0, none⟩), .pointer (some ⟨g1, 15, none⟩), .pointer (some ⟨g1, 18, none⟩), t.sv, .slice A5 xs.length c5, .pointer (some ⟨g1, 19, none⟩), t.bv, .slice A6 bs.length c6, .pointer (some ⟨g1, 20, none⟩), t.nv, .slice A7 ns.length c7, .pointer (some ⟨g1, 15, none⟩), .pointer (some ⟨g1, 18, none⟩), .pointer (some ⟨g1, 19, none⟩), .pointer (some ⟨g1, 20, none⟩), .agg (tc_c4 t xs bs ns A5 c5 A6 c6 A7 c7)], []⟩
set_option maxHeartbeats 8000000 in
set_option maxRecDepth 100000 in
theorem th_Clone {w : World} {t : Th} {xs : List Int} {bs : List S42} {ns : List Int} (h : t.reads w xs bs ns) (hl : xs.length ≤ 1000 ∧ bs.length ≤ 1000 ∧ ns.length ≤ 1000) : Calls Try.prog 16 #[.agg t.cells] w fun e w' => ∃ As cs Ab cb An cn, e = .returned (.agg ((t).rows (.slice As xs.length cs) (.slice Ab bs.length cb) (.slice An ns.length cn)).cells) ∧ ((t).rows (.slice As xs.length cs) (.slice Ab bs.length cb) (.slice An ns.length cn)).owns w' w.heap.size xs bs ns ∧ Below w.heap.size w w' := by
  refine calls_of_wp Try.func16 rfl ?_
  have hW := Ws.nil w
  refine wp_seq ?_
  refine wp_region_list ?_
  obtain ⟨g1, W2, hr, hW, hbb, hge⟩ := hW.mk1 (P := Try.prog) (s := Instr.box 32 (.agg (tc_c0 t))) (tc_c0 t) 32 (by kernel_rfl)
  refine se (a' := (tc_a1 t g1)) (.pointer (some ⟨g1, 0, none⟩)) (Eq.trans (b := (do pure (Next.value (← Instr.box 32 (.agg (tc_c0 t)))) : Sem Next).run Try.prog w) (by kernel_rfl) (st_val hr)) ?_
  obtain ⟨g3, W4, hr, hW, hbb, hge⟩ := hW.mk1 (P := Try.prog) (s := Instr.alloc 32 true (.tuple #[])) tc_c1 32 (by kernel_rfl)
  refine se (a' := (tc_a3 t g1 g3)) (.pointer (some ⟨g3, 0, none⟩)) (Eq.trans (b := (do pure (Next.value (← Instr.alloc 32 true (.tuple #[]))) : Sem Next).run Try.prog W2) (by kernel_rfl) (st_val hr)) ?_
  refine wpList_nil ?_
  refine wp_seq ?_
  have hW := hW.drew
  refine dd_begin 12 (fun W => Ws w W [(g3, 32, tc_c1), (g1, 32, (tc_c0 t))]) (by kernel_rfl) ?_
  refine dd_one 0 (a' := (tc_a4 t g1 g3)) (.pointer (some ⟨g1, 15, none⟩)) rfl (by kernel_rfl) (by kernel_rfl) (by kernel_rfl) (fun _ _ _ h => h) (by kernel_rfl) (by kernel_rfl) (by kernel_rfl) (fun W hH => by kernel_rfl) hW (by kernel_rfl) ?_
  refine dd_one 1 (a' := (tc_a5 t g1 g3)) (.pointer (some ⟨g1, 18, none⟩)) rfl (by kernel_rfl) (by kernel_rfl) (by kernel_rfl) (fun _ _ _ h => h) (by kernel_rfl) (by kernel_rfl) (by kernel_rfl) (fun W hH => by kernel_rfl) hW (by kernel_rfl) ?_
  refine dd_one 2 (a' := (tc_a6 t g1 g3)) (t.sv) rfl (by kernel_rfl) (by kernel_rfl) (by kernel_rfl) (fun _ _ _ h => h) (by kernel_rfl) (by kernel_rfl) (by kernel_rfl) (fun W hH => (ev1 hH 1 18 Try.underlying27)) hW (by kernel_rfl) ?_
  refine dd_one 4 (a' := (tc_a7 t g1 g3)) (.pointer (some ⟨g1, 19, none⟩)) rfl (by kernel_rfl) (by kernel_rfl) (by kernel_rfl) (fun _ _ _ h => h) (by kernel_rfl) (by kernel_rfl) (by kernel_rfl) (fun W hH => by kernel_rfl) hW (by kernel_rfl) ?_
  refine dd_one 5 (a' := (tc_a8 t g1 g3)) (t.bv) rfl (by kernel_rfl) (by kernel_rfl) (by kernel_rfl) (fun _ _ _ h => h) (by kernel_rfl) (by kernel_rfl) (by kernel_rfl) (fun W hH => (ev1 hH 1 19 Try.underlying30)) hW (by kernel_rfl) ?_
  refine dd_one 7 (a' := (tc_a9 t g1 g3)) (.pointer (some ⟨g1, 20, none⟩)) rfl (by kernel_rfl) (by kernel_rfl) (by kernel_rfl) (fun _ _ _ h => h) (by kernel_rfl) (by kernel_rfl) (by kernel_rfl) (fun W hH => by kernel_rfl) hW (by kernel_rfl) ?_
  refine dd_one 8 (a' := (tc_a10 t g1 g3)) (t.nv) rfl (by kernel_rfl) (by kernel_rfl) (by kernel_rfl) (fun _ _ _ h => h) (by kernel_rfl) (by kernel_rfl) (by kernel_rfl) (fun W hH => (ev1 hH 1 20 Try.underlying27)) hW (by kernel_rfl) ?_
  refine dd_ready [3] (by kernel_rfl) rfl ?_
  refine all_cons ?_ all_nil
  have hK5_g3 : g3 < W4.drew.heap.size := blk_lt (hW.blk 0 _ _ _ rfl).1
  have hK5_g1 : g1 < W4.drew.heap.size := blk_lt (hW.blk 1 _ _ _ rfl).1
  have hK5_le : w.heap.size ≤ W4.drew.heap.size := hW.below.size
  refine op_call rfl (cloneI_calls (h.s.below hW.below) hl.1) (by kernel_rfl) (by kernel_rfl) ?_
  rintro _ W5 ⟨A5, c5, rfl, hR5, hB⟩
  have hW := hW.step hB
  have hK5 := KeepUp.refl W4.drew.heap.size W5
  refine ⟨_, (tc_a11 t xs g1 g3 A5 c5), rfl, by kernel_rfl, ?_⟩
  refine ⟨(fun _ => hW), ?_⟩
  refine dd_one 10 (a' := (tc_a12 t xs g1 g3 A5 c5)) (.pointer (some ⟨g1, 15, none⟩)) rfl (by kernel_rfl) (by kernel_rfl) (by kernel_rfl) (fun _ _ _ h => h) (by kernel_rfl) (by kernel_rfl) (by kernel_rfl) (fun W hH => by kernel_rfl) hW (by kernel_rfl) ?_
  refine dd_one 11 (a' := (tc_a13 t xs g1 g3 A5 c5)) (.pointer (some ⟨g1, 18, none⟩)) rfl (by kernel_rfl) (by kernel_rfl) (by kernel_rfl) (fun _ _ _ h => h) (by kernel_rfl) (by kernel_rfl) (by kernel_rfl) (fun W hH => by kernel_rfl) hW (by kernel_rfl) ?_
  refine dd_ready [6] (by kernel_rfl) rfl ?_
  refine all_cons ?_ all_nil
  have hK6_g3 : g3 < W5.heap.size := blk_lt (hW.blk 0 _ _ _ rfl).1
  have hK6_g1 : g1 < W5.heap.size := blk_lt (hW.blk 1 _ _ _ rfl).1
  have hK6_le : w.heap.size ≤ W5.heap.size := hW.below.size
  refine op_call rfl (cloneB_calls (h.b.below hW.below) hl.2.1) (by kernel_rfl) (by kernel_rfl) ?_
  rintro _ W6 ⟨A6, c6, rfl, hR6, hB⟩
  have hW := hW.step hB
  have hK5 := hK5.below hB
  have hK6 := KeepUp.refl W5.heap.size W6
  refine ⟨_, (tc_a14 t xs bs g1 g3 A5 c5 A6 c6), rfl, by kernel_rfl, ?_⟩
  refine ⟨(fun _ => hW), ?_⟩
  refine dd_ready [9] (by kernel_rfl) rfl ?_
  refine all_cons ?_ all_nil
  have hK7_g3 : g3 < W6.heap.size := blk_lt (hW.blk 0 _ _ _ rfl).1
  have hK7_g1 : g1 < W6.heap.size := blk_lt (hW.blk 1 _ _ _ rfl).1
  have hK7_le : w.heap.size ≤ W6.heap.size := hW.below.size
  refine op_call rfl (cloneI_calls (h.n.below hW.below) hl.2.2) (by kernel_rfl) (by kernel_rfl) ?_
  rintro _ W7 ⟨A7, c7, rfl, hR7, hB⟩
  have hW := hW.step hB
  have hK5 := hK5.below hB
  have hK6 := hK6.below hB
  have hK7 := KeepUp.refl W6.heap.size W7
  refine ⟨_, (tc_a15 t xs bs ns g1 g3 A5 c5 A6 c6 A7 c7), rfl, by kernel_rfl, ?_⟩
  refine ⟨(fun _ => hW), ?_⟩
  refine dd_ready [12] (by kernel_rfl) rfl ?_
  refine all_cons ?_ all_nil
  obtain ⟨W8, hr, hW, hF⟩ := hW.store1 (P := Try.prog) (o := 18) (cs' := (tc_c2 t xs A5 c5)) (L' := [(g3, 32, tc_c1), (g1, 32, (tc_c2 t xs A5 c5))]) 1 rfl (.slice A5 xs.length c5) rfl (Nat.le_of_ble_eq_true rfl) (by rfl) rfl 27 (by kernel_rfl)
  have hK5 := hK5.store hF (.inl hK5_g1)
  have hK6 := hK6.store hF (.inl hK6_g1)
  have hK7 := hK7.store hF (.inl hK7_g1)
  refine op_none (w' := W8) (a' := (tc_a15 t xs bs ns g1 g3 A5 c5 A6 c6 A7 c7)) rfl (by kernel_rfl) (Eq.trans (b := (do Instr.storeAt 27 (.pointer (some ⟨g1, 18, none⟩)) (.slice A5 xs.length c5); pure Next.skip : Sem Next).run Try.prog W7) (by kernel_rfl) (st_unit hr)) (by kernel_rfl) ?_
  refine ⟨(fun h => by cases (show true = false from h)), ?_⟩
  refine dd_ready [13] (by kernel_rfl) rfl ?_
  refine all_cons ?_ all_nil
  refine op_val (w' := W8) (a' := (tc_a17 t xs bs ns g1 g3 A5 c5 A6 c6 A7 c7)) (.pointer (some ⟨g1, 19, none⟩)) rfl (by kernel_rfl) (by kernel_rfl) (by kernel_rfl) ?_
  refine ⟨(fun h => by cases (show true = false from h)), ?_⟩
  refine dd_ready [14] (by kernel_rfl) rfl ?_
  refine all_cons ?_ all_nil
  obtain ⟨W9, hr, hW, hF⟩ := hW.store1 (P := Try.prog) (o := 19) (cs' := (tc_c3 t xs bs A5 c5 A6 c6)) (L' := [(g3, 32, tc_c1), (g1, 32, (tc_c3 t xs bs A5 c5 A6 c6))]) 1 rfl (.slice A6 bs.length c6) rfl (Nat.le_of_ble_eq_true rfl) (by rfl) rfl 30 (by kernel_rfl)
  have hK5 := hK5.store hF (.inl hK5_g1)
  have hK6 := hK6.store hF (.inl hK6_g1)
  have hK7 := hK7.store hF (.inl hK7_g1)
  refine op_none (w' := W9) (a' := (tc_a17 t xs bs ns g1 g3 A5 c5 A6 c6 A7 c7)) rfl (by kernel_rfl) (Eq.trans (b := (do Instr.storeAt 30 (.pointer (some ⟨g1, 19, none⟩)) (.slice A6 bs.length c6); pure Next.skip : Sem Next).run Try.prog W8) (by kernel_rfl) (st_unit hr)) (by kernel_rfl) ?_
  refine ⟨(fun h => by cases (show true = false from h)), ?_⟩
  refine dd_ready [15] (by kernel_rfl) rfl ?_
  refine all_cons ?_ all_nil
  refine op_val (w' := W9) (a' := (tc_a19 t xs bs ns g1 g3 A5 c5 A6 c6 A7 c7)) (.pointer (some ⟨g1, 20, none⟩)) rfl (by kernel_rfl) (by kernel_rfl) (by kernel_rfl) ?_
  refine ⟨(fun h => by cases (show true = false from h)), ?_⟩
  refine dd_ready [16] (by kernel_rfl) rfl ?_
  refine all_cons ?_ all_nil
  obtain ⟨W10, hr, hW, hF⟩ := hW.store1 (P := Try.prog) (o := 20) (cs' := (tc_c4 t xs bs ns A5 c5 A6 c6 A7 c7)) (L' := [(g3, 32, tc_c1), (g1, 32, (tc_c4 t xs bs ns A5 c5 A6 c6 A7 c7))]) 1 rfl (.slice A7 ns.length c7) rfl (Nat.le_of_ble_eq_true rfl) (by rfl) rfl 27 (by kernel_rfl)
  have hK5 := hK5.store hF (.inl hK5_g1)
  have hK6 := hK6.store hF (.inl hK6_g1)
  have hK7 := hK7.store hF (.inl hK7_g1)
  refine op_none (w' := W10) (a' := (tc_a19 t xs bs ns g1 g3 A5 c5 A6 c6 A7 c7)) rfl (by kernel_rfl) (Eq.trans (b := (do Instr.storeAt 27 (.pointer (some ⟨g1, 20, none⟩)) (.slice A7 ns.length c7); pure Next.skip : Sem Next).run Try.prog W9) (by kernel_rfl) (st_unit hr)) (by kernel_rfl) ?_
  refine ⟨(fun h => by cases (show true = false from h)), ?_⟩
  refine dd_done (by kernel_rfl) ?_ _
  refine wp_seq ?_
  refine wp_region_list ?_
  refine se (a' := (tc_a21 t xs bs ns g1 g3 A5 c5 A6 c6 A7 c7)) (.agg (tc_c4 t xs bs ns A5 c5 A6 c6 A7 c7)) (evA hW 1 0 Try.underlying32) ?_
  obtain ⟨W11, hr, hW, hF⟩ := hW.storeN (P := Try.prog) (o := 0) (cs' := (tc_c4 t xs bs ns A5 c5 A6 c6 A7 c7)) (L' := [(g3, 32, (tc_c4 t xs bs ns A5 c5 A6 c6 A7 c7)), (g1, 32, (tc_c4 t xs bs ns A5 c5 A6 c6 A7 c7))]) 0 rfl (tc_c4 t xs bs ns A5 c5 A6 c6 A7 c7) (by kernel_rfl) (Nat.le_of_ble_eq_true rfl) (by kernel_rfl) rfl 32 (by kernel_rfl)
  have hK5 := hK5.store hF (.inl hK5_g3)
  have hK6 := hK6.store hF (.inl hK6_g3)
  have hK7 := hK7.store hF (.inl hK7_g3)
  refine st_none (w' := W11) (a' := (tc_a21 t xs bs ns g1 g3 A5 c5 A6 c6 A7 c7)) (by kernel_rfl) (Eq.trans (b := (do Instr.storeAt 32 (.pointer (some ⟨g3, 0, none⟩)) (.agg (tc_c4 t xs bs ns A5 c5 A6 c6 A7 c7)); pure Next.skip : Sem Next).run Try.prog W10) (by kernel_rfl) (st_unit hr)) (by kernel_rfl) ?_
  refine wpList_nil ?_
  refine wp_ret ?_
  (try simp only [Exit.then, Exit.inBlock])
  change bodyPost Try.prog Try.f16 _ .ret _ _
  refine bodyPost_ret (results_single rfl (.cell g3 32 _ (0, 0) _ (by kernel_rfl) (hW.blk 0 _ _ _ rfl).1 Try.underlying32 rfl (by kernel_rfl) .nil)) rfl ?_
  exact ⟨A5, c5, A6, c6, A7, c7, rfl, ⟨Kd.R_lower (hK5.R hR5) hK5_le, Kd.R_lower (hK6.R hR6) hK6_le, Kd.R_lower (hK7.R hR7) hK7_le⟩, hW.below⟩
def ts_c0 (t : Th) : Array Value := #[.int .i64 t.pc, .int .i64 t.fu, .int .i64 t.st, .int .i64 (t.R 0), .int .i64 (t.R 1), .int .i64 (t.R 2), .int .i64 (t.R 3), .int .i64 (t.R 4), .int .i64 (t.R 5), .int .i64 (t.R 6), .int .i64 (t.R 7), .int .i64 (t.R 8), .int .i64 (t.R 9), .int .i64 (t.R 10), .int .i64 (t.R 11), .int .i64 t.kd, .int .i64 t.mi, .int .i64 t.mn, t.sv, t.bv, t.nv, .int .i64 t.old]
def ts_a1 (t : Th) (g1 : Nat) : Act := ⟨#[.agg (ts_c0 t), .pointer (some ⟨g1, 0, none⟩), zz, zz, zz, zz, zz, zz, zz, zz, zz, zz, zz, zz], []⟩
def ts_c1 : Array Value := #[.int .i64 0, .int .i64 0, .int .i64 0, .int .i64 0, .int .i64 0, .int .i64 0, .int .i64 0, .int .i64 0, .int .i64 0, .int .i64 0, .int .i64 0, .int .i64 0, .int .i64 0, .int .i64 0, .int .i64 0, .int .i64 0, .int .i64 0, .int .i64 0, .slice none 0 0, .slice none 0 0, .slice none 0 0, .int .i64 0]
def ts_a3 (t : Th) (g1 : Nat) (g3 : Nat) : Act := ⟨#[.agg (ts_c0 t), .pointer (some ⟨g1, 0, none⟩), .pointer (some ⟨g3, 0, none⟩), zz, zz, zz, zz, zz, zz, zz, zz, zz, zz, zz], []⟩
def ts_a4 (t : Th) (g1 : Nat) (g3 : Nat) : Act := ⟨#[.agg (ts_c0 t), .pointer (some ⟨g1, 0, none⟩), .pointer (some ⟨g3, 0, none⟩), .agg (ts_c0 t), zz, zz, zz, zz, zz, zz, zz, zz, zz, zz], []⟩
def ts_c2 (t : Th) (r5 : Rw) : Array Value := #[.int .i64 t.pc, .int .i64 t.fu, .int .i64 t.st, .int .i64 (t.R 0), .int .i64 (t.R 1), .int .i64 (t.R 2), .int .i64 (t.R 3), .int .i64 (t.R 4), .int .i64 (t.R 5), .int .i64 (t.R 6), .int .i64 (t.R 7), .int .i64 (t.R 8), .int .i64 (t.R 9), .int .i64 (t.R 10), .int .i64 (t.R 11), .int .i64 t.kd, .int .i64 t.mi, .int .i64 t.mn, r5.s, r5.b, r5.n, .int .i64 t.old]
def ts_a6 (t : Th) (g1 : Nat) (g3 : Nat) (r5 : Rw) : Act := ⟨#[.agg (ts_c0 t), .pointer (some ⟨g1, 0, none⟩), .pointer (some ⟨g3, 0, none⟩), .agg (ts_c0 t), .agg (ts_c2 t r5), zz, zz, zz, zz, zz, zz, zz, zz, zz], []⟩
def ts_a7 (t : Th) (g1 : Nat) (g3 : Nat) (r5 : Rw) : Act := ⟨#[.agg (ts_c0 t), .pointer (some ⟨g1, 0, none⟩), .pointer (some ⟨g3, 0, none⟩), .agg (ts_c0 t), .agg (ts_c2 t r5), .pointer (some ⟨g1, 1, none⟩), zz, zz, zz, zz, zz, zz, zz, zz], []⟩
def ts_a8 (t : Th) (g1 : Nat) (g3 : Nat) (r5 : Rw) : Act := ⟨#[.agg (ts_c0 t), .pointer (some ⟨g1, 0, none⟩), .pointer (some ⟨g3, 0, none⟩), .agg (ts_c0 t), .agg (ts_c2 t r5), .pointer (some ⟨g1, 1, none⟩), .int .i64 t.fu, zz, zz, zz, zz, zz, zz, zz], []⟩
def ts_a9 (t : Th) (g1 : Nat) (g3 : Nat) (r5 : Rw) : Act := ⟨#[.agg (ts_c0 t), .pointer (some ⟨g1, 0, none⟩), .pointer (some ⟨g3, 0, none⟩), .agg (ts_c0 t), .agg (ts_c2 t r5), .pointer (some ⟨g1, 1, none⟩), .int .i64 t.fu, .int .i64 (IntKind.wrap .i64 (t.fu - 1)), zz, zz, zz, zz, zz, zz], []⟩
def ts_a10 (t : Th) (g1 : Nat) (g3 : Nat) (r5 : Rw) : Act := ⟨#[.agg (ts_c0 t), .pointer (some ⟨g1, 0, none⟩), .pointer (some ⟨g3, 0, none⟩), .agg (ts_c0 t), .agg (ts_c2 t r5), .pointer (some ⟨g1, 1, none⟩), .int .i64 t.fu, .int .i64 (IntKind.wrap .i64 (t.fu - 1)), .pointer (some ⟨g1, 1, none⟩), zz, zz, zz, zz, zz], []⟩
def ts_c3 (t : Th) (r5 : Rw) : Array Value := #[.int .i64 t.pc, .int .i64 (IntKind.wrap .i64 (t.fu - 1)), .int .i64 t.st, .int .i64 (t.R 0), .int .i64 (t.R 1), .int .i64 (t.R 2), .int .i64 (t.R 3), .int .i64 (t.R 4), .int .i64 (t.R 5), .int .i64 (t.R 6), .int .i64 (t.R 7), .int .i64 (t.R 8), .int .i64 (t.R 9), .int .i64 (t.R 10), .int .i64 (t.R 11), .int .i64 t.kd, .int .i64 t.mi, .int .i64 t.mn, r5.s, r5.b, r5.n, .int .i64 t.old]
def ts_a12 (t : Th) (g1 : Nat) (g3 : Nat) (r5 : Rw) : Act := ⟨#[.agg (ts_c0 t), .pointer (some ⟨g1, 0, none⟩), .pointer (some ⟨g3, 0, none⟩), .agg (ts_c0 t), .agg (ts_c2 t r5), .pointer (some ⟨g1, 1, none⟩), .int .i64 t.fu, .int .i64 (IntKind.wrap .i64 (t.fu - 1)), .pointer (some ⟨g1, 1, none⟩), .pointer (some ⟨g1, 0, none⟩), zz, zz, zz, zz], []⟩
def ts_a13 (t : Th) (g1 : Nat) (g3 : Nat) (r5 : Rw) : Act := ⟨#[.agg (ts_c0 t), .pointer (some ⟨g1, 0, none⟩), .pointer (some ⟨g3, 0, none⟩), .agg (ts_c0 t), .agg (ts_c2 t r5), .pointer (some ⟨g1, 1, none⟩), .int .i64 t.fu, .int .i64 (IntKind.wrap .i64 (t.fu - 1)), .pointer (some ⟨g1, 1, none⟩), .pointer (some ⟨g1, 0, none⟩), .int .i64 t.pc, zz, zz, zz], []⟩
def ts_a14 (t : Th) (g1 : Nat) (g3 : Nat) (r5 : Rw) : Act := ⟨#[.agg (ts_c0 t), .pointer (some ⟨g1, 0, none⟩), .pointer (some ⟨g3, 0, none⟩), .agg (ts_c0 t), .agg (ts_c2 t r5), .pointer (some ⟨g1, 1, none⟩), .int .i64 t.fu, .int .i64 (IntKind.wrap .i64 (t.fu - 1)), .pointer (some ⟨g1, 1, none⟩), .pointer (some ⟨g1, 0, none⟩), .int .i64 t.pc, .int .i64 (IntKind.wrap .i64 (t.pc + 1)), zz, zz], []⟩
def ts_a15 (t : Th) (g1 : Nat) (g3 : Nat) (r5 : Rw) : Act := ⟨#[.agg (ts_c0 t), .pointer (some ⟨g1, 0, none⟩), .pointer (some ⟨g3, 0, none⟩), .agg (ts_c0 t), .agg (ts_c2 t r5), .pointer (some ⟨g1, 1, none⟩), .int .i64 t.fu, .int .i64 (IntKind.wrap .i64 (t.fu - 1)), .pointer (some ⟨g1, 1, none⟩), .pointer (some ⟨g1, 0, none⟩), .int .i64 t.pc, .int .i64 (IntKind.wrap .i64 (t.pc + 1)), .pointer (some ⟨g1, 0, none⟩), zz], []⟩
def ts_c4 (t : Th) (r5 : Rw) : Array Value := #[.int .i64 (IntKind.wrap .i64 (t.pc + 1)), .int .i64 (IntKind.wrap .i64 (t.fu - 1)), .int .i64 t.st, .int .i64 (t.R 0), .int .i64 (t.R 1), .int .i64 (t.R 2), .int .i64 (t.R 3), .int .i64 (t.R 4), .int .i64 (t.R 5), .int .i64 (t.R 6), .int .i64 (t.R 7), .int .i64 (t.R 8), .int .i64 (t.R 9), .int .i64 (t.R 10), .int .i64 (t.R 11), .int .i64 t.kd, .int .i64 t.mi, .int .i64 t.mn, r5.s, r5.b, r5.n, .int .i64 t.old]
def ts_a17 (t : Th) (g1 : Nat) (g3 : Nat) (r5 : Rw) : Act := ⟨#[.agg (ts_c0 t), .pointer (some ⟨g1, 0, none⟩), .pointer (some ⟨g3, 0, none⟩), .agg (ts_c0 t), .agg (ts_c2 t r5), .pointer (some ⟨g1, 1, none⟩), .int .i64 t.fu, .int .i64 (IntKind.wrap .i64 (t.fu - 1)), .pointer (some ⟨g1, 1, none⟩), .pointer (some ⟨g1, 0, none⟩), .int .i64 t.pc, .int .i64 (IntKind.wrap .i64 (t.pc + 1)), .pointer (some ⟨g1, 0, none⟩), .agg (ts_c4 t r5)], []⟩
set_option maxHeartbeats 8000000 in
set_option maxRecDepth 100000 in
theorem th_Start {w : World} {t : Th} {xs : List Int} {bs : List S42} {ns : List Int} (h : t.reads w xs bs ns) (hl : xs.length ≤ 1000 ∧ bs.length ≤ 1000 ∧ ns.length ≤ 1000) : Calls Try.prog 15 #[.agg t.cells] w fun e w' => ∃ As cs Ab cb An cn, e = .returned (.agg (({ t with pc := IntKind.wrap .i64 (t.pc + 1), fu := IntKind.wrap .i64 (t.fu - 1) }).rows (.slice As xs.length cs) (.slice Ab bs.length cb) (.slice An ns.length cn)).cells) ∧ (({ t with pc := IntKind.wrap .i64 (t.pc + 1), fu := IntKind.wrap .i64 (t.fu - 1) }).rows (.slice As xs.length cs) (.slice Ab bs.length cb) (.slice An ns.length cn)).owns w' w.heap.size xs bs ns ∧ Below w.heap.size w w' := by
  refine calls_of_wp Try.func15 rfl ?_
  have hW := Ws.nil w
  refine wp_seq ?_
  refine wp_region_list ?_
  obtain ⟨g1, W2, hr, hW, hbb, hge⟩ := hW.mk1 (P := Try.prog) (s := Instr.box 32 (.agg (ts_c0 t))) (ts_c0 t) 32 (by kernel_rfl)
  refine se (a' := (ts_a1 t g1)) (.pointer (some ⟨g1, 0, none⟩)) (Eq.trans (b := (do pure (Next.value (← Instr.box 32 (.agg (ts_c0 t)))) : Sem Next).run Try.prog w) (by kernel_rfl) (st_val hr)) ?_
  obtain ⟨g3, W4, hr, hW, hbb, hge⟩ := hW.mk1 (P := Try.prog) (s := Instr.alloc 32 true (.tuple #[])) ts_c1 32 (by kernel_rfl)
  refine se (a' := (ts_a3 t g1 g3)) (.pointer (some ⟨g3, 0, none⟩)) (Eq.trans (b := (do pure (Next.value (← Instr.alloc 32 true (.tuple #[]))) : Sem Next).run Try.prog W2) (by kernel_rfl) (st_val hr)) ?_
  refine wpList_nil ?_
  refine wp_seq ?_
  refine wp_region_list ?_
  refine se (a' := (ts_a4 t g1 g3)) (.agg (ts_c0 t)) (evA hW 1 0 Try.underlying32) ?_
  have hK5_g3 : g3 < W4.heap.size := blk_lt (hW.blk 0 _ _ _ rfl).1
  have hK5_g1 : g1 < W4.heap.size := blk_lt (hW.blk 1 _ _ _ rfl).1
  have hK5_le : w.heap.size ≤ W4.heap.size := hW.below.size
  refine st_call (th_Clone (t := (⟨t.pc, t.fu, t.st, t.R, t.kd, t.mi, t.mn, t.sv, t.bv, t.nv, t.old⟩ : Th)) (xs := xs) (bs := bs) (ns := ns) ⟨h.s.below hW.below, h.b.below hW.below, h.n.below hW.below⟩ hl) (by kernel_rfl) (by kernel_rfl) ?_
  rintro _ W5 ⟨As5, cs5, Ab5, cb5, An5, cn5, rfl, hO5, hB⟩
  have hW := hW.step hB
  have hK5 := KeepUp.refl W4.heap.size W5
  obtain ⟨r5, e5⟩ : ∃ r : Rw, r = ⟨.slice As5 xs.length cs5, .slice Ab5 bs.length cb5, .slice An5 ns.length cn5⟩ := ⟨_, rfl⟩
  refine ⟨_, (ts_a6 t g1 g3 r5), rfl, by (try subst e5); kernel_rfl, ?_⟩
  obtain ⟨W6, hr, hW, hF⟩ := hW.storeN (P := Try.prog) (o := 0) (cs' := (ts_c2 t r5)) (L' := [(g3, 32, ts_c1), (g1, 32, (ts_c2 t r5))]) 1 rfl (ts_c2 t r5) (by (try subst e5); kernel_rfl) (Nat.le_of_ble_eq_true rfl) (by kernel_rfl) rfl 32 (by kernel_rfl)
  have hK5 := hK5.store hF (.inl hK5_g1)
  refine st_none (w' := W6) (a' := (ts_a6 t g1 g3 r5)) (by kernel_rfl) (Eq.trans (b := (do Instr.storeAt 32 (.pointer (some ⟨g1, 0, none⟩)) (.agg (ts_c2 t r5)); pure Next.skip : Sem Next).run Try.prog W5) (by kernel_rfl) (st_unit hr)) (by kernel_rfl) ?_
  refine wpList_nil ?_
  refine wp_seq ?_
  refine wp_region_list ?_
  refine sk (a' := (ts_a7 t g1 g3 r5)) (.pointer (some ⟨g1, 1, none⟩)) ?_
  refine se (a' := (ts_a8 t g1 g3 r5)) (.int .i64 t.fu) (ev1 hW 1 1 Try.underlying3) ?_
  refine sk (a' := (ts_a9 t g1 g3 r5)) (.int .i64 (IntKind.wrap .i64 (t.fu - 1))) ?_
  refine sk (a' := (ts_a10 t g1 g3 r5)) (.pointer (some ⟨g1, 1, none⟩)) ?_
  obtain ⟨W7, hr, hW, hF⟩ := hW.store1 (P := Try.prog) (o := 1) (cs' := (ts_c3 t r5)) (L' := [(g3, 32, ts_c1), (g1, 32, (ts_c3 t r5))]) 1 rfl (.int .i64 (IntKind.wrap .i64 (t.fu - 1))) rfl (Nat.le_of_ble_eq_true rfl) (by rfl) rfl 3 (by kernel_rfl)
  have hK5 := hK5.store hF (.inl hK5_g1)
  refine st_none (w' := W7) (a' := (ts_a10 t g1 g3 r5)) (by kernel_rfl) (Eq.trans (b := (do Instr.storeAt 3 (.pointer (some ⟨g1, 1, none⟩)) (.int .i64 (IntKind.wrap .i64 (t.fu - 1))); pure Next.skip : Sem Next).run Try.prog W6) (by kernel_rfl) (st_unit hr)) (by kernel_rfl) ?_
  refine wpList_nil ?_
  refine wp_seq ?_
  refine wp_region_list ?_
  refine sk (a' := (ts_a12 t g1 g3 r5)) (.pointer (some ⟨g1, 0, none⟩)) ?_
  refine se (a' := (ts_a13 t g1 g3 r5)) (.int .i64 t.pc) (ev1 hW 1 0 Try.underlying3) ?_
  refine sk (a' := (ts_a14 t g1 g3 r5)) (.int .i64 (IntKind.wrap .i64 (t.pc + 1))) ?_
  refine sk (a' := (ts_a15 t g1 g3 r5)) (.pointer (some ⟨g1, 0, none⟩)) ?_
  obtain ⟨W8, hr, hW, hF⟩ := hW.store1 (P := Try.prog) (o := 0) (cs' := (ts_c4 t r5)) (L' := [(g3, 32, ts_c1), (g1, 32, (ts_c4 t r5))]) 1 rfl (.int .i64 (IntKind.wrap .i64 (t.pc + 1))) rfl (Nat.le_of_ble_eq_true rfl) (by rfl) rfl 3 (by kernel_rfl)
  have hK5 := hK5.store hF (.inl hK5_g1)
  refine st_none (w' := W8) (a' := (ts_a15 t g1 g3 r5)) (by kernel_rfl) (Eq.trans (b := (do Instr.storeAt 3 (.pointer (some ⟨g1, 0, none⟩)) (.int .i64 (IntKind.wrap .i64 (t.pc + 1))); pure Next.skip : Sem Next).run Try.prog W7) (by kernel_rfl) (st_unit hr)) (by kernel_rfl) ?_
  refine wpList_nil ?_
  refine wp_seq ?_
  refine wp_region_list ?_
  refine se (a' := (ts_a17 t g1 g3 r5)) (.agg (ts_c4 t r5)) (evA hW 1 0 Try.underlying32) ?_
  obtain ⟨W9, hr, hW, hF⟩ := hW.storeN (P := Try.prog) (o := 0) (cs' := (ts_c4 t r5)) (L' := [(g3, 32, (ts_c4 t r5)), (g1, 32, (ts_c4 t r5))]) 0 rfl (ts_c4 t r5) (by (try subst e5); kernel_rfl) (Nat.le_of_ble_eq_true rfl) (by kernel_rfl) rfl 32 (by kernel_rfl)
  have hK5 := hK5.store hF (.inl hK5_g3)
  refine st_none (w' := W9) (a' := (ts_a17 t g1 g3 r5)) (by kernel_rfl) (Eq.trans (b := (do Instr.storeAt 32 (.pointer (some ⟨g3, 0, none⟩)) (.agg (ts_c4 t r5)); pure Next.skip : Sem Next).run Try.prog W8) (by kernel_rfl) (st_unit hr)) (by kernel_rfl) ?_
  refine wpList_nil ?_
  refine wp_ret ?_
  (try simp only [Exit.then, Exit.inBlock])
  change bodyPost Try.prog Try.f15 _ .ret _ _
  refine bodyPost_ret (results_single rfl (.cell g3 32 _ (0, 0) _ (by kernel_rfl) (hW.blk 0 _ _ _ rfl).1 Try.underlying32 rfl (by kernel_rfl) .nil)) rfl ?_
  subst e5
  exact ⟨As5, cs5, Ab5, cb5, An5, cn5, rfl, ⟨Kd.R_lower (hK5.R hO5.s) hK5_le, Kd.R_lower (hK5.R hO5.b) hK5_le, Kd.R_lower (hK5.R hO5.n) hK5_le⟩, hW.below⟩
def tto_c0 (t : Th) : Array Value := #[.int .i64 t.pc, .int .i64 t.fu, .int .i64 t.st, .int .i64 (t.R 0), .int .i64 (t.R 1), .int .i64 (t.R 2), .int .i64 (t.R 3), .int .i64 (t.R 4), .int .i64 (t.R 5), .int .i64 (t.R 6), .int .i64 (t.R 7), .int .i64 (t.R 8), .int .i64 (t.R 9), .int .i64 (t.R 10), .int .i64 (t.R 11), .int .i64 t.kd, .int .i64 t.mi, .int .i64 t.mn, t.sv, t.bv, t.nv, .int .i64 t.old]
def tto_a1 (t : Th) (r : Int) (n : Int) (c : Int) (g : Int) (g1 : Nat) : Act := ⟨#[.agg (tto_c0 t), .int .i64 r, .agg #[.int .i64 n, .int .i64 c, .int .i64 g], .pointer (some ⟨g1, 0, none⟩), zz, zz, zz, zz, zz, zz, zz, zz, zz, zz, zz, zz], []⟩
def tto_a2 (t : Th) (r : Int) (n : Int) (c : Int) (g : Int) (g1 : Nat) (g3 : Nat) : Act := ⟨#[.agg (tto_c0 t), .int .i64 r, .agg #[.int .i64 n, .int .i64 c, .int .i64 g], .pointer (some ⟨g1, 0, none⟩), zz, .pointer (some ⟨g3, 0, none⟩), zz, zz, zz, zz, zz, zz, zz, zz, zz, zz], []⟩
def tto_c1 : Array Value := #[.int .i64 0, .int .i64 0, .int .i64 0, .int .i64 0, .int .i64 0, .int .i64 0, .int .i64 0, .int .i64 0, .int .i64 0, .int .i64 0, .int .i64 0, .int .i64 0, .int .i64 0, .int .i64 0, .int .i64 0, .int .i64 0, .int .i64 0, .int .i64 0, .slice none 0 0, .slice none 0 0, .slice none 0 0, .int .i64 0]
def tto_a4 (t : Th) (r : Int) (n : Int) (c : Int) (g : Int) (g1 : Nat) (g3 : Nat) (g5 : Nat) : Act := ⟨#[.agg (tto_c0 t), .int .i64 r, .agg #[.int .i64 n, .int .i64 c, .int .i64 g], .pointer (some ⟨g1, 0, none⟩), zz, .pointer (some ⟨g3, 0, none⟩), .pointer (some ⟨g5, 0, none⟩), zz, zz, zz, zz, zz, zz, zz, zz, zz], []⟩
def tto_a5 (t : Th) (r : Int) (n : Int) (c : Int) (g : Int) (g1 : Nat) (g3 : Nat) (g5 : Nat) : Act := ⟨#[.agg (tto_c0 t), .int .i64 r, .agg #[.int .i64 n, .int .i64 c, .int .i64 g], .pointer (some ⟨g1, 0, none⟩), zz, .pointer (some ⟨g3, 0, none⟩), .pointer (some ⟨g5, 0, none⟩), .agg (tto_c0 t), zz, zz, zz, zz, zz, zz, zz, zz], []⟩
def tto_c2 (t : Th) (r7 : Rw) : Array Value := #[.int .i64 t.pc, .int .i64 t.fu, .int .i64 t.st, .int .i64 (t.R 0), .int .i64 (t.R 1), .int .i64 (t.R 2), .int .i64 (t.R 3), .int .i64 (t.R 4), .int .i64 (t.R 5), .int .i64 (t.R 6), .int .i64 (t.R 7), .int .i64 (t.R 8), .int .i64 (t.R 9), .int .i64 (t.R 10), .int .i64 (t.R 11), .int .i64 t.kd, .int .i64 t.mi, .int .i64 t.mn, r7.s, r7.b, r7.n, .int .i64 t.old]
def tto_a7 (t : Th) (r : Int) (n : Int) (c : Int) (g : Int) (g1 : Nat) (g3 : Nat) (g5 : Nat) (r7 : Rw) : Act := ⟨#[.agg (tto_c0 t), .int .i64 r, .agg #[.int .i64 n, .int .i64 c, .int .i64 g], .pointer (some ⟨g1, 0, none⟩), zz, .pointer (some ⟨g3, 0, none⟩), .pointer (some ⟨g5, 0, none⟩), .agg (tto_c0 t), .agg (tto_c2 t r7), zz, zz, zz, zz, zz, zz, zz], []⟩
def tto_a8 (t : Th) (r : Int) (n : Int) (c : Int) (g : Int) (g1 : Nat) (g3 : Nat) (g5 : Nat) (r7 : Rw) : Act := ⟨#[.agg (tto_c0 t), .int .i64 r, .agg #[.int .i64 n, .int .i64 c, .int .i64 g], .pointer (some ⟨g1, 0, none⟩), zz, .pointer (some ⟨g3, 0, none⟩), .pointer (some ⟨g5, 0, none⟩), .agg (tto_c0 t), .agg (tto_c2 t r7), .int .i64 r, zz, zz, zz, zz, zz, zz], []⟩
def tto_a9 (t : Th) (r : Int) (n : Int) (c : Int) (g : Int) (g1 : Nat) (g3 : Nat) (g5 : Nat) (r7 : Rw) : Act := ⟨#[.agg (tto_c0 t), .int .i64 r, .agg #[.int .i64 n, .int .i64 c, .int .i64 g], .pointer (some ⟨g1, 0, none⟩), zz, .pointer (some ⟨g3, 0, none⟩), .pointer (some ⟨g5, 0, none⟩), .agg (tto_c0 t), .agg (tto_c2 t r7), .int .i64 r, .bool false, zz, zz, zz, zz, zz], []⟩
def tto_a10 (t : Th) (r : Int) (n : Int) (c : Int) (g : Int) (g1 : Nat) (g3 : Nat) (g5 : Nat) (r7 : Rw) : Act := ⟨#[.agg (tto_c0 t), .int .i64 r, .agg #[.int .i64 n, .int .i64 c, .int .i64 g], .pointer (some ⟨g1, 0, none⟩), zz, .pointer (some ⟨g3, 0, none⟩), .pointer (some ⟨g5, 0, none⟩), .agg (tto_c0 t), .agg (tto_c2 t r7), .int .i64 r, .bool false, zz, zz, zz, zz, .agg (tto_c2 t r7)], []⟩
def tt0_c0 (t : Th) : Array Value := #[.int .i64 t.pc, .int .i64 t.fu, .int .i64 t.st, .int .i64 (t.R 0), .int .i64 (t.R 1), .int .i64 (t.R 2), .int .i64 (t.R 3), .int .i64 (t.R 4), .int .i64 (t.R 5), .int .i64 (t.R 6), .int .i64 (t.R 7), .int .i64 (t.R 8), .int .i64 (t.R 9), .int .i64 (t.R 10), .int .i64 (t.R 11), .int .i64 t.kd, .int .i64 t.mi, .int .i64 t.mn, t.sv, t.bv, t.nv, .int .i64 t.old]
def tt0_a1 (t : Th) (n : Int) (c : Int) (g : Int) (g1 : Nat) : Act := ⟨#[.agg (tt0_c0 t), .int .i64 0, .agg #[.int .i64 n, .int .i64 c, .int .i64 g], .pointer (some ⟨g1, 0, none⟩), zz, zz, zz, zz, zz, zz, zz, zz, zz, zz, zz, zz], []⟩
def tt0_a2 (t : Th) (n : Int) (c : Int) (g : Int) (g1 : Nat) (g3 : Nat) : Act := ⟨#[.agg (tt0_c0 t), .int .i64 0, .agg #[.int .i64 n, .int .i64 c, .int .i64 g], .pointer (some ⟨g1, 0, none⟩), zz, .pointer (some ⟨g3, 0, none⟩), zz, zz, zz, zz, zz, zz, zz, zz, zz, zz], []⟩
def tt0_c1 : Array Value := #[.int .i64 0, .int .i64 0, .int .i64 0, .int .i64 0, .int .i64 0, .int .i64 0, .int .i64 0, .int .i64 0, .int .i64 0, .int .i64 0, .int .i64 0, .int .i64 0, .int .i64 0, .int .i64 0, .int .i64 0, .int .i64 0, .int .i64 0, .int .i64 0, .slice none 0 0, .slice none 0 0, .slice none 0 0, .int .i64 0]
def tt0_a4 (t : Th) (n : Int) (c : Int) (g : Int) (g1 : Nat) (g3 : Nat) (g5 : Nat) : Act := ⟨#[.agg (tt0_c0 t), .int .i64 0, .agg #[.int .i64 n, .int .i64 c, .int .i64 g], .pointer (some ⟨g1, 0, none⟩), zz, .pointer (some ⟨g3, 0, none⟩), .pointer (some ⟨g5, 0, none⟩), zz, zz, zz, zz, zz, zz, zz, zz, zz], []⟩
def tt0_a5 (t : Th) (n : Int) (c : Int) (g : Int) (g1 : Nat) (g3 : Nat) (g5 : Nat) : Act := ⟨#[.agg (tt0_c0 t), .int .i64 0, .agg #[.int .i64 n, .int .i64 c, .int .i64 g], .pointer (some ⟨g1, 0, none⟩), zz, .pointer (some ⟨g3, 0, none⟩), .pointer (some ⟨g5, 0, none⟩), .agg (tt0_c0 t), zz, zz, zz, zz, zz, zz, zz, zz], []⟩
def tt0_c2 (t : Th) (r7 : Rw) : Array Value := #[.int .i64 t.pc, .int .i64 t.fu, .int .i64 t.st, .int .i64 (t.R 0), .int .i64 (t.R 1), .int .i64 (t.R 2), .int .i64 (t.R 3), .int .i64 (t.R 4), .int .i64 (t.R 5), .int .i64 (t.R 6), .int .i64 (t.R 7), .int .i64 (t.R 8), .int .i64 (t.R 9), .int .i64 (t.R 10), .int .i64 (t.R 11), .int .i64 t.kd, .int .i64 t.mi, .int .i64 t.mn, r7.s, r7.b, r7.n, .int .i64 t.old]
def tt0_a7 (t : Th) (n : Int) (c : Int) (g : Int) (g1 : Nat) (g3 : Nat) (g5 : Nat) (r7 : Rw) : Act := ⟨#[.agg (tt0_c0 t), .int .i64 0, .agg #[.int .i64 n, .int .i64 c, .int .i64 g], .pointer (some ⟨g1, 0, none⟩), zz, .pointer (some ⟨g3, 0, none⟩), .pointer (some ⟨g5, 0, none⟩), .agg (tt0_c0 t), .agg (tt0_c2 t r7), zz, zz, zz, zz, zz, zz, zz], []⟩
def tt0_a8 (t : Th) (n : Int) (c : Int) (g : Int) (g1 : Nat) (g3 : Nat) (g5 : Nat) (r7 : Rw) : Act := ⟨#[.agg (tt0_c0 t), .int .i64 0, .agg #[.int .i64 n, .int .i64 c, .int .i64 g], .pointer (some ⟨g1, 0, none⟩), zz, .pointer (some ⟨g3, 0, none⟩), .pointer (some ⟨g5, 0, none⟩), .agg (tt0_c0 t), .agg (tt0_c2 t r7), .int .i64 0, zz, zz, zz, zz, zz, zz], []⟩
def tt0_a9 (t : Th) (n : Int) (c : Int) (g : Int) (g1 : Nat) (g3 : Nat) (g5 : Nat) (r7 : Rw) : Act := ⟨#[.agg (tt0_c0 t), .int .i64 0, .agg #[.int .i64 n, .int .i64 c, .int .i64 g], .pointer (some ⟨g1, 0, none⟩), zz, .pointer (some ⟨g3, 0, none⟩), .pointer (some ⟨g5, 0, none⟩), .agg (tt0_c0 t), .agg (tt0_c2 t r7), .int .i64 0, .bool true, zz, zz, zz, zz, zz], []⟩
def tt0_a10 (t : Th) (n : Int) (c : Int) (g : Int) (g1 : Nat) (g3 : Nat) (g5 : Nat) (r7 : Rw) : Act := ⟨#[.agg (tt0_c0 t), .int .i64 0, .agg #[.int .i64 n, .int .i64 c, .int .i64 g], .pointer (some ⟨g1, 0, none⟩), zz, .pointer (some ⟨g3, 0, none⟩), .pointer (some ⟨g5, 0, none⟩), .agg (tt0_c0 t), .agg (tt0_c2 t r7), .int .i64 0, .bool true, .int .i64 0, zz, zz, zz, zz], []⟩
def tt0_a11 (t : Th) (n : Int) (c : Int) (g : Int) (g1 : Nat) (g3 : Nat) (g5 : Nat) (r7 : Rw) : Act := ⟨#[.agg (tt0_c0 t), .int .i64 0, .agg #[.int .i64 n, .int .i64 c, .int .i64 g], .pointer (some ⟨g1, 0, none⟩), zz, .pointer (some ⟨g3, 0, none⟩), .pointer (some ⟨g5, 0, none⟩), .agg (tt0_c0 t), .agg (tt0_c2 t r7), .int .i64 0, .bool true, .int .i64 0, .agg #[.int .i64 n, .int .i64 c, .int .i64 g], zz, zz, zz], []⟩
def tt0_a12 (t : Th) (n : Int) (c : Int) (g : Int) (g1 : Nat) (g3 : Nat) (g5 : Nat) (r7 : Rw) : Act := ⟨#[.agg (tt0_c0 t), .int .i64 0, .agg #[.int .i64 n, .int .i64 c, .int .i64 g], .pointer (some ⟨g1, 0, none⟩), zz, .pointer (some ⟨g3, 0, none⟩), .pointer (some ⟨g5, 0, none⟩), .agg (tt0_c0 t), .agg (tt0_c2 t r7), .int .i64 0, .bool true, .int .i64 0, .agg #[.int .i64 n, .int .i64 c, .int .i64 g], .pointer (some ⟨g1, 3, none⟩), zz, zz], []⟩
def tt0_a13 (t : Th) (n : Int) (c : Int) (g : Int) (g1 : Nat) (g3 : Nat) (g5 : Nat) (r7 : Rw) : Act := ⟨#[.agg (tt0_c0 t), .int .i64 0, .agg #[.int .i64 n, .int .i64 c, .int .i64 g], .pointer (some ⟨g1, 0, none⟩), zz, .pointer (some ⟨g3, 0, none⟩), .pointer (some ⟨g5, 0, none⟩), .agg (tt0_c0 t), .agg (tt0_c2 t r7), .int .i64 0, .bool true, .int .i64 0, .agg #[.int .i64 n, .int .i64 c, .int .i64 g], .pointer (some ⟨g1, 3, none⟩), .pointer (some ⟨g1, 3, none⟩), zz], []⟩
def tt0_c3 (t : Th) (n : Int) (c : Int) (g : Int) (r7 : Rw) : Array Value := #[.int .i64 t.pc, .int .i64 t.fu, .int .i64 t.st, .int .i64 n, .int .i64 c, .int .i64 g, .int .i64 (t.R 3), .int .i64 (t.R 4), .int .i64 (t.R 5), .int .i64 (t.R 6), .int .i64 (t.R 7), .int .i64 (t.R 8), .int .i64 (t.R 9), .int .i64 (t.R 10), .int .i64 (t.R 11), .int .i64 t.kd, .int .i64 t.mi, .int .i64 t.mn, r7.s, r7.b, r7.n, .int .i64 t.old]
def tt0_a15 (t : Th) (n : Int) (c : Int) (g : Int) (g1 : Nat) (g3 : Nat) (g5 : Nat) (r7 : Rw) : Act := ⟨#[.agg (tt0_c0 t), .int .i64 0, .agg #[.int .i64 n, .int .i64 c, .int .i64 g], .pointer (some ⟨g1, 0, none⟩), zz, .pointer (some ⟨g3, 0, none⟩), .pointer (some ⟨g5, 0, none⟩), .agg (tt0_c0 t), .agg (tt0_c2 t r7), .int .i64 0, .bool true, .int .i64 0, .agg #[.int .i64 n, .int .i64 c, .int .i64 g], .pointer (some ⟨g1, 3, none⟩), .pointer (some ⟨g1, 3, none⟩), .agg (tt0_c3 t n c g r7)], []⟩
def tt1_c0 (t : Th) : Array Value := #[.int .i64 t.pc, .int .i64 t.fu, .int .i64 t.st, .int .i64 (t.R 0), .int .i64 (t.R 1), .int .i64 (t.R 2), .int .i64 (t.R 3), .int .i64 (t.R 4), .int .i64 (t.R 5), .int .i64 (t.R 6), .int .i64 (t.R 7), .int .i64 (t.R 8), .int .i64 (t.R 9), .int .i64 (t.R 10), .int .i64 (t.R 11), .int .i64 t.kd, .int .i64 t.mi, .int .i64 t.mn, t.sv, t.bv, t.nv, .int .i64 t.old]
def tt1_a1 (t : Th) (n : Int) (c : Int) (g : Int) (g1 : Nat) : Act := ⟨#[.agg (tt1_c0 t), .int .i64 1, .agg #[.int .i64 n, .int .i64 c, .int .i64 g], .pointer (some ⟨g1, 0, none⟩), zz, zz, zz, zz, zz, zz, zz, zz, zz, zz, zz, zz], []⟩
def tt1_a2 (t : Th) (n : Int) (c : Int) (g : Int) (g1 : Nat) (g3 : Nat) : Act := ⟨#[.agg (tt1_c0 t), .int .i64 1, .agg #[.int .i64 n, .int .i64 c, .int .i64 g], .pointer (some ⟨g1, 0, none⟩), zz, .pointer (some ⟨g3, 0, none⟩), zz, zz, zz, zz, zz, zz, zz, zz, zz, zz], []⟩
def tt1_c1 : Array Value := #[.int .i64 0, .int .i64 0, .int .i64 0, .int .i64 0, .int .i64 0, .int .i64 0, .int .i64 0, .int .i64 0, .int .i64 0, .int .i64 0, .int .i64 0, .int .i64 0, .int .i64 0, .int .i64 0, .int .i64 0, .int .i64 0, .int .i64 0, .int .i64 0, .slice none 0 0, .slice none 0 0, .slice none 0 0, .int .i64 0]
def tt1_a4 (t : Th) (n : Int) (c : Int) (g : Int) (g1 : Nat) (g3 : Nat) (g5 : Nat) : Act := ⟨#[.agg (tt1_c0 t), .int .i64 1, .agg #[.int .i64 n, .int .i64 c, .int .i64 g], .pointer (some ⟨g1, 0, none⟩), zz, .pointer (some ⟨g3, 0, none⟩), .pointer (some ⟨g5, 0, none⟩), zz, zz, zz, zz, zz, zz, zz, zz, zz], []⟩
def tt1_a5 (t : Th) (n : Int) (c : Int) (g : Int) (g1 : Nat) (g3 : Nat) (g5 : Nat) : Act := ⟨#[.agg (tt1_c0 t), .int .i64 1, .agg #[.int .i64 n, .int .i64 c, .int .i64 g], .pointer (some ⟨g1, 0, none⟩), zz, .pointer (some ⟨g3, 0, none⟩), .pointer (some ⟨g5, 0, none⟩), .agg (tt1_c0 t), zz, zz, zz, zz, zz, zz, zz, zz], []⟩
def tt1_c2 (t : Th) (r7 : Rw) : Array Value := #[.int .i64 t.pc, .int .i64 t.fu, .int .i64 t.st, .int .i64 (t.R 0), .int .i64 (t.R 1), .int .i64 (t.R 2), .int .i64 (t.R 3), .int .i64 (t.R 4), .int .i64 (t.R 5), .int .i64 (t.R 6), .int .i64 (t.R 7), .int .i64 (t.R 8), .int .i64 (t.R 9), .int .i64 (t.R 10), .int .i64 (t.R 11), .int .i64 t.kd, .int .i64 t.mi, .int .i64 t.mn, r7.s, r7.b, r7.n, .int .i64 t.old]
def tt1_a7 (t : Th) (n : Int) (c : Int) (g : Int) (g1 : Nat) (g3 : Nat) (g5 : Nat) (r7 : Rw) : Act := ⟨#[.agg (tt1_c0 t), .int .i64 1, .agg #[.int .i64 n, .int .i64 c, .int .i64 g], .pointer (some ⟨g1, 0, none⟩), zz, .pointer (some ⟨g3, 0, none⟩), .pointer (some ⟨g5, 0, none⟩), .agg (tt1_c0 t), .agg (tt1_c2 t r7), zz, zz, zz, zz, zz, zz, zz], []⟩
def tt1_a8 (t : Th) (n : Int) (c : Int) (g : Int) (g1 : Nat) (g3 : Nat) (g5 : Nat) (r7 : Rw) : Act := ⟨#[.agg (tt1_c0 t), .int .i64 1, .agg #[.int .i64 n, .int .i64 c, .int .i64 g], .pointer (some ⟨g1, 0, none⟩), zz, .pointer (some ⟨g3, 0, none⟩), .pointer (some ⟨g5, 0, none⟩), .agg (tt1_c0 t), .agg (tt1_c2 t r7), .int .i64 1, zz, zz, zz, zz, zz, zz], []⟩
def tt1_a9 (t : Th) (n : Int) (c : Int) (g : Int) (g1 : Nat) (g3 : Nat) (g5 : Nat) (r7 : Rw) : Act := ⟨#[.agg (tt1_c0 t), .int .i64 1, .agg #[.int .i64 n, .int .i64 c, .int .i64 g], .pointer (some ⟨g1, 0, none⟩), zz, .pointer (some ⟨g3, 0, none⟩), .pointer (some ⟨g5, 0, none⟩), .agg (tt1_c0 t), .agg (tt1_c2 t r7), .int .i64 1, .bool true, zz, zz, zz, zz, zz], []⟩
def tt1_a10 (t : Th) (n : Int) (c : Int) (g : Int) (g1 : Nat) (g3 : Nat) (g5 : Nat) (r7 : Rw) : Act := ⟨#[.agg (tt1_c0 t), .int .i64 1, .agg #[.int .i64 n, .int .i64 c, .int .i64 g], .pointer (some ⟨g1, 0, none⟩), zz, .pointer (some ⟨g3, 0, none⟩), .pointer (some ⟨g5, 0, none⟩), .agg (tt1_c0 t), .agg (tt1_c2 t r7), .int .i64 1, .bool true, .int .i64 1, zz, zz, zz, zz], []⟩
def tt1_a11 (t : Th) (n : Int) (c : Int) (g : Int) (g1 : Nat) (g3 : Nat) (g5 : Nat) (r7 : Rw) : Act := ⟨#[.agg (tt1_c0 t), .int .i64 1, .agg #[.int .i64 n, .int .i64 c, .int .i64 g], .pointer (some ⟨g1, 0, none⟩), zz, .pointer (some ⟨g3, 0, none⟩), .pointer (some ⟨g5, 0, none⟩), .agg (tt1_c0 t), .agg (tt1_c2 t r7), .int .i64 1, .bool true, .int .i64 1, .agg #[.int .i64 n, .int .i64 c, .int .i64 g], zz, zz, zz], []⟩
def tt1_a12 (t : Th) (n : Int) (c : Int) (g : Int) (g1 : Nat) (g3 : Nat) (g5 : Nat) (r7 : Rw) : Act := ⟨#[.agg (tt1_c0 t), .int .i64 1, .agg #[.int .i64 n, .int .i64 c, .int .i64 g], .pointer (some ⟨g1, 0, none⟩), zz, .pointer (some ⟨g3, 0, none⟩), .pointer (some ⟨g5, 0, none⟩), .agg (tt1_c0 t), .agg (tt1_c2 t r7), .int .i64 1, .bool true, .int .i64 1, .agg #[.int .i64 n, .int .i64 c, .int .i64 g], .pointer (some ⟨g1, 3, none⟩), zz, zz], []⟩
def tt1_a13 (t : Th) (n : Int) (c : Int) (g : Int) (g1 : Nat) (g3 : Nat) (g5 : Nat) (r7 : Rw) : Act := ⟨#[.agg (tt1_c0 t), .int .i64 1, .agg #[.int .i64 n, .int .i64 c, .int .i64 g], .pointer (some ⟨g1, 0, none⟩), zz, .pointer (some ⟨g3, 0, none⟩), .pointer (some ⟨g5, 0, none⟩), .agg (tt1_c0 t), .agg (tt1_c2 t r7), .int .i64 1, .bool true, .int .i64 1, .agg #[.int .i64 n, .int .i64 c, .int .i64 g], .pointer (some ⟨g1, 3, none⟩), .pointer (some ⟨g1, 6, none⟩), zz], []⟩
def tt1_c3 (t : Th) (n : Int) (c : Int) (g : Int) (r7 : Rw) : Array Value := #[.int .i64 t.pc, .int .i64 t.fu, .int .i64 t.st, .int .i64 (t.R 0), .int .i64 (t.R 1), .int .i64 (t.R 2), .int .i64 n, .int .i64 c, .int .i64 g, .int .i64 (t.R 6), .int .i64 (t.R 7), .int .i64 (t.R 8), .int .i64 (t.R 9), .int .i64 (t.R 10), .int .i64 (t.R 11), .int .i64 t.kd, .int .i64 t.mi, .int .i64 t.mn, r7.s, r7.b, r7.n, .int .i64 t.old]
def tt1_a15 (t : Th) (n : Int) (c : Int) (g : Int) (g1 : Nat) (g3 : Nat) (g5 : Nat) (r7 : Rw) : Act := ⟨#[.agg (tt1_c0 t), .int .i64 1, .agg #[.int .i64 n, .int .i64 c, .int .i64 g], .pointer (some ⟨g1, 0, none⟩), zz, .pointer (some ⟨g3, 0, none⟩), .pointer (some ⟨g5, 0, none⟩), .agg (tt1_c0 t), .agg (tt1_c2 t r7), .int .i64 1, .bool true, .int .i64 1, .agg #[.int .i64 n, .int .i64 c, .int .i64 g], .pointer (some ⟨g1, 3, none⟩), .pointer (some ⟨g1, 6, none⟩), .agg (tt1_c3 t n c g r7)], []⟩
def tt2_c0 (t : Th) : Array Value := #[.int .i64 t.pc, .int .i64 t.fu, .int .i64 t.st, .int .i64 (t.R 0), .int .i64 (t.R 1), .int .i64 (t.R 2), .int .i64 (t.R 3), .int .i64 (t.R 4), .int .i64 (t.R 5), .int .i64 (t.R 6), .int .i64 (t.R 7), .int .i64 (t.R 8), .int .i64 (t.R 9), .int .i64 (t.R 10), .int .i64 (t.R 11), .int .i64 t.kd, .int .i64 t.mi, .int .i64 t.mn, t.sv, t.bv, t.nv, .int .i64 t.old]
def tt2_a1 (t : Th) (n : Int) (c : Int) (g : Int) (g1 : Nat) : Act := ⟨#[.agg (tt2_c0 t), .int .i64 2, .agg #[.int .i64 n, .int .i64 c, .int .i64 g], .pointer (some ⟨g1, 0, none⟩), zz, zz, zz, zz, zz, zz, zz, zz, zz, zz, zz, zz], []⟩
def tt2_a2 (t : Th) (n : Int) (c : Int) (g : Int) (g1 : Nat) (g3 : Nat) : Act := ⟨#[.agg (tt2_c0 t), .int .i64 2, .agg #[.int .i64 n, .int .i64 c, .int .i64 g], .pointer (some ⟨g1, 0, none⟩), zz, .pointer (some ⟨g3, 0, none⟩), zz, zz, zz, zz, zz, zz, zz, zz, zz, zz], []⟩
def tt2_c1 : Array Value := #[.int .i64 0, .int .i64 0, .int .i64 0, .int .i64 0, .int .i64 0, .int .i64 0, .int .i64 0, .int .i64 0, .int .i64 0, .int .i64 0, .int .i64 0, .int .i64 0, .int .i64 0, .int .i64 0, .int .i64 0, .int .i64 0, .int .i64 0, .int .i64 0, .slice none 0 0, .slice none 0 0, .slice none 0 0, .int .i64 0]
def tt2_a4 (t : Th) (n : Int) (c : Int) (g : Int) (g1 : Nat) (g3 : Nat) (g5 : Nat) : Act := ⟨#[.agg (tt2_c0 t), .int .i64 2, .agg #[.int .i64 n, .int .i64 c, .int .i64 g], .pointer (some ⟨g1, 0, none⟩), zz, .pointer (some ⟨g3, 0, none⟩), .pointer (some ⟨g5, 0, none⟩), zz, zz, zz, zz, zz, zz, zz, zz, zz], []⟩
def tt2_a5 (t : Th) (n : Int) (c : Int) (g : Int) (g1 : Nat) (g3 : Nat) (g5 : Nat) : Act := ⟨#[.agg (tt2_c0 t), .int .i64 2, .agg #[.int .i64 n, .int .i64 c, .int .i64 g], .pointer (some ⟨g1, 0, none⟩), zz, .pointer (some ⟨g3, 0, none⟩), .pointer (some ⟨g5, 0, none⟩), .agg (tt2_c0 t), zz, zz, zz, zz, zz, zz, zz, zz], []⟩
def tt2_c2 (t : Th) (r7 : Rw) : Array Value := #[.int .i64 t.pc, .int .i64 t.fu, .int .i64 t.st, .int .i64 (t.R 0), .int .i64 (t.R 1), .int .i64 (t.R 2), .int .i64 (t.R 3), .int .i64 (t.R 4), .int .i64 (t.R 5), .int .i64 (t.R 6), .int .i64 (t.R 7), .int .i64 (t.R 8), .int .i64 (t.R 9), .int .i64 (t.R 10), .int .i64 (t.R 11), .int .i64 t.kd, .int .i64 t.mi, .int .i64 t.mn, r7.s, r7.b, r7.n, .int .i64 t.old]
def tt2_a7 (t : Th) (n : Int) (c : Int) (g : Int) (g1 : Nat) (g3 : Nat) (g5 : Nat) (r7 : Rw) : Act := ⟨#[.agg (tt2_c0 t), .int .i64 2, .agg #[.int .i64 n, .int .i64 c, .int .i64 g], .pointer (some ⟨g1, 0, none⟩), zz, .pointer (some ⟨g3, 0, none⟩), .pointer (some ⟨g5, 0, none⟩), .agg (tt2_c0 t), .agg (tt2_c2 t r7), zz, zz, zz, zz, zz, zz, zz], []⟩
def tt2_a8 (t : Th) (n : Int) (c : Int) (g : Int) (g1 : Nat) (g3 : Nat) (g5 : Nat) (r7 : Rw) : Act := ⟨#[.agg (tt2_c0 t), .int .i64 2, .agg #[.int .i64 n, .int .i64 c, .int .i64 g], .pointer (some ⟨g1, 0, none⟩), zz, .pointer (some ⟨g3, 0, none⟩), .pointer (some ⟨g5, 0, none⟩), .agg (tt2_c0 t), .agg (tt2_c2 t r7), .int .i64 2, zz, zz, zz, zz, zz, zz], []⟩
def tt2_a9 (t : Th) (n : Int) (c : Int) (g : Int) (g1 : Nat) (g3 : Nat) (g5 : Nat) (r7 : Rw) : Act := ⟨#[.agg (tt2_c0 t), .int .i64 2, .agg #[.int .i64 n, .int .i64 c, .int .i64 g], .pointer (some ⟨g1, 0, none⟩), zz, .pointer (some ⟨g3, 0, none⟩), .pointer (some ⟨g5, 0, none⟩), .agg (tt2_c0 t), .agg (tt2_c2 t r7), .int .i64 2, .bool true, zz, zz, zz, zz, zz], []⟩
def tt2_a10 (t : Th) (n : Int) (c : Int) (g : Int) (g1 : Nat) (g3 : Nat) (g5 : Nat) (r7 : Rw) : Act := ⟨#[.agg (tt2_c0 t), .int .i64 2, .agg #[.int .i64 n, .int .i64 c, .int .i64 g], .pointer (some ⟨g1, 0, none⟩), zz, .pointer (some ⟨g3, 0, none⟩), .pointer (some ⟨g5, 0, none⟩), .agg (tt2_c0 t), .agg (tt2_c2 t r7), .int .i64 2, .bool true, .int .i64 2, zz, zz, zz, zz], []⟩
def tt2_a11 (t : Th) (n : Int) (c : Int) (g : Int) (g1 : Nat) (g3 : Nat) (g5 : Nat) (r7 : Rw) : Act := ⟨#[.agg (tt2_c0 t), .int .i64 2, .agg #[.int .i64 n, .int .i64 c, .int .i64 g], .pointer (some ⟨g1, 0, none⟩), zz, .pointer (some ⟨g3, 0, none⟩), .pointer (some ⟨g5, 0, none⟩), .agg (tt2_c0 t), .agg (tt2_c2 t r7), .int .i64 2, .bool true, .int .i64 2, .agg #[.int .i64 n, .int .i64 c, .int .i64 g], zz, zz, zz], []⟩
def tt2_a12 (t : Th) (n : Int) (c : Int) (g : Int) (g1 : Nat) (g3 : Nat) (g5 : Nat) (r7 : Rw) : Act := ⟨#[.agg (tt2_c0 t), .int .i64 2, .agg #[.int .i64 n, .int .i64 c, .int .i64 g], .pointer (some ⟨g1, 0, none⟩), zz, .pointer (some ⟨g3, 0, none⟩), .pointer (some ⟨g5, 0, none⟩), .agg (tt2_c0 t), .agg (tt2_c2 t r7), .int .i64 2, .bool true, .int .i64 2, .agg #[.int .i64 n, .int .i64 c, .int .i64 g], .pointer (some ⟨g1, 3, none⟩), zz, zz], []⟩
def tt2_a13 (t : Th) (n : Int) (c : Int) (g : Int) (g1 : Nat) (g3 : Nat) (g5 : Nat) (r7 : Rw) : Act := ⟨#[.agg (tt2_c0 t), .int .i64 2, .agg #[.int .i64 n, .int .i64 c, .int .i64 g], .pointer (some ⟨g1, 0, none⟩), zz, .pointer (some ⟨g3, 0, none⟩), .pointer (some ⟨g5, 0, none⟩), .agg (tt2_c0 t), .agg (tt2_c2 t r7), .int .i64 2, .bool true, .int .i64 2, .agg #[.int .i64 n, .int .i64 c, .int .i64 g], .pointer (some ⟨g1, 3, none⟩), .pointer (some ⟨g1, 9, none⟩), zz], []⟩
def tt2_c3 (t : Th) (n : Int) (c : Int) (g : Int) (r7 : Rw) : Array Value := #[.int .i64 t.pc, .int .i64 t.fu, .int .i64 t.st, .int .i64 (t.R 0), .int .i64 (t.R 1), .int .i64 (t.R 2), .int .i64 (t.R 3), .int .i64 (t.R 4), .int .i64 (t.R 5), .int .i64 n, .int .i64 c, .int .i64 g, .int .i64 (t.R 9), .int .i64 (t.R 10), .int .i64 (t.R 11), .int .i64 t.kd, .int .i64 t.mi, .int .i64 t.mn, r7.s, r7.b, r7.n, .int .i64 t.old]
def tt2_a15 (t : Th) (n : Int) (c : Int) (g : Int) (g1 : Nat) (g3 : Nat) (g5 : Nat) (r7 : Rw) : Act := ⟨#[.agg (tt2_c0 t), .int .i64 2, .agg #[.int .i64 n, .int .i64 c, .int .i64 g], .pointer (some ⟨g1, 0, none⟩), zz, .pointer (some ⟨g3, 0, none⟩), .pointer (some ⟨g5, 0, none⟩), .agg (tt2_c0 t), .agg (tt2_c2 t r7), .int .i64 2, .bool true, .int .i64 2, .agg #[.int .i64 n, .int .i64 c, .int .i64 g], .pointer (some ⟨g1, 3, none⟩), .pointer (some ⟨g1, 9, none⟩), .agg (tt2_c3 t n c g r7)], []⟩
def tt3_c0 (t : Th) : Array Value := #[.int .i64 t.pc, .int .i64 t.fu, .int .i64 t.st, .int .i64 (t.R 0), .int .i64 (t.R 1), .int .i64 (t.R 2), .int .i64 (t.R 3), .int .i64 (t.R 4), .int .i64 (t.R 5), .int .i64 (t.R 6), .int .i64 (t.R 7), .int .i64 (t.R 8), .int .i64 (t.R 9), .int .i64 (t.R 10), .int .i64 (t.R 11), .int .i64 t.kd, .int .i64 t.mi, .int .i64 t.mn, t.sv, t.bv, t.nv, .int .i64 t.old]
def tt3_a1 (t : Th) (n : Int) (c : Int) (g : Int) (g1 : Nat) : Act := ⟨#[.agg (tt3_c0 t), .int .i64 3, .agg #[.int .i64 n, .int .i64 c, .int .i64 g], .pointer (some ⟨g1, 0, none⟩), zz, zz, zz, zz, zz, zz, zz, zz, zz, zz, zz, zz], []⟩
def tt3_a2 (t : Th) (n : Int) (c : Int) (g : Int) (g1 : Nat) (g3 : Nat) : Act := ⟨#[.agg (tt3_c0 t), .int .i64 3, .agg #[.int .i64 n, .int .i64 c, .int .i64 g], .pointer (some ⟨g1, 0, none⟩), zz, .pointer (some ⟨g3, 0, none⟩), zz, zz, zz, zz, zz, zz, zz, zz, zz, zz], []⟩
def tt3_c1 : Array Value := #[.int .i64 0, .int .i64 0, .int .i64 0, .int .i64 0, .int .i64 0, .int .i64 0, .int .i64 0, .int .i64 0, .int .i64 0, .int .i64 0, .int .i64 0, .int .i64 0, .int .i64 0, .int .i64 0, .int .i64 0, .int .i64 0, .int .i64 0, .int .i64 0, .slice none 0 0, .slice none 0 0, .slice none 0 0, .int .i64 0]
def tt3_a4 (t : Th) (n : Int) (c : Int) (g : Int) (g1 : Nat) (g3 : Nat) (g5 : Nat) : Act := ⟨#[.agg (tt3_c0 t), .int .i64 3, .agg #[.int .i64 n, .int .i64 c, .int .i64 g], .pointer (some ⟨g1, 0, none⟩), zz, .pointer (some ⟨g3, 0, none⟩), .pointer (some ⟨g5, 0, none⟩), zz, zz, zz, zz, zz, zz, zz, zz, zz], []⟩
def tt3_a5 (t : Th) (n : Int) (c : Int) (g : Int) (g1 : Nat) (g3 : Nat) (g5 : Nat) : Act := ⟨#[.agg (tt3_c0 t), .int .i64 3, .agg #[.int .i64 n, .int .i64 c, .int .i64 g], .pointer (some ⟨g1, 0, none⟩), zz, .pointer (some ⟨g3, 0, none⟩), .pointer (some ⟨g5, 0, none⟩), .agg (tt3_c0 t), zz, zz, zz, zz, zz, zz, zz, zz], []⟩
def tt3_c2 (t : Th) (r7 : Rw) : Array Value := #[.int .i64 t.pc, .int .i64 t.fu, .int .i64 t.st, .int .i64 (t.R 0), .int .i64 (t.R 1), .int .i64 (t.R 2), .int .i64 (t.R 3), .int .i64 (t.R 4), .int .i64 (t.R 5), .int .i64 (t.R 6), .int .i64 (t.R 7), .int .i64 (t.R 8), .int .i64 (t.R 9), .int .i64 (t.R 10), .int .i64 (t.R 11), .int .i64 t.kd, .int .i64 t.mi, .int .i64 t.mn, r7.s, r7.b, r7.n, .int .i64 t.old]
def tt3_a7 (t : Th) (n : Int) (c : Int) (g : Int) (g1 : Nat) (g3 : Nat) (g5 : Nat) (r7 : Rw) : Act := ⟨#[.agg (tt3_c0 t), .int .i64 3, .agg #[.int .i64 n, .int .i64 c, .int .i64 g], .pointer (some ⟨g1, 0, none⟩), zz, .pointer (some ⟨g3, 0, none⟩), .pointer (some ⟨g5, 0, none⟩), .agg (tt3_c0 t), .agg (tt3_c2 t r7), zz, zz, zz, zz, zz, zz, zz], []⟩
def tt3_a8 (t : Th) (n : Int) (c : Int) (g : Int) (g1 : Nat) (g3 : Nat) (g5 : Nat) (r7 : Rw) : Act := ⟨#[.agg (tt3_c0 t), .int .i64 3, .agg #[.int .i64 n, .int .i64 c, .int .i64 g], .pointer (some ⟨g1, 0, none⟩), zz, .pointer (some ⟨g3, 0, none⟩), .pointer (some ⟨g5, 0, none⟩), .agg (tt3_c0 t), .agg (tt3_c2 t r7), .int .i64 3, zz, zz, zz, zz, zz, zz], []⟩
def tt3_a9 (t : Th) (n : Int) (c : Int) (g : Int) (g1 : Nat) (g3 : Nat) (g5 : Nat) (r7 : Rw) : Act := ⟨#[.agg (tt3_c0 t), .int .i64 3, .agg #[.int .i64 n, .int .i64 c, .int .i64 g], .pointer (some ⟨g1, 0, none⟩), zz, .pointer (some ⟨g3, 0, none⟩), .pointer (some ⟨g5, 0, none⟩), .agg (tt3_c0 t), .agg (tt3_c2 t r7), .int .i64 3, .bool true, zz, zz, zz, zz, zz], []⟩
def tt3_a10 (t : Th) (n : Int) (c : Int) (g : Int) (g1 : Nat) (g3 : Nat) (g5 : Nat) (r7 : Rw) : Act := ⟨#[.agg (tt3_c0 t), .int .i64 3, .agg #[.int .i64 n, .int .i64 c, .int .i64 g], .pointer (some ⟨g1, 0, none⟩), zz, .pointer (some ⟨g3, 0, none⟩), .pointer (some ⟨g5, 0, none⟩), .agg (tt3_c0 t), .agg (tt3_c2 t r7), .int .i64 3, .bool true, .int .i64 3, zz, zz, zz, zz], []⟩
def tt3_a11 (t : Th) (n : Int) (c : Int) (g : Int) (g1 : Nat) (g3 : Nat) (g5 : Nat) (r7 : Rw) : Act := ⟨#[.agg (tt3_c0 t), .int .i64 3, .agg #[.int .i64 n, .int .i64 c, .int .i64 g], .pointer (some ⟨g1, 0, none⟩), zz, .pointer (some ⟨g3, 0, none⟩), .pointer (some ⟨g5, 0, none⟩), .agg (tt3_c0 t), .agg (tt3_c2 t r7), .int .i64 3, .bool true, .int .i64 3, .agg #[.int .i64 n, .int .i64 c, .int .i64 g], zz, zz, zz], []⟩
def tt3_a12 (t : Th) (n : Int) (c : Int) (g : Int) (g1 : Nat) (g3 : Nat) (g5 : Nat) (r7 : Rw) : Act := ⟨#[.agg (tt3_c0 t), .int .i64 3, .agg #[.int .i64 n, .int .i64 c, .int .i64 g], .pointer (some ⟨g1, 0, none⟩), zz, .pointer (some ⟨g3, 0, none⟩), .pointer (some ⟨g5, 0, none⟩), .agg (tt3_c0 t), .agg (tt3_c2 t r7), .int .i64 3, .bool true, .int .i64 3, .agg #[.int .i64 n, .int .i64 c, .int .i64 g], .pointer (some ⟨g1, 3, none⟩), zz, zz], []⟩
def tt3_a13 (t : Th) (n : Int) (c : Int) (g : Int) (g1 : Nat) (g3 : Nat) (g5 : Nat) (r7 : Rw) : Act := ⟨#[.agg (tt3_c0 t), .int .i64 3, .agg #[.int .i64 n, .int .i64 c, .int .i64 g], .pointer (some ⟨g1, 0, none⟩), zz, .pointer (some ⟨g3, 0, none⟩), .pointer (some ⟨g5, 0, none⟩), .agg (tt3_c0 t), .agg (tt3_c2 t r7), .int .i64 3, .bool true, .int .i64 3, .agg #[.int .i64 n, .int .i64 c, .int .i64 g], .pointer (some ⟨g1, 3, none⟩), .pointer (some ⟨g1, 12, none⟩), zz], []⟩
def tt3_c3 (t : Th) (n : Int) (c : Int) (g : Int) (r7 : Rw) : Array Value := #[.int .i64 t.pc, .int .i64 t.fu, .int .i64 t.st, .int .i64 (t.R 0), .int .i64 (t.R 1), .int .i64 (t.R 2), .int .i64 (t.R 3), .int .i64 (t.R 4), .int .i64 (t.R 5), .int .i64 (t.R 6), .int .i64 (t.R 7), .int .i64 (t.R 8), .int .i64 n, .int .i64 c, .int .i64 g, .int .i64 t.kd, .int .i64 t.mi, .int .i64 t.mn, r7.s, r7.b, r7.n, .int .i64 t.old]
def tt3_a15 (t : Th) (n : Int) (c : Int) (g : Int) (g1 : Nat) (g3 : Nat) (g5 : Nat) (r7 : Rw) : Act := ⟨#[.agg (tt3_c0 t), .int .i64 3, .agg #[.int .i64 n, .int .i64 c, .int .i64 g], .pointer (some ⟨g1, 0, none⟩), zz, .pointer (some ⟨g3, 0, none⟩), .pointer (some ⟨g5, 0, none⟩), .agg (tt3_c0 t), .agg (tt3_c2 t r7), .int .i64 3, .bool true, .int .i64 3, .agg #[.int .i64 n, .int .i64 c, .int .i64 g], .pointer (some ⟨g1, 3, none⟩), .pointer (some ⟨g1, 12, none⟩), .agg (tt3_c3 t n c g r7)], []⟩
set_option maxHeartbeats 8000000 in
set_option maxRecDepth 100000 in
theorem th_Set {w : World} {t : Th} {xs : List Int} {bs : List S42} {ns : List Int} (h : t.reads w xs bs ns) (hl : xs.length ≤ 1000 ∧ bs.length ≤ 1000 ∧ ns.length ≤ 1000) (r n c g : Int) : Calls Try.prog 17 #[.agg t.cells, .int .i64 r, .agg #[.int .i64 n, .int .i64 c, .int .i64 g]] w fun e w' => ∃ As cs Ab cb An cn, e = .returned (.agg (({ t with R := setR t.R r n c g }).rows (.slice As xs.length cs) (.slice Ab bs.length cb) (.slice An ns.length cn)).cells) ∧ (({ t with R := setR t.R r n c g }).rows (.slice As xs.length cs) (.slice Ab bs.length cb) (.slice An ns.length cn)).owns w' w.heap.size xs bs ns ∧ Below w.heap.size w w' := by
  have hc : ¬ (0 ≤ r ∧ r ≤ 3) ∨ r = 0 ∨ r = 1 ∨ r = 2 ∨ r = 3 := by omega
  rcases hc with hrr | rfl | rfl | rfl | rfl
  · skip
    refine calls_of_wp Try.func17 rfl ?_
    have hW := Ws.nil w
    refine wp_seq ?_
    refine wp_region_list ?_
    obtain ⟨g1, W2, hr, hW, hbb, hge⟩ := hW.mk1 (P := Try.prog) (s := Instr.box 32 (.agg (tto_c0 t))) (tto_c0 t) 32 (by kernel_rfl)
    refine se (a' := (tto_a1 t r n c g g1)) (.pointer (some ⟨g1, 0, none⟩)) (Eq.trans (b := (do pure (Next.value (← Instr.box 32 (.agg (tto_c0 t)))) : Sem Next).run Try.prog w) (by kernel_rfl) (st_val hr)) ?_
    obtain ⟨g3, W4, hr, hW, hbb, hge⟩ := hW.mk1 (P := Try.prog) (s := Instr.box 25 (.agg #[.int .i64 n, .int .i64 c, .int .i64 g])) #[.int .i64 n, .int .i64 c, .int .i64 g] 25 (by kernel_rfl)
    refine se (a' := (tto_a2 t r n c g g1 g3)) (.pointer (some ⟨g3, 0, none⟩)) (Eq.trans (b := (do pure (Next.value (← Instr.box 25 (.agg #[.int .i64 n, .int .i64 c, .int .i64 g]))) : Sem Next).run Try.prog W2) (by kernel_rfl) (st_val hr)) ?_
    obtain ⟨g5, W6, hr, hW, hbb, hge⟩ := hW.mk1 (P := Try.prog) (s := Instr.alloc 32 true (.tuple #[])) tto_c1 32 (by kernel_rfl)
    refine se (a' := (tto_a4 t r n c g g1 g3 g5)) (.pointer (some ⟨g5, 0, none⟩)) (Eq.trans (b := (do pure (Next.value (← Instr.alloc 32 true (.tuple #[]))) : Sem Next).run Try.prog W4) (by kernel_rfl) (st_val hr)) ?_
    refine wpList_nil ?_
    refine wp_seq ?_
    refine wp_region_list ?_
    refine se (a' := (tto_a5 t r n c g g1 g3 g5)) (.agg (tto_c0 t)) (evA hW 2 0 Try.underlying32) ?_
    have hK7_g5 : g5 < W6.heap.size := blk_lt (hW.blk 0 _ _ _ rfl).1
    have hK7_g3 : g3 < W6.heap.size := blk_lt (hW.blk 1 _ _ _ rfl).1
    have hK7_g1 : g1 < W6.heap.size := blk_lt (hW.blk 2 _ _ _ rfl).1
    have hK7_le : w.heap.size ≤ W6.heap.size := hW.below.size
    refine st_call (th_Clone (t := (⟨t.pc, t.fu, t.st, t.R, t.kd, t.mi, t.mn, t.sv, t.bv, t.nv, t.old⟩ : Th)) (xs := xs) (bs := bs) (ns := ns) ⟨h.s.below hW.below, h.b.below hW.below, h.n.below hW.below⟩ hl) (by kernel_rfl) (by kernel_rfl) ?_
    rintro _ W7 ⟨As7, cs7, Ab7, cb7, An7, cn7, rfl, hO7, hB⟩
    have hW := hW.step hB
    have hK7 := KeepUp.refl W6.heap.size W7
    obtain ⟨r7, e7⟩ : ∃ r : Rw, r = ⟨.slice As7 xs.length cs7, .slice Ab7 bs.length cb7, .slice An7 ns.length cn7⟩ := ⟨_, rfl⟩
    refine ⟨_, (tto_a7 t r n c g g1 g3 g5 r7), rfl, by (try subst e7); kernel_rfl, ?_⟩
    obtain ⟨W8, hr, hW, hF⟩ := hW.storeN (P := Try.prog) (o := 0) (cs' := (tto_c2 t r7)) (L' := [(g5, 32, tto_c1), (g3, 25, #[.int .i64 n, .int .i64 c, .int .i64 g]), (g1, 32, (tto_c2 t r7))]) 2 rfl (tto_c2 t r7) (by (try subst e7); kernel_rfl) (Nat.le_of_ble_eq_true rfl) (by kernel_rfl) rfl 32 (by kernel_rfl)
    have hK7 := hK7.store hF (.inl hK7_g1)
    refine st_none (w' := W8) (a' := (tto_a7 t r n c g g1 g3 g5 r7)) (by kernel_rfl) (Eq.trans (b := (do Instr.storeAt 32 (.pointer (some ⟨g1, 0, none⟩)) (.agg (tto_c2 t r7)); pure Next.skip : Sem Next).run Try.prog W7) (by kernel_rfl) (st_unit hr)) (by kernel_rfl) ?_
    refine wpList_nil ?_
    refine wp_seq ?_
    refine wp_seq ?_
    refine wp_region_list ?_
    refine sk (a' := (tto_a8 t r n c g g1 g3 g5 r7)) (.int .i64 r) ?_
    refine st_call (in_calls r 0 3 false (decide_eq_false (by omega)) W8) (by kernel_rfl) (by kernel_rfl) ?_
    rintro _ W9 ⟨rfl, hB⟩
    have hW := hW.step hB
    have hK7 := hK7.below hB
    refine ⟨_, (tto_a9 t r n c g g1 g3 g5 r7), rfl, by (try subst e7); kernel_rfl, ?_⟩
    refine wpList_nil ?_
    refine wp_cond (t := false) (by kernel_rfl) ?_
    refine wp_skip ?_
    refine wp_seq ?_
    refine wp_region_list ?_
    refine se (a' := (tto_a10 t r n c g g1 g3 g5 r7)) (.agg (tto_c2 t r7)) (evA hW 2 0 Try.underlying32) ?_
    obtain ⟨W10, hr, hW, hF⟩ := hW.storeN (P := Try.prog) (o := 0) (cs' := (tto_c2 t r7)) (L' := [(g5, 32, (tto_c2 t r7)), (g3, 25, #[.int .i64 n, .int .i64 c, .int .i64 g]), (g1, 32, (tto_c2 t r7))]) 0 rfl (tto_c2 t r7) (by (try subst e7); kernel_rfl) (Nat.le_of_ble_eq_true rfl) (by kernel_rfl) rfl 32 (by kernel_rfl)
    have hK7 := hK7.store hF (.inl hK7_g5)
    refine st_none (w' := W10) (a' := (tto_a10 t r n c g g1 g3 g5 r7)) (by kernel_rfl) (Eq.trans (b := (do Instr.storeAt 32 (.pointer (some ⟨g5, 0, none⟩)) (.agg (tto_c2 t r7)); pure Next.skip : Sem Next).run Try.prog W9) (by kernel_rfl) (st_unit hr)) (by kernel_rfl) ?_
    refine wpList_nil ?_
    refine wp_ret ?_
    (try simp only [Exit.then, Exit.inBlock])
    change bodyPost Try.prog Try.f17 _ .ret _ _
    refine bodyPost_ret (results_single rfl (.cell g5 32 _ (0, 0) _ (by kernel_rfl) (hW.blk 0 _ _ _ rfl).1 Try.underlying32 rfl (by kernel_rfl) .nil)) rfl ?_
    subst e7
    refine ⟨As7, cs7, Ab7, cb7, An7, cn7, ?_, ⟨Kd.R_lower (hK7.R hO7.s) hK7_le, Kd.R_lower (hK7.R hO7.b) hK7_le, Kd.R_lower (hK7.R hO7.n) hK7_le⟩, hW.below⟩
    unfold setR
    rw [if_neg hrr]
    rfl
  · skip
    refine calls_of_wp Try.func17 rfl ?_
    have hW := Ws.nil w
    refine wp_seq ?_
    refine wp_region_list ?_
    obtain ⟨g1, W2, hr, hW, hbb, hge⟩ := hW.mk1 (P := Try.prog) (s := Instr.box 32 (.agg (tt0_c0 t))) (tt0_c0 t) 32 (by kernel_rfl)
    refine se (a' := (tt0_a1 t n c g g1)) (.pointer (some ⟨g1, 0, none⟩)) (Eq.trans (b := (do pure (Next.value (← Instr.box 32 (.agg (tt0_c0 t)))) : Sem Next).run Try.prog w) (by kernel_rfl) (st_val hr)) ?_
    obtain ⟨g3, W4, hr, hW, hbb, hge⟩ := hW.mk1 (P := Try.prog) (s := Instr.box 25 (.agg #[.int .i64 n, .int .i64 c, .int .i64 g])) #[.int .i64 n, .int .i64 c, .int .i64 g] 25 (by kernel_rfl)
    refine se (a' := (tt0_a2 t n c g g1 g3)) (.pointer (some ⟨g3, 0, none⟩)) (Eq.trans (b := (do pure (Next.value (← Instr.box 25 (.agg #[.int .i64 n, .int .i64 c, .int .i64 g]))) : Sem Next).run Try.prog W2) (by kernel_rfl) (st_val hr)) ?_
    obtain ⟨g5, W6, hr, hW, hbb, hge⟩ := hW.mk1 (P := Try.prog) (s := Instr.alloc 32 true (.tuple #[])) tt0_c1 32 (by kernel_rfl)
    refine se (a' := (tt0_a4 t n c g g1 g3 g5)) (.pointer (some ⟨g5, 0, none⟩)) (Eq.trans (b := (do pure (Next.value (← Instr.alloc 32 true (.tuple #[]))) : Sem Next).run Try.prog W4) (by kernel_rfl) (st_val hr)) ?_
    refine wpList_nil ?_
    refine wp_seq ?_
    refine wp_region_list ?_
    refine se (a' := (tt0_a5 t n c g g1 g3 g5)) (.agg (tt0_c0 t)) (evA hW 2 0 Try.underlying32) ?_
    have hK7_g5 : g5 < W6.heap.size := blk_lt (hW.blk 0 _ _ _ rfl).1
    have hK7_g3 : g3 < W6.heap.size := blk_lt (hW.blk 1 _ _ _ rfl).1
    have hK7_g1 : g1 < W6.heap.size := blk_lt (hW.blk 2 _ _ _ rfl).1
    have hK7_le : w.heap.size ≤ W6.heap.size := hW.below.size
    refine st_call (th_Clone (t := (⟨t.pc, t.fu, t.st, t.R, t.kd, t.mi, t.mn, t.sv, t.bv, t.nv, t.old⟩ : Th)) (xs := xs) (bs := bs) (ns := ns) ⟨h.s.below hW.below, h.b.below hW.below, h.n.below hW.below⟩ hl) (by kernel_rfl) (by kernel_rfl) ?_
    rintro _ W7 ⟨As7, cs7, Ab7, cb7, An7, cn7, rfl, hO7, hB⟩
    have hW := hW.step hB
    have hK7 := KeepUp.refl W6.heap.size W7
    obtain ⟨r7, e7⟩ : ∃ r : Rw, r = ⟨.slice As7 xs.length cs7, .slice Ab7 bs.length cb7, .slice An7 ns.length cn7⟩ := ⟨_, rfl⟩
    refine ⟨_, (tt0_a7 t n c g g1 g3 g5 r7), rfl, by (try subst e7); kernel_rfl, ?_⟩
    obtain ⟨W8, hr, hW, hF⟩ := hW.storeN (P := Try.prog) (o := 0) (cs' := (tt0_c2 t r7)) (L' := [(g5, 32, tt0_c1), (g3, 25, #[.int .i64 n, .int .i64 c, .int .i64 g]), (g1, 32, (tt0_c2 t r7))]) 2 rfl (tt0_c2 t r7) (by (try subst e7); kernel_rfl) (Nat.le_of_ble_eq_true rfl) (by kernel_rfl) rfl 32 (by kernel_rfl)
    have hK7 := hK7.store hF (.inl hK7_g1)
    refine st_none (w' := W8) (a' := (tt0_a7 t n c g g1 g3 g5 r7)) (by kernel_rfl) (Eq.trans (b := (do Instr.storeAt 32 (.pointer (some ⟨g1, 0, none⟩)) (.agg (tt0_c2 t r7)); pure Next.skip : Sem Next).run Try.prog W7) (by kernel_rfl) (st_unit hr)) (by kernel_rfl) ?_
    refine wpList_nil ?_
    refine wp_seq ?_
    refine wp_seq ?_
    refine wp_region_list ?_
    refine sk (a' := (tt0_a8 t n c g g1 g3 g5 r7)) (.int .i64 0) ?_
    refine st_call (in_calls 0 0 3 true (decide_eq_true (by omega)) W8) (by kernel_rfl) (by kernel_rfl) ?_
    rintro _ W9 ⟨rfl, hB⟩
    have hW := hW.step hB
    have hK7 := hK7.below hB
    refine ⟨_, (tt0_a9 t n c g g1 g3 g5 r7), rfl, by (try subst e7); kernel_rfl, ?_⟩
    refine wpList_nil ?_
    refine wp_cond (t := true) (by kernel_rfl) ?_
    refine wp_region_list ?_
    refine sk (a' := (tt0_a10 t n c g g1 g3 g5 r7)) (.int .i64 0) ?_
    refine se (a' := (tt0_a11 t n c g g1 g3 g5 r7)) (.agg #[.int .i64 n, .int .i64 c, .int .i64 g]) (evA hW 1 0 Try.underlying25) ?_
    refine sk (a' := (tt0_a12 t n c g g1 g3 g5 r7)) (.pointer (some ⟨g1, 3, none⟩)) ?_
    refine sk (a' := (tt0_a13 t n c g g1 g3 g5 r7)) (.pointer (some ⟨g1, 3, none⟩)) ?_
    obtain ⟨W10, hr, hW, hF⟩ := hW.storeN (P := Try.prog) (o := 3) (cs' := (tt0_c3 t n c g r7)) (L' := [(g5, 32, tt0_c1), (g3, 25, #[.int .i64 n, .int .i64 c, .int .i64 g]), (g1, 32, (tt0_c3 t n c g r7))]) 2 rfl #[.int .i64 n, .int .i64 c, .int .i64 g] (by (try subst e7); kernel_rfl) (Nat.le_of_ble_eq_true rfl) (by kernel_rfl) rfl 25 (by kernel_rfl)
    have hK7 := hK7.store hF (.inl hK7_g1)
    refine st_none (w' := W10) (a' := (tt0_a13 t n c g g1 g3 g5 r7)) (by kernel_rfl) (Eq.trans (b := (do Instr.storeAt 25 (.pointer (some ⟨g1, 3, none⟩)) (.agg #[.int .i64 n, .int .i64 c, .int .i64 g]); pure Next.skip : Sem Next).run Try.prog W9) (by kernel_rfl) (st_unit hr)) (by kernel_rfl) ?_
    refine wpList_nil ?_
    refine wp_seq ?_
    refine wp_region_list ?_
    refine se (a' := (tt0_a15 t n c g g1 g3 g5 r7)) (.agg (tt0_c3 t n c g r7)) (evA hW 2 0 Try.underlying32) ?_
    obtain ⟨W11, hr, hW, hF⟩ := hW.storeN (P := Try.prog) (o := 0) (cs' := (tt0_c3 t n c g r7)) (L' := [(g5, 32, (tt0_c3 t n c g r7)), (g3, 25, #[.int .i64 n, .int .i64 c, .int .i64 g]), (g1, 32, (tt0_c3 t n c g r7))]) 0 rfl (tt0_c3 t n c g r7) (by (try subst e7); kernel_rfl) (Nat.le_of_ble_eq_true rfl) (by kernel_rfl) rfl 32 (by kernel_rfl)
    have hK7 := hK7.store hF (.inl hK7_g5)
    refine st_none (w' := W11) (a' := (tt0_a15 t n c g g1 g3 g5 r7)) (by kernel_rfl) (Eq.trans (b := (do Instr.storeAt 32 (.pointer (some ⟨g5, 0, none⟩)) (.agg (tt0_c3 t n c g r7)); pure Next.skip : Sem Next).run Try.prog W10) (by kernel_rfl) (st_unit hr)) (by kernel_rfl) ?_
    refine wpList_nil ?_
    refine wp_ret ?_
    (try simp only [Exit.then, Exit.inBlock])
    change bodyPost Try.prog Try.f17 _ .ret _ _
    refine bodyPost_ret (results_single rfl (.cell g5 32 _ (0, 0) _ (by kernel_rfl) (hW.blk 0 _ _ _ rfl).1 Try.underlying32 rfl (by kernel_rfl) .nil)) rfl ?_
    subst e7
    refine ⟨As7, cs7, Ab7, cb7, An7, cn7, ?_, ⟨Kd.R_lower (hK7.R hO7.s) hK7_le, Kd.R_lower (hK7.R hO7.b) hK7_le, Kd.R_lower (hK7.R hO7.n) hK7_le⟩, hW.below⟩
    kernel_rfl
  · skip
    refine calls_of_wp Try.func17 rfl ?_
    have hW := Ws.nil w
    refine wp_seq ?_
    refine wp_region_list ?_
    obtain ⟨g1, W2, hr, hW, hbb, hge⟩ := hW.mk1 (P := Try.prog) (s := Instr.box 32 (.agg (tt1_c0 t))) (tt1_c0 t) 32 (by kernel_rfl)
    refine se (a' := (tt1_a1 t n c g g1)) (.pointer (some ⟨g1, 0, none⟩)) (Eq.trans (b := (do pure (Next.value (← Instr.box 32 (.agg (tt1_c0 t)))) : Sem Next).run Try.prog w) (by kernel_rfl) (st_val hr)) ?_
    obtain ⟨g3, W4, hr, hW, hbb, hge⟩ := hW.mk1 (P := Try.prog) (s := Instr.box 25 (.agg #[.int .i64 n, .int .i64 c, .int .i64 g])) #[.int .i64 n, .int .i64 c, .int .i64 g] 25 (by kernel_rfl)
    refine se (a' := (tt1_a2 t n c g g1 g3)) (.pointer (some ⟨g3, 0, none⟩)) (Eq.trans (b := (do pure (Next.value (← Instr.box 25 (.agg #[.int .i64 n, .int .i64 c, .int .i64 g]))) : Sem Next).run Try.prog W2) (by kernel_rfl) (st_val hr)) ?_
    obtain ⟨g5, W6, hr, hW, hbb, hge⟩ := hW.mk1 (P := Try.prog) (s := Instr.alloc 32 true (.tuple #[])) tt1_c1 32 (by kernel_rfl)
    refine se (a' := (tt1_a4 t n c g g1 g3 g5)) (.pointer (some ⟨g5, 0, none⟩)) (Eq.trans (b := (do pure (Next.value (← Instr.alloc 32 true (.tuple #[]))) : Sem Next).run Try.prog W4) (by kernel_rfl) (st_val hr)) ?_
    refine wpList_nil ?_
    refine wp_seq ?_
    refine wp_region_list ?_
    refine se (a' := (tt1_a5 t n c g g1 g3 g5)) (.agg (tt1_c0 t)) (evA hW 2 0 Try.underlying32) ?_
    have hK7_g5 : g5 < W6.heap.size := blk_lt (hW.blk 0 _ _ _ rfl).1
    have hK7_g3 : g3 < W6.heap.size := blk_lt (hW.blk 1 _ _ _ rfl).1
    have hK7_g1 : g1 < W6.heap.size := blk_lt (hW.blk 2 _ _ _ rfl).1
    have hK7_le : w.heap.size ≤ W6.heap.size := hW.below.size
    refine st_call (th_Clone (t := (⟨t.pc, t.fu, t.st, t.R, t.kd, t.mi, t.mn, t.sv, t.bv, t.nv, t.old⟩ : Th)) (xs := xs) (bs := bs) (ns := ns) ⟨h.s.below hW.below, h.b.below hW.below, h.n.below hW.below⟩ hl) (by kernel_rfl) (by kernel_rfl) ?_
    rintro _ W7 ⟨As7, cs7, Ab7, cb7, An7, cn7, rfl, hO7, hB⟩
    have hW := hW.step hB
    have hK7 := KeepUp.refl W6.heap.size W7
    obtain ⟨r7, e7⟩ : ∃ r : Rw, r = ⟨.slice As7 xs.length cs7, .slice Ab7 bs.length cb7, .slice An7 ns.length cn7⟩ := ⟨_, rfl⟩
    refine ⟨_, (tt1_a7 t n c g g1 g3 g5 r7), rfl, by (try subst e7); kernel_rfl, ?_⟩
    obtain ⟨W8, hr, hW, hF⟩ := hW.storeN (P := Try.prog) (o := 0) (cs' := (tt1_c2 t r7)) (L' := [(g5, 32, tt1_c1), (g3, 25, #[.int .i64 n, .int .i64 c, .int .i64 g]), (g1, 32, (tt1_c2 t r7))]) 2 rfl (tt1_c2 t r7) (by (try subst e7); kernel_rfl) (Nat.le_of_ble_eq_true rfl) (by kernel_rfl) rfl 32 (by kernel_rfl)
    have hK7 := hK7.store hF (.inl hK7_g1)
    refine st_none (w' := W8) (a' := (tt1_a7 t n c g g1 g3 g5 r7)) (by kernel_rfl) (Eq.trans (b := (do Instr.storeAt 32 (.pointer (some ⟨g1, 0, none⟩)) (.agg (tt1_c2 t r7)); pure Next.skip : Sem Next).run Try.prog W7) (by kernel_rfl) (st_unit hr)) (by kernel_rfl) ?_
    refine wpList_nil ?_
    refine wp_seq ?_
    refine wp_seq ?_
    refine wp_region_list ?_
    refine sk (a' := (tt1_a8 t n c g g1 g3 g5 r7)) (.int .i64 1) ?_
    refine st_call (in_calls 1 0 3 true (decide_eq_true (by omega)) W8) (by kernel_rfl) (by kernel_rfl) ?_
    rintro _ W9 ⟨rfl, hB⟩
    have hW := hW.step hB
    have hK7 := hK7.below hB
    refine ⟨_, (tt1_a9 t n c g g1 g3 g5 r7), rfl, by (try subst e7); kernel_rfl, ?_⟩
    refine wpList_nil ?_
    refine wp_cond (t := true) (by kernel_rfl) ?_
    refine wp_region_list ?_
    refine sk (a' := (tt1_a10 t n c g g1 g3 g5 r7)) (.int .i64 1) ?_
    refine se (a' := (tt1_a11 t n c g g1 g3 g5 r7)) (.agg #[.int .i64 n, .int .i64 c, .int .i64 g]) (evA hW 1 0 Try.underlying25) ?_
    refine sk (a' := (tt1_a12 t n c g g1 g3 g5 r7)) (.pointer (some ⟨g1, 3, none⟩)) ?_
    refine sk (a' := (tt1_a13 t n c g g1 g3 g5 r7)) (.pointer (some ⟨g1, 6, none⟩)) ?_
    obtain ⟨W10, hr, hW, hF⟩ := hW.storeN (P := Try.prog) (o := 6) (cs' := (tt1_c3 t n c g r7)) (L' := [(g5, 32, tt1_c1), (g3, 25, #[.int .i64 n, .int .i64 c, .int .i64 g]), (g1, 32, (tt1_c3 t n c g r7))]) 2 rfl #[.int .i64 n, .int .i64 c, .int .i64 g] (by (try subst e7); kernel_rfl) (Nat.le_of_ble_eq_true rfl) (by kernel_rfl) rfl 25 (by kernel_rfl)
    have hK7 := hK7.store hF (.inl hK7_g1)
    refine st_none (w' := W10) (a' := (tt1_a13 t n c g g1 g3 g5 r7)) (by kernel_rfl) (Eq.trans (b := (do Instr.storeAt 25 (.pointer (some ⟨g1, 6, none⟩)) (.agg #[.int .i64 n, .int .i64 c, .int .i64 g]); pure Next.skip : Sem Next).run Try.prog W9) (by kernel_rfl) (st_unit hr)) (by kernel_rfl) ?_
    refine wpList_nil ?_
    refine wp_seq ?_
    refine wp_region_list ?_
    refine se (a' := (tt1_a15 t n c g g1 g3 g5 r7)) (.agg (tt1_c3 t n c g r7)) (evA hW 2 0 Try.underlying32) ?_
    obtain ⟨W11, hr, hW, hF⟩ := hW.storeN (P := Try.prog) (o := 0) (cs' := (tt1_c3 t n c g r7)) (L' := [(g5, 32, (tt1_c3 t n c g r7)), (g3, 25, #[.int .i64 n, .int .i64 c, .int .i64 g]), (g1, 32, (tt1_c3 t n c g r7))]) 0 rfl (tt1_c3 t n c g r7) (by (try subst e7); kernel_rfl) (Nat.le_of_ble_eq_true rfl) (by kernel_rfl) rfl 32 (by kernel_rfl)
    have hK7 := hK7.store hF (.inl hK7_g5)
    refine st_none (w' := W11) (a' := (tt1_a15 t n c g g1 g3 g5 r7)) (by kernel_rfl) (Eq.trans (b := (do Instr.storeAt 32 (.pointer (some ⟨g5, 0, none⟩)) (.agg (tt1_c3 t n c g r7)); pure Next.skip : Sem Next).run Try.prog W10) (by kernel_rfl) (st_unit hr)) (by kernel_rfl) ?_
    refine wpList_nil ?_
    refine wp_ret ?_
    (try simp only [Exit.then, Exit.inBlock])
    change bodyPost Try.prog Try.f17 _ .ret _ _
    refine bodyPost_ret (results_single rfl (.cell g5 32 _ (0, 0) _ (by kernel_rfl) (hW.blk 0 _ _ _ rfl).1 Try.underlying32 rfl (by kernel_rfl) .nil)) rfl ?_
    subst e7
    refine ⟨As7, cs7, Ab7, cb7, An7, cn7, ?_, ⟨Kd.R_lower (hK7.R hO7.s) hK7_le, Kd.R_lower (hK7.R hO7.b) hK7_le, Kd.R_lower (hK7.R hO7.n) hK7_le⟩, hW.below⟩
    kernel_rfl
  · skip
    refine calls_of_wp Try.func17 rfl ?_
    have hW := Ws.nil w
    refine wp_seq ?_
    refine wp_region_list ?_
    obtain ⟨g1, W2, hr, hW, hbb, hge⟩ := hW.mk1 (P := Try.prog) (s := Instr.box 32 (.agg (tt2_c0 t))) (tt2_c0 t) 32 (by kernel_rfl)
    refine se (a' := (tt2_a1 t n c g g1)) (.pointer (some ⟨g1, 0, none⟩)) (Eq.trans (b := (do pure (Next.value (← Instr.box 32 (.agg (tt2_c0 t)))) : Sem Next).run Try.prog w) (by kernel_rfl) (st_val hr)) ?_
    obtain ⟨g3, W4, hr, hW, hbb, hge⟩ := hW.mk1 (P := Try.prog) (s := Instr.box 25 (.agg #[.int .i64 n, .int .i64 c, .int .i64 g])) #[.int .i64 n, .int .i64 c, .int .i64 g] 25 (by kernel_rfl)
    refine se (a' := (tt2_a2 t n c g g1 g3)) (.pointer (some ⟨g3, 0, none⟩)) (Eq.trans (b := (do pure (Next.value (← Instr.box 25 (.agg #[.int .i64 n, .int .i64 c, .int .i64 g]))) : Sem Next).run Try.prog W2) (by kernel_rfl) (st_val hr)) ?_
    obtain ⟨g5, W6, hr, hW, hbb, hge⟩ := hW.mk1 (P := Try.prog) (s := Instr.alloc 32 true (.tuple #[])) tt2_c1 32 (by kernel_rfl)
    refine se (a' := (tt2_a4 t n c g g1 g3 g5)) (.pointer (some ⟨g5, 0, none⟩)) (Eq.trans (b := (do pure (Next.value (← Instr.alloc 32 true (.tuple #[]))) : Sem Next).run Try.prog W4) (by kernel_rfl) (st_val hr)) ?_
    refine wpList_nil ?_
    refine wp_seq ?_
    refine wp_region_list ?_
    refine se (a' := (tt2_a5 t n c g g1 g3 g5)) (.agg (tt2_c0 t)) (evA hW 2 0 Try.underlying32) ?_
    have hK7_g5 : g5 < W6.heap.size := blk_lt (hW.blk 0 _ _ _ rfl).1
    have hK7_g3 : g3 < W6.heap.size := blk_lt (hW.blk 1 _ _ _ rfl).1
    have hK7_g1 : g1 < W6.heap.size := blk_lt (hW.blk 2 _ _ _ rfl).1
    have hK7_le : w.heap.size ≤ W6.heap.size := hW.below.size
    refine st_call (th_Clone (t := (⟨t.pc, t.fu, t.st, t.R, t.kd, t.mi, t.mn, t.sv, t.bv, t.nv, t.old⟩ : Th)) (xs := xs) (bs := bs) (ns := ns) ⟨h.s.below hW.below, h.b.below hW.below, h.n.below hW.below⟩ hl) (by kernel_rfl) (by kernel_rfl) ?_
    rintro _ W7 ⟨As7, cs7, Ab7, cb7, An7, cn7, rfl, hO7, hB⟩
    have hW := hW.step hB
    have hK7 := KeepUp.refl W6.heap.size W7
    obtain ⟨r7, e7⟩ : ∃ r : Rw, r = ⟨.slice As7 xs.length cs7, .slice Ab7 bs.length cb7, .slice An7 ns.length cn7⟩ := ⟨_, rfl⟩
    refine ⟨_, (tt2_a7 t n c g g1 g3 g5 r7), rfl, by (try subst e7); kernel_rfl, ?_⟩
    obtain ⟨W8, hr, hW, hF⟩ := hW.storeN (P := Try.prog) (o := 0) (cs' := (tt2_c2 t r7)) (L' := [(g5, 32, tt2_c1), (g3, 25, #[.int .i64 n, .int .i64 c, .int .i64 g]), (g1, 32, (tt2_c2 t r7))]) 2 rfl (tt2_c2 t r7) (by (try subst e7); kernel_rfl) (Nat.le_of_ble_eq_true rfl) (by kernel_rfl) rfl 32 (by kernel_rfl)
    have hK7 := hK7.store hF (.inl hK7_g1)
    refine st_none (w' := W8) (a' := (tt2_a7 t n c g g1 g3 g5 r7)) (by kernel_rfl) (Eq.trans (b := (do Instr.storeAt 32 (.pointer (some ⟨g1, 0, none⟩)) (.agg (tt2_c2 t r7)); pure Next.skip : Sem Next).run Try.prog W7) (by kernel_rfl) (st_unit hr)) (by kernel_rfl) ?_
    refine wpList_nil ?_
    refine wp_seq ?_
    refine wp_seq ?_
    refine wp_region_list ?_
    refine sk (a' := (tt2_a8 t n c g g1 g3 g5 r7)) (.int .i64 2) ?_
    refine st_call (in_calls 2 0 3 true (decide_eq_true (by omega)) W8) (by kernel_rfl) (by kernel_rfl) ?_
    rintro _ W9 ⟨rfl, hB⟩
    have hW := hW.step hB
    have hK7 := hK7.below hB
    refine ⟨_, (tt2_a9 t n c g g1 g3 g5 r7), rfl, by (try subst e7); kernel_rfl, ?_⟩
    refine wpList_nil ?_
    refine wp_cond (t := true) (by kernel_rfl) ?_
    refine wp_region_list ?_
    refine sk (a' := (tt2_a10 t n c g g1 g3 g5 r7)) (.int .i64 2) ?_
    refine se (a' := (tt2_a11 t n c g g1 g3 g5 r7)) (.agg #[.int .i64 n, .int .i64 c, .int .i64 g]) (evA hW 1 0 Try.underlying25) ?_
    refine sk (a' := (tt2_a12 t n c g g1 g3 g5 r7)) (.pointer (some ⟨g1, 3, none⟩)) ?_
    refine sk (a' := (tt2_a13 t n c g g1 g3 g5 r7)) (.pointer (some ⟨g1, 9, none⟩)) ?_
    obtain ⟨W10, hr, hW, hF⟩ := hW.storeN (P := Try.prog) (o := 9) (cs' := (tt2_c3 t n c g r7)) (L' := [(g5, 32, tt2_c1), (g3, 25, #[.int .i64 n, .int .i64 c, .int .i64 g]), (g1, 32, (tt2_c3 t n c g r7))]) 2 rfl #[.int .i64 n, .int .i64 c, .int .i64 g] (by (try subst e7); kernel_rfl) (Nat.le_of_ble_eq_true rfl) (by kernel_rfl) rfl 25 (by kernel_rfl)
    have hK7 := hK7.store hF (.inl hK7_g1)
    refine st_none (w' := W10) (a' := (tt2_a13 t n c g g1 g3 g5 r7)) (by kernel_rfl) (Eq.trans (b := (do Instr.storeAt 25 (.pointer (some ⟨g1, 9, none⟩)) (.agg #[.int .i64 n, .int .i64 c, .int .i64 g]); pure Next.skip : Sem Next).run Try.prog W9) (by kernel_rfl) (st_unit hr)) (by kernel_rfl) ?_
    refine wpList_nil ?_
    refine wp_seq ?_
    refine wp_region_list ?_
    refine se (a' := (tt2_a15 t n c g g1 g3 g5 r7)) (.agg (tt2_c3 t n c g r7)) (evA hW 2 0 Try.underlying32) ?_
    obtain ⟨W11, hr, hW, hF⟩ := hW.storeN (P := Try.prog) (o := 0) (cs' := (tt2_c3 t n c g r7)) (L' := [(g5, 32, (tt2_c3 t n c g r7)), (g3, 25, #[.int .i64 n, .int .i64 c, .int .i64 g]), (g1, 32, (tt2_c3 t n c g r7))]) 0 rfl (tt2_c3 t n c g r7) (by (try subst e7); kernel_rfl) (Nat.le_of_ble_eq_true rfl) (by kernel_rfl) rfl 32 (by kernel_rfl)
    have hK7 := hK7.store hF (.inl hK7_g5)
    refine st_none (w' := W11) (a' := (tt2_a15 t n c g g1 g3 g5 r7)) (by kernel_rfl) (Eq.trans (b := (do Instr.storeAt 32 (.pointer (some ⟨g5, 0, none⟩)) (.agg (tt2_c3 t n c g r7)); pure Next.skip : Sem Next).run Try.prog W10) (by kernel_rfl) (st_unit hr)) (by kernel_rfl) ?_
    refine wpList_nil ?_
    refine wp_ret ?_
    (try simp only [Exit.then, Exit.inBlock])
    change bodyPost Try.prog Try.f17 _ .ret _ _
    refine bodyPost_ret (results_single rfl (.cell g5 32 _ (0, 0) _ (by kernel_rfl) (hW.blk 0 _ _ _ rfl).1 Try.underlying32 rfl (by kernel_rfl) .nil)) rfl ?_
    subst e7
    refine ⟨As7, cs7, Ab7, cb7, An7, cn7, ?_, ⟨Kd.R_lower (hK7.R hO7.s) hK7_le, Kd.R_lower (hK7.R hO7.b) hK7_le, Kd.R_lower (hK7.R hO7.n) hK7_le⟩, hW.below⟩
    kernel_rfl
  · skip
    refine calls_of_wp Try.func17 rfl ?_
    have hW := Ws.nil w
    refine wp_seq ?_
    refine wp_region_list ?_
    obtain ⟨g1, W2, hr, hW, hbb, hge⟩ := hW.mk1 (P := Try.prog) (s := Instr.box 32 (.agg (tt3_c0 t))) (tt3_c0 t) 32 (by kernel_rfl)
    refine se (a' := (tt3_a1 t n c g g1)) (.pointer (some ⟨g1, 0, none⟩)) (Eq.trans (b := (do pure (Next.value (← Instr.box 32 (.agg (tt3_c0 t)))) : Sem Next).run Try.prog w) (by kernel_rfl) (st_val hr)) ?_
    obtain ⟨g3, W4, hr, hW, hbb, hge⟩ := hW.mk1 (P := Try.prog) (s := Instr.box 25 (.agg #[.int .i64 n, .int .i64 c, .int .i64 g])) #[.int .i64 n, .int .i64 c, .int .i64 g] 25 (by kernel_rfl)
    refine se (a' := (tt3_a2 t n c g g1 g3)) (.pointer (some ⟨g3, 0, none⟩)) (Eq.trans (b := (do pure (Next.value (← Instr.box 25 (.agg #[.int .i64 n, .int .i64 c, .int .i64 g]))) : Sem Next).run Try.prog W2) (by kernel_rfl) (st_val hr)) ?_
    obtain ⟨g5, W6, hr, hW, hbb, hge⟩ := hW.mk1 (P := Try.prog) (s := Instr.alloc 32 true (.tuple #[])) tt3_c1 32 (by kernel_rfl)
    refine se (a' := (tt3_a4 t n c g g1 g3 g5)) (.pointer (some ⟨g5, 0, none⟩)) (Eq.trans (b := (do pure (Next.value (← Instr.alloc 32 true (.tuple #[]))) : Sem Next).run Try.prog W4) (by kernel_rfl) (st_val hr)) ?_
    refine wpList_nil ?_
    refine wp_seq ?_
    refine wp_region_list ?_
    refine se (a' := (tt3_a5 t n c g g1 g3 g5)) (.agg (tt3_c0 t)) (evA hW 2 0 Try.underlying32) ?_
    have hK7_g5 : g5 < W6.heap.size := blk_lt (hW.blk 0 _ _ _ rfl).1
    have hK7_g3 : g3 < W6.heap.size := blk_lt (hW.blk 1 _ _ _ rfl).1
    have hK7_g1 : g1 < W6.heap.size := blk_lt (hW.blk 2 _ _ _ rfl).1
    have hK7_le : w.heap.size ≤ W6.heap.size := hW.below.size
    refine st_call (th_Clone (t := (⟨t.pc, t.fu, t.st, t.R, t.kd, t.mi, t.mn, t.sv, t.bv, t.nv, t.old⟩ : Th)) (xs := xs) (bs := bs) (ns := ns) ⟨h.s.below hW.below, h.b.below hW.below, h.n.below hW.below⟩ hl) (by kernel_rfl) (by kernel_rfl) ?_
    rintro _ W7 ⟨As7, cs7, Ab7, cb7, An7, cn7, rfl, hO7, hB⟩
    have hW := hW.step hB
    have hK7 := KeepUp.refl W6.heap.size W7
    obtain ⟨r7, e7⟩ : ∃ r : Rw, r = ⟨.slice As7 xs.length cs7, .slice Ab7 bs.length cb7, .slice An7 ns.length cn7⟩ := ⟨_, rfl⟩
    refine ⟨_, (tt3_a7 t n c g g1 g3 g5 r7), rfl, by (try subst e7); kernel_rfl, ?_⟩
    obtain ⟨W8, hr, hW, hF⟩ := hW.storeN (P := Try.prog) (o := 0) (cs' := (tt3_c2 t r7)) (L' := [(g5, 32, tt3_c1), (g3, 25, #[.int .i64 n, .int .i64 c, .int .i64 g]), (g1, 32, (tt3_c2 t r7))]) 2 rfl (tt3_c2 t r7) (by (try subst e7); kernel_rfl) (Nat.le_of_ble_eq_true rfl) (by kernel_rfl) rfl 32 (by kernel_rfl)
    have hK7 := hK7.store hF (.inl hK7_g1)
    refine st_none (w' := W8) (a' := (tt3_a7 t n c g g1 g3 g5 r7)) (by kernel_rfl) (Eq.trans (b := (do Instr.storeAt 32 (.pointer (some ⟨g1, 0, none⟩)) (.agg (tt3_c2 t r7)); pure Next.skip : Sem Next).run Try.prog W7) (by kernel_rfl) (st_unit hr)) (by kernel_rfl) ?_
    refine wpList_nil ?_
    refine wp_seq ?_
    refine wp_seq ?_
    refine wp_region_list ?_
    refine sk (a' := (tt3_a8 t n c g g1 g3 g5 r7)) (.int .i64 3) ?_
    refine st_call (in_calls 3 0 3 true (decide_eq_true (by omega)) W8) (by kernel_rfl) (by kernel_rfl) ?_
    rintro _ W9 ⟨rfl, hB⟩
    have hW := hW.step hB
    have hK7 := hK7.below hB
    refine ⟨_, (tt3_a9 t n c g g1 g3 g5 r7), rfl, by (try subst e7); kernel_rfl, ?_⟩
    refine wpList_nil ?_
    refine wp_cond (t := true) (by kernel_rfl) ?_
    refine wp_region_list ?_
    refine sk (a' := (tt3_a10 t n c g g1 g3 g5 r7)) (.int .i64 3) ?_
    refine se (a' := (tt3_a11 t n c g g1 g3 g5 r7)) (.agg #[.int .i64 n, .int .i64 c, .int .i64 g]) (evA hW 1 0 Try.underlying25) ?_
    refine sk (a' := (tt3_a12 t n c g g1 g3 g5 r7)) (.pointer (some ⟨g1, 3, none⟩)) ?_
    refine sk (a' := (tt3_a13 t n c g g1 g3 g5 r7)) (.pointer (some ⟨g1, 12, none⟩)) ?_
    obtain ⟨W10, hr, hW, hF⟩ := hW.storeN (P := Try.prog) (o := 12) (cs' := (tt3_c3 t n c g r7)) (L' := [(g5, 32, tt3_c1), (g3, 25, #[.int .i64 n, .int .i64 c, .int .i64 g]), (g1, 32, (tt3_c3 t n c g r7))]) 2 rfl #[.int .i64 n, .int .i64 c, .int .i64 g] (by (try subst e7); kernel_rfl) (Nat.le_of_ble_eq_true rfl) (by kernel_rfl) rfl 25 (by kernel_rfl)
    have hK7 := hK7.store hF (.inl hK7_g1)
    refine st_none (w' := W10) (a' := (tt3_a13 t n c g g1 g3 g5 r7)) (by kernel_rfl) (Eq.trans (b := (do Instr.storeAt 25 (.pointer (some ⟨g1, 12, none⟩)) (.agg #[.int .i64 n, .int .i64 c, .int .i64 g]); pure Next.skip : Sem Next).run Try.prog W9) (by kernel_rfl) (st_unit hr)) (by kernel_rfl) ?_
    refine wpList_nil ?_
    refine wp_seq ?_
    refine wp_region_list ?_
    refine se (a' := (tt3_a15 t n c g g1 g3 g5 r7)) (.agg (tt3_c3 t n c g r7)) (evA hW 2 0 Try.underlying32) ?_
    obtain ⟨W11, hr, hW, hF⟩ := hW.storeN (P := Try.prog) (o := 0) (cs' := (tt3_c3 t n c g r7)) (L' := [(g5, 32, (tt3_c3 t n c g r7)), (g3, 25, #[.int .i64 n, .int .i64 c, .int .i64 g]), (g1, 32, (tt3_c3 t n c g r7))]) 0 rfl (tt3_c3 t n c g r7) (by (try subst e7); kernel_rfl) (Nat.le_of_ble_eq_true rfl) (by kernel_rfl) rfl 32 (by kernel_rfl)
    have hK7 := hK7.store hF (.inl hK7_g5)
    refine st_none (w' := W11) (a' := (tt3_a15 t n c g g1 g3 g5 r7)) (by kernel_rfl) (Eq.trans (b := (do Instr.storeAt 32 (.pointer (some ⟨g5, 0, none⟩)) (.agg (tt3_c3 t n c g r7)); pure Next.skip : Sem Next).run Try.prog W10) (by kernel_rfl) (st_unit hr)) (by kernel_rfl) ?_
    refine wpList_nil ?_
    refine wp_ret ?_
    (try simp only [Exit.then, Exit.inBlock])
    change bodyPost Try.prog Try.f17 _ .ret _ _
    refine bodyPost_ret (results_single rfl (.cell g5 32 _ (0, 0) _ (by kernel_rfl) (hW.blk 0 _ _ _ rfl).1 Try.underlying32 rfl (by kernel_rfl) .nil)) rfl ?_
    subst e7
    refine ⟨As7, cs7, Ab7, cb7, An7, cn7, ?_, ⟨Kd.R_lower (hK7.R hO7.s) hK7_le, Kd.R_lower (hK7.R hO7.b) hK7_le, Kd.R_lower (hK7.R hO7.n) hK7_le⟩, hW.below⟩
    kernel_rfl
def tb_a0 (c0 : Int) (c1 : Int) (c2 : Int) (c3 : Int) (c4 : Int) (g1 : Nat) : Act := ⟨#[.agg #[.int .i64 c0, .int .i64 c1, .int .i64 c2, .int .i64 c3, .int .i64 c4], .pointer (some ⟨g1, 0, none⟩), zz, zz, zz, zz, zz], []⟩
def tb_c0 : Array Value := #[.int .i64 0, .int .i64 0, .int .i64 0, .int .i64 0, .int .i64 0, .int .i64 0, .int .i64 0, .int .i64 0, .int .i64 0, .int .i64 0, .int .i64 0, .int .i64 0, .int .i64 0, .int .i64 0, .int .i64 0, .int .i64 0, .int .i64 0, .int .i64 0, .slice none 0 0, .slice none 0 0, .slice none 0 0, .int .i64 0]
def tb_a2 (c0 : Int) (c1 : Int) (c2 : Int) (c3 : Int) (c4 : Int) (g1 : Nat) (g3 : Nat) : Act := ⟨#[.agg #[.int .i64 c0, .int .i64 c1, .int .i64 c2, .int .i64 c3, .int .i64 c4], .pointer (some ⟨g1, 0, none⟩), .pointer (some ⟨g3, 0, none⟩), zz, zz, zz, zz], []⟩
def tb_a3 (c0 : Int) (c1 : Int) (c2 : Int) (c3 : Int) (c4 : Int) (g1 : Nat) (g3 : Nat) : Act := ⟨#[.agg #[.int .i64 c0, .int .i64 c1, .int .i64 c2, .int .i64 c3, .int .i64 c4], .pointer (some ⟨g1, 0, none⟩), .pointer (some ⟨g3, 0, none⟩), .pointer (some ⟨g1, 3, none⟩), zz, zz, zz], []⟩
def tb_a4 (c0 : Int) (c1 : Int) (c2 : Int) (c3 : Int) (c4 : Int) (g1 : Nat) (g3 : Nat) : Act := ⟨#[.agg #[.int .i64 c0, .int .i64 c1, .int .i64 c2, .int .i64 c3, .int .i64 c4], .pointer (some ⟨g1, 0, none⟩), .pointer (some ⟨g3, 0, none⟩), .pointer (some ⟨g1, 3, none⟩), .int .i64 c3, zz, zz], []⟩
def tb_a5 (c0 : Int) (c1 : Int) (c2 : Int) (c3 : Int) (c4 : Int) (g1 : Nat) (g3 : Nat) : Act := ⟨#[.agg #[.int .i64 c0, .int .i64 c1, .int .i64 c2, .int .i64 c3, .int .i64 c4], .pointer (some ⟨g1, 0, none⟩), .pointer (some ⟨g3, 0, none⟩), .pointer (some ⟨g1, 3, none⟩), .int .i64 c3, .int .i64 (clampF c3), zz], []⟩
def tb_c1 (c3 : Int) : Array Value := #[.int .i64 0, .int .i64 (clampF c3), .int .i64 0, .int .i64 0, .int .i64 0, .int .i64 0, .int .i64 0, .int .i64 0, .int .i64 0, .int .i64 0, .int .i64 0, .int .i64 0, .int .i64 0, .int .i64 0, .int .i64 0, .int .i64 0, .int .i64 0, .int .i64 0, .slice none 0 0, .slice none 0 0, .slice none 0 0, .int .i64 0]
def tb_a7 (c0 : Int) (c1 : Int) (c2 : Int) (c3 : Int) (c4 : Int) (g1 : Nat) (g3 : Nat) : Act := ⟨#[.agg #[.int .i64 c0, .int .i64 c1, .int .i64 c2, .int .i64 c3, .int .i64 c4], .pointer (some ⟨g1, 0, none⟩), .pointer (some ⟨g3, 0, none⟩), .pointer (some ⟨g1, 3, none⟩), .int .i64 c3, .int .i64 (clampF c3), .agg (tb_c1 c3)], []⟩
set_option maxHeartbeats 8000000 in
set_option maxRecDepth 100000 in
theorem th_Begin (c0 c1 c2 c3 c4 : Int) (w : World) : Calls Try.prog 13 #[.agg #[.int .i64 c0, .int .i64 c1, .int .i64 c2, .int .i64 c3, .int .i64 c4]] w fun e w' => e = .returned (.agg (th0 (clampF c3)).cells) ∧ Below w.heap.size w w' := by
  refine calls_of_wp Try.func13 rfl ?_
  have hW := Ws.nil w
  refine wp_seq ?_
  refine wp_region_list ?_
  obtain ⟨g1, W2, hr, hW, hbb, hge⟩ := hW.mk1 (P := Try.prog) (s := Instr.box 23 (.agg #[.int .i64 c0, .int .i64 c1, .int .i64 c2, .int .i64 c3, .int .i64 c4])) #[.int .i64 c0, .int .i64 c1, .int .i64 c2, .int .i64 c3, .int .i64 c4] 23 (by kernel_rfl)
  refine se (a' := (tb_a0 c0 c1 c2 c3 c4 g1)) (.pointer (some ⟨g1, 0, none⟩)) (Eq.trans (b := (do pure (Next.value (← Instr.box 23 (.agg #[.int .i64 c0, .int .i64 c1, .int .i64 c2, .int .i64 c3, .int .i64 c4]))) : Sem Next).run Try.prog w) (by kernel_rfl) (st_val hr)) ?_
  obtain ⟨g3, W4, hr, hW, hbb, hge⟩ := hW.mk1 (P := Try.prog) (s := Instr.alloc 32 true (.tuple #[])) tb_c0 32 (by kernel_rfl)
  refine se (a' := (tb_a2 c0 c1 c2 c3 c4 g1 g3)) (.pointer (some ⟨g3, 0, none⟩)) (Eq.trans (b := (do pure (Next.value (← Instr.alloc 32 true (.tuple #[]))) : Sem Next).run Try.prog W2) (by kernel_rfl) (st_val hr)) ?_
  refine wpList_nil ?_
  refine wp_seq ?_
  refine wp_region_list ?_
  refine sk (a' := (tb_a3 c0 c1 c2 c3 c4 g1 g3)) (.pointer (some ⟨g1, 3, none⟩)) ?_
  refine se (a' := (tb_a4 c0 c1 c2 c3 c4 g1 g3)) (.int .i64 c3) (ev1 hW 1 3 Try.underlying3) ?_
  refine st_call (clamp_is c3 W4) (by kernel_rfl) (by kernel_rfl) ?_
  rintro _ W5 ⟨rfl, hB⟩
  have hW := hW.step hB
  refine ⟨_, (tb_a5 c0 c1 c2 c3 c4 g1 g3), rfl, by kernel_rfl, ?_⟩
  refine sk (a' := (tb_a7 c0 c1 c2 c3 c4 g1 g3)) (.agg (tb_c1 c3)) ?_
  obtain ⟨W6, hr, hW, hF⟩ := hW.storeN (P := Try.prog) (o := 0) (cs' := (tb_c1 c3)) (L' := [(g3, 32, (tb_c1 c3)), (g1, 23, #[.int .i64 c0, .int .i64 c1, .int .i64 c2, .int .i64 c3, .int .i64 c4])]) 0 rfl (tb_c1 c3) (by kernel_rfl) (Nat.le_of_ble_eq_true rfl) (by kernel_rfl) rfl 32 (by kernel_rfl)
  refine st_none (w' := W6) (a' := (tb_a7 c0 c1 c2 c3 c4 g1 g3)) (by kernel_rfl) (Eq.trans (b := (do Instr.storeAt 32 (.pointer (some ⟨g3, 0, none⟩)) (.agg (tb_c1 c3)); pure Next.skip : Sem Next).run Try.prog W5) (by kernel_rfl) (st_unit hr)) (by kernel_rfl) ?_
  refine wpList_nil ?_
  refine wp_ret ?_
  (try simp only [Exit.then, Exit.inBlock])
  change bodyPost Try.prog Try.f13 _ .ret _ _
  refine bodyPost_ret (results_single rfl (.cell g3 32 _ (0, 0) _ (by kernel_rfl) (hW.blk 0 _ _ _ rfl).1 Try.underlying32 rfl (by kernel_rfl) .nil)) rfl ?_
  exact ⟨rfl, hW.below⟩
def td0_c0 (t : Th) : Array Value := #[.int .i64 t.pc, .int .i64 t.fu, .int .i64 t.st, .int .i64 (t.R 0), .int .i64 (t.R 1), .int .i64 (t.R 2), .int .i64 (t.R 3), .int .i64 (t.R 4), .int .i64 (t.R 5), .int .i64 (t.R 6), .int .i64 (t.R 7), .int .i64 (t.R 8), .int .i64 (t.R 9), .int .i64 (t.R 10), .int .i64 (t.R 11), .int .i64 t.kd, .int .i64 t.mi, .int .i64 t.mn, t.sv, t.bv, t.nv, .int .i64 t.old]
def td0_a1 (t : Th) (A : Option Addr) (n : Nat) (c : Nat) (g1 : Nat) : Act := ⟨#[.agg (td0_c0 t), .slice A n c, .pointer (some ⟨g1, 0, none⟩), zz, zz, zz, zz, zz, zz, zz, zz, zz, zz, zz, zz, zz, zz, zz, zz, zz, zz, zz, zz, zz, zz, zz], []⟩
def td0_a2 (t : Th) (A : Option Addr) (n : Nat) (c : Nat) (g1 : Nat) : Act := ⟨#[.agg (td0_c0 t), .slice A n c, .pointer (some ⟨g1, 0, none⟩), zz, .bool false, zz, zz, zz, zz, zz, zz, zz, zz, zz, zz, zz, zz, zz, zz, zz, zz, zz, zz, zz, zz, zz], []⟩
def td0_a3 (t : Th) (A : Option Addr) (n : Nat) (c : Nat) (g1 : Nat) : Act := ⟨#[.agg (td0_c0 t), .slice A n c, .pointer (some ⟨g1, 0, none⟩), zz, .bool false, .pointer (some ⟨g1, 2, none⟩), zz, zz, zz, zz, zz, zz, zz, zz, zz, zz, zz, zz, zz, zz, zz, zz, zz, zz, zz, zz], []⟩
def td0_a4 (t : Th) (A : Option Addr) (n : Nat) (c : Nat) (g1 : Nat) : Act := ⟨#[.agg (td0_c0 t), .slice A n c, .pointer (some ⟨g1, 0, none⟩), zz, .bool false, .pointer (some ⟨g1, 2, none⟩), .int .i64 t.st, zz, zz, zz, zz, zz, zz, zz, zz, zz, zz, zz, zz, zz, zz, zz, zz, zz, zz, zz], []⟩
def td0_a5 (t : Th) (A : Option Addr) (n : Nat) (c : Nat) (g1 : Nat) : Act := ⟨#[.agg (td0_c0 t), .slice A n c, .pointer (some ⟨g1, 0, none⟩), zz, .bool false, .pointer (some ⟨g1, 2, none⟩), .int .i64 t.st, .bool true, zz, zz, zz, zz, zz, zz, zz, zz, zz, zz, zz, zz, zz, zz, zz, zz, zz, zz], []⟩
def td0_a6 (t : Th) (A : Option Addr) (n : Nat) (c : Nat) (g1 : Nat) : Act := ⟨#[.agg (td0_c0 t), .slice A n c, .pointer (some ⟨g1, 0, none⟩), zz, .bool true, .pointer (some ⟨g1, 2, none⟩), .int .i64 t.st, .bool true, zz, zz, zz, zz, zz, zz, zz, zz, zz, zz, zz, zz, zz, zz, zz, zz, zz, zz], []⟩
def td1_c0 (t : Th) : Array Value := #[.int .i64 t.pc, .int .i64 t.fu, .int .i64 t.st, .int .i64 (t.R 0), .int .i64 (t.R 1), .int .i64 (t.R 2), .int .i64 (t.R 3), .int .i64 (t.R 4), .int .i64 (t.R 5), .int .i64 (t.R 6), .int .i64 (t.R 7), .int .i64 (t.R 8), .int .i64 (t.R 9), .int .i64 (t.R 10), .int .i64 (t.R 11), .int .i64 t.kd, .int .i64 t.mi, .int .i64 t.mn, t.sv, t.bv, t.nv, .int .i64 t.old]
def td1_a1 (t : Th) (A : Option Addr) (n : Nat) (c : Nat) (g1 : Nat) : Act := ⟨#[.agg (td1_c0 t), .slice A n c, .pointer (some ⟨g1, 0, none⟩), zz, zz, zz, zz, zz, zz, zz, zz, zz, zz, zz, zz, zz, zz, zz, zz, zz, zz, zz, zz, zz, zz, zz], []⟩
def td1_a2 (t : Th) (A : Option Addr) (n : Nat) (c : Nat) (g1 : Nat) : Act := ⟨#[.agg (td1_c0 t), .slice A n c, .pointer (some ⟨g1, 0, none⟩), zz, .bool false, zz, zz, zz, zz, zz, zz, zz, zz, zz, zz, zz, zz, zz, zz, zz, zz, zz, zz, zz, zz, zz], []⟩
def td1_a3 (t : Th) (A : Option Addr) (n : Nat) (c : Nat) (g1 : Nat) : Act := ⟨#[.agg (td1_c0 t), .slice A n c, .pointer (some ⟨g1, 0, none⟩), zz, .bool false, .pointer (some ⟨g1, 2, none⟩), zz, zz, zz, zz, zz, zz, zz, zz, zz, zz, zz, zz, zz, zz, zz, zz, zz, zz, zz, zz], []⟩
def td1_a4 (t : Th) (A : Option Addr) (n : Nat) (c : Nat) (g1 : Nat) : Act := ⟨#[.agg (td1_c0 t), .slice A n c, .pointer (some ⟨g1, 0, none⟩), zz, .bool false, .pointer (some ⟨g1, 2, none⟩), .int .i64 t.st, zz, zz, zz, zz, zz, zz, zz, zz, zz, zz, zz, zz, zz, zz, zz, zz, zz, zz, zz], []⟩
def td1_a5 (t : Th) (A : Option Addr) (n : Nat) (c : Nat) (g1 : Nat) : Act := ⟨#[.agg (td1_c0 t), .slice A n c, .pointer (some ⟨g1, 0, none⟩), zz, .bool false, .pointer (some ⟨g1, 2, none⟩), .int .i64 t.st, .bool false, zz, zz, zz, zz, zz, zz, zz, zz, zz, zz, zz, zz, zz, zz, zz, zz, zz, zz], []⟩
def td1_a6 (t : Th) (A : Option Addr) (n : Nat) (c : Nat) (g1 : Nat) : Act := ⟨#[.agg (td1_c0 t), .slice A n c, .pointer (some ⟨g1, 0, none⟩), zz, .bool false, .pointer (some ⟨g1, 2, none⟩), .int .i64 t.st, .bool false, .pointer (some ⟨g1, 15, none⟩), zz, zz, zz, zz, zz, zz, zz, zz, zz, zz, zz, zz, zz, zz, zz, zz, zz], []⟩
def td1_a7 (t : Th) (A : Option Addr) (n : Nat) (c : Nat) (g1 : Nat) : Act := ⟨#[.agg (td1_c0 t), .slice A n c, .pointer (some ⟨g1, 0, none⟩), zz, .bool false, .pointer (some ⟨g1, 2, none⟩), .int .i64 t.st, .bool false, .pointer (some ⟨g1, 15, none⟩), .pointer (some ⟨g1, 15, none⟩), zz, zz, zz, zz, zz, zz, zz, zz, zz, zz, zz, zz, zz, zz, zz, zz], []⟩
def td1_a8 (t : Th) (A : Option Addr) (n : Nat) (c : Nat) (g1 : Nat) : Act := ⟨#[.agg (td1_c0 t), .slice A n c, .pointer (some ⟨g1, 0, none⟩), zz, .bool false, .pointer (some ⟨g1, 2, none⟩), .int .i64 t.st, .bool false, .pointer (some ⟨g1, 15, none⟩), .pointer (some ⟨g1, 15, none⟩), .int .i64 t.kd, zz, zz, zz, zz, zz, zz, zz, zz, zz, zz, zz, zz, zz, zz, zz], []⟩
def td1_a9 (t : Th) (A : Option Addr) (n : Nat) (c : Nat) (g1 : Nat) : Act := ⟨#[.agg (td1_c0 t), .slice A n c, .pointer (some ⟨g1, 0, none⟩), zz, .bool false, .pointer (some ⟨g1, 2, none⟩), .int .i64 t.st, .bool false, .pointer (some ⟨g1, 15, none⟩), .pointer (some ⟨g1, 15, none⟩), .int .i64 t.kd, .bool false, zz, zz, zz, zz, zz, zz, zz, zz, zz, zz, zz, zz, zz, zz], []⟩
def td1_a10 (t : Th) (A : Option Addr) (n : Nat) (c : Nat) (g1 : Nat) : Act := ⟨#[.agg (td1_c0 t), .slice A n c, .pointer (some ⟨g1, 0, none⟩), zz, .bool false, .pointer (some ⟨g1, 2, none⟩), .int .i64 t.st, .bool false, .pointer (some ⟨g1, 15, none⟩), .pointer (some ⟨g1, 15, none⟩), .int .i64 t.kd, .bool false, .bool false, zz, zz, zz, zz, zz, zz, zz, zz, zz, zz, zz, zz, zz], []⟩
def td1_a11 (t : Th) (A : Option Addr) (n : Nat) (c : Nat) (g1 : Nat) : Act := ⟨#[.agg (td1_c0 t), .slice A n c, .pointer (some ⟨g1, 0, none⟩), zz, .bool false, .pointer (some ⟨g1, 2, none⟩), .int .i64 t.st, .bool false, .pointer (some ⟨g1, 15, none⟩), .pointer (some ⟨g1, 15, none⟩), .int .i64 t.kd, .bool false, .bool false, zz, zz, zz, zz, zz, zz, zz, zz, zz, zz, zz, zz, .bool false], []⟩
def td2_c0 (t : Th) : Array Value := #[.int .i64 t.pc, .int .i64 t.fu, .int .i64 t.st, .int .i64 (t.R 0), .int .i64 (t.R 1), .int .i64 (t.R 2), .int .i64 (t.R 3), .int .i64 (t.R 4), .int .i64 (t.R 5), .int .i64 (t.R 6), .int .i64 (t.R 7), .int .i64 (t.R 8), .int .i64 (t.R 9), .int .i64 (t.R 10), .int .i64 (t.R 11), .int .i64 t.kd, .int .i64 t.mi, .int .i64 t.mn, t.sv, t.bv, t.nv, .int .i64 t.old]
def td2_a1 (t : Th) (A : Option Addr) (n : Nat) (c : Nat) (g1 : Nat) : Act := ⟨#[.agg (td2_c0 t), .slice A n c, .pointer (some ⟨g1, 0, none⟩), zz, zz, zz, zz, zz, zz, zz, zz, zz, zz, zz, zz, zz, zz, zz, zz, zz, zz, zz, zz, zz, zz, zz], []⟩
def td2_a2 (t : Th) (A : Option Addr) (n : Nat) (c : Nat) (g1 : Nat) : Act := ⟨#[.agg (td2_c0 t), .slice A n c, .pointer (some ⟨g1, 0, none⟩), zz, .bool false, zz, zz, zz, zz, zz, zz, zz, zz, zz, zz, zz, zz, zz, zz, zz, zz, zz, zz, zz, zz, zz], []⟩
def td2_a3 (t : Th) (A : Option Addr) (n : Nat) (c : Nat) (g1 : Nat) : Act := ⟨#[.agg (td2_c0 t), .slice A n c, .pointer (some ⟨g1, 0, none⟩), zz, .bool false, .pointer (some ⟨g1, 2, none⟩), zz, zz, zz, zz, zz, zz, zz, zz, zz, zz, zz, zz, zz, zz, zz, zz, zz, zz, zz, zz], []⟩
def td2_a4 (t : Th) (A : Option Addr) (n : Nat) (c : Nat) (g1 : Nat) : Act := ⟨#[.agg (td2_c0 t), .slice A n c, .pointer (some ⟨g1, 0, none⟩), zz, .bool false, .pointer (some ⟨g1, 2, none⟩), .int .i64 t.st, zz, zz, zz, zz, zz, zz, zz, zz, zz, zz, zz, zz, zz, zz, zz, zz, zz, zz, zz], []⟩
def td2_a5 (t : Th) (A : Option Addr) (n : Nat) (c : Nat) (g1 : Nat) : Act := ⟨#[.agg (td2_c0 t), .slice A n c, .pointer (some ⟨g1, 0, none⟩), zz, .bool false, .pointer (some ⟨g1, 2, none⟩), .int .i64 t.st, .bool false, zz, zz, zz, zz, zz, zz, zz, zz, zz, zz, zz, zz, zz, zz, zz, zz, zz, zz], []⟩
def td2_a6 (t : Th) (A : Option Addr) (n : Nat) (c : Nat) (g1 : Nat) : Act := ⟨#[.agg (td2_c0 t), .slice A n c, .pointer (some ⟨g1, 0, none⟩), zz, .bool false, .pointer (some ⟨g1, 2, none⟩), .int .i64 t.st, .bool false, .pointer (some ⟨g1, 15, none⟩), zz, zz, zz, zz, zz, zz, zz, zz, zz, zz, zz, zz, zz, zz, zz, zz, zz], []⟩
def td2_a7 (t : Th) (A : Option Addr) (n : Nat) (c : Nat) (g1 : Nat) : Act := ⟨#[.agg (td2_c0 t), .slice A n c, .pointer (some ⟨g1, 0, none⟩), zz, .bool false, .pointer (some ⟨g1, 2, none⟩), .int .i64 t.st, .bool false, .pointer (some ⟨g1, 15, none⟩), .pointer (some ⟨g1, 15, none⟩), zz, zz, zz, zz, zz, zz, zz, zz, zz, zz, zz, zz, zz, zz, zz, zz], []⟩
def td2_a8 (t : Th) (A : Option Addr) (n : Nat) (c : Nat) (g1 : Nat) : Act := ⟨#[.agg (td2_c0 t), .slice A n c, .pointer (some ⟨g1, 0, none⟩), zz, .bool false, .pointer (some ⟨g1, 2, none⟩), .int .i64 t.st, .bool false, .pointer (some ⟨g1, 15, none⟩), .pointer (some ⟨g1, 15, none⟩), .int .i64 t.kd, zz, zz, zz, zz, zz, zz, zz, zz, zz, zz, zz, zz, zz, zz, zz], []⟩
def td2_a9 (t : Th) (A : Option Addr) (n : Nat) (c : Nat) (g1 : Nat) : Act := ⟨#[.agg (td2_c0 t), .slice A n c, .pointer (some ⟨g1, 0, none⟩), zz, .bool false, .pointer (some ⟨g1, 2, none⟩), .int .i64 t.st, .bool false, .pointer (some ⟨g1, 15, none⟩), .pointer (some ⟨g1, 15, none⟩), .int .i64 t.kd, .bool true, zz, zz, zz, zz, zz, zz, zz, zz, zz, zz, zz, zz, zz, zz], []⟩
def td2_a10 (t : Th) (A : Option Addr) (n : Nat) (c : Nat) (g1 : Nat) : Act := ⟨#[.agg (td2_c0 t), .slice A n c, .pointer (some ⟨g1, 0, none⟩), zz, .bool false, .pointer (some ⟨g1, 2, none⟩), .int .i64 t.st, .bool false, .pointer (some ⟨g1, 15, none⟩), .pointer (some ⟨g1, 15, none⟩), .int .i64 t.kd, .bool true, .bool true, zz, zz, zz, zz, zz, zz, zz, zz, zz, zz, zz, zz, zz], []⟩
def td2_a11 (t : Th) (A : Option Addr) (n : Nat) (c : Nat) (g1 : Nat) : Act := ⟨#[.agg (td2_c0 t), .slice A n c, .pointer (some ⟨g1, 0, none⟩), zz, .bool false, .pointer (some ⟨g1, 2, none⟩), .int .i64 t.st, .bool false, .pointer (some ⟨g1, 15, none⟩), .pointer (some ⟨g1, 15, none⟩), .int .i64 t.kd, .bool true, .bool true, .pointer (some ⟨g1, 1, none⟩), zz, zz, zz, zz, zz, zz, zz, zz, zz, zz, zz, zz], []⟩
def td2_a12 (t : Th) (A : Option Addr) (n : Nat) (c : Nat) (g1 : Nat) : Act := ⟨#[.agg (td2_c0 t), .slice A n c, .pointer (some ⟨g1, 0, none⟩), zz, .bool false, .pointer (some ⟨g1, 2, none⟩), .int .i64 t.st, .bool false, .pointer (some ⟨g1, 15, none⟩), .pointer (some ⟨g1, 15, none⟩), .int .i64 t.kd, .bool true, .bool true, .pointer (some ⟨g1, 1, none⟩), .int .i64 t.fu, zz, zz, zz, zz, zz, zz, zz, zz, zz, zz, zz], []⟩
def td2_a13 (t : Th) (A : Option Addr) (n : Nat) (c : Nat) (g1 : Nat) : Act := ⟨#[.agg (td2_c0 t), .slice A n c, .pointer (some ⟨g1, 0, none⟩), zz, .bool false, .pointer (some ⟨g1, 2, none⟩), .int .i64 t.st, .bool false, .pointer (some ⟨g1, 15, none⟩), .pointer (some ⟨g1, 15, none⟩), .int .i64 t.kd, .bool true, .bool true, .pointer (some ⟨g1, 1, none⟩), .int .i64 t.fu, .bool true, zz, zz, zz, zz, zz, zz, zz, zz, zz, zz], []⟩
def td2_a14 (t : Th) (A : Option Addr) (n : Nat) (c : Nat) (g1 : Nat) : Act := ⟨#[.agg (td2_c0 t), .slice A n c, .pointer (some ⟨g1, 0, none⟩), zz, .bool false, .pointer (some ⟨g1, 2, none⟩), .int .i64 t.st, .bool false, .pointer (some ⟨g1, 15, none⟩), .pointer (some ⟨g1, 15, none⟩), .int .i64 t.kd, .bool true, .bool true, .pointer (some ⟨g1, 1, none⟩), .int .i64 t.fu, .bool true, .bool true, zz, zz, zz, zz, zz, zz, zz, zz, zz], []⟩
def td2_a15 (t : Th) (A : Option Addr) (n : Nat) (c : Nat) (g1 : Nat) : Act := ⟨#[.agg (td2_c0 t), .slice A n c, .pointer (some ⟨g1, 0, none⟩), zz, .bool false, .pointer (some ⟨g1, 2, none⟩), .int .i64 t.st, .bool false, .pointer (some ⟨g1, 15, none⟩), .pointer (some ⟨g1, 15, none⟩), .int .i64 t.kd, .bool true, .bool true, .pointer (some ⟨g1, 1, none⟩), .int .i64 t.fu, .bool true, .bool true, zz, zz, zz, zz, zz, zz, zz, .bool true, zz], []⟩
def td2_a16 (t : Th) (A : Option Addr) (n : Nat) (c : Nat) (g1 : Nat) : Act := ⟨#[.agg (td2_c0 t), .slice A n c, .pointer (some ⟨g1, 0, none⟩), zz, .bool false, .pointer (some ⟨g1, 2, none⟩), .int .i64 t.st, .bool false, .pointer (some ⟨g1, 15, none⟩), .pointer (some ⟨g1, 15, none⟩), .int .i64 t.kd, .bool true, .bool true, .pointer (some ⟨g1, 1, none⟩), .int .i64 t.fu, .bool true, .bool true, zz, zz, zz, zz, zz, zz, zz, .bool true, .bool true], []⟩
def td2_a17 (t : Th) (A : Option Addr) (n : Nat) (c : Nat) (g1 : Nat) : Act := ⟨#[.agg (td2_c0 t), .slice A n c, .pointer (some ⟨g1, 0, none⟩), zz, .bool true, .pointer (some ⟨g1, 2, none⟩), .int .i64 t.st, .bool false, .pointer (some ⟨g1, 15, none⟩), .pointer (some ⟨g1, 15, none⟩), .int .i64 t.kd, .bool true, .bool true, .pointer (some ⟨g1, 1, none⟩), .int .i64 t.fu, .bool true, .bool true, zz, zz, zz, zz, zz, zz, zz, .bool true, .bool true], []⟩
def td3_c0 (t : Th) : Array Value := #[.int .i64 t.pc, .int .i64 t.fu, .int .i64 t.st, .int .i64 (t.R 0), .int .i64 (t.R 1), .int .i64 (t.R 2), .int .i64 (t.R 3), .int .i64 (t.R 4), .int .i64 (t.R 5), .int .i64 (t.R 6), .int .i64 (t.R 7), .int .i64 (t.R 8), .int .i64 (t.R 9), .int .i64 (t.R 10), .int .i64 (t.R 11), .int .i64 t.kd, .int .i64 t.mi, .int .i64 t.mn, t.sv, t.bv, t.nv, .int .i64 t.old]
def td3_a1 (t : Th) (A : Option Addr) (n : Nat) (c : Nat) (g1 : Nat) : Act := ⟨#[.agg (td3_c0 t), .slice A n c, .pointer (some ⟨g1, 0, none⟩), zz, zz, zz, zz, zz, zz, zz, zz, zz, zz, zz, zz, zz, zz, zz, zz, zz, zz, zz, zz, zz, zz, zz], []⟩
def td3_a2 (t : Th) (A : Option Addr) (n : Nat) (c : Nat) (g1 : Nat) : Act := ⟨#[.agg (td3_c0 t), .slice A n c, .pointer (some ⟨g1, 0, none⟩), zz, .bool false, zz, zz, zz, zz, zz, zz, zz, zz, zz, zz, zz, zz, zz, zz, zz, zz, zz, zz, zz, zz, zz], []⟩
def td3_a3 (t : Th) (A : Option Addr) (n : Nat) (c : Nat) (g1 : Nat) : Act := ⟨#[.agg (td3_c0 t), .slice A n c, .pointer (some ⟨g1, 0, none⟩), zz, .bool false, .pointer (some ⟨g1, 2, none⟩), zz, zz, zz, zz, zz, zz, zz, zz, zz, zz, zz, zz, zz, zz, zz, zz, zz, zz, zz, zz], []⟩
def td3_a4 (t : Th) (A : Option Addr) (n : Nat) (c : Nat) (g1 : Nat) : Act := ⟨#[.agg (td3_c0 t), .slice A n c, .pointer (some ⟨g1, 0, none⟩), zz, .bool false, .pointer (some ⟨g1, 2, none⟩), .int .i64 t.st, zz, zz, zz, zz, zz, zz, zz, zz, zz, zz, zz, zz, zz, zz, zz, zz, zz, zz, zz], []⟩
def td3_a5 (t : Th) (A : Option Addr) (n : Nat) (c : Nat) (g1 : Nat) : Act := ⟨#[.agg (td3_c0 t), .slice A n c, .pointer (some ⟨g1, 0, none⟩), zz, .bool false, .pointer (some ⟨g1, 2, none⟩), .int .i64 t.st, .bool false, zz, zz, zz, zz, zz, zz, zz, zz, zz, zz, zz, zz, zz, zz, zz, zz, zz, zz], []⟩
def td3_a6 (t : Th) (A : Option Addr) (n : Nat) (c : Nat) (g1 : Nat) : Act := ⟨#[.agg (td3_c0 t), .slice A n c, .pointer (some ⟨g1, 0, none⟩), zz, .bool false, .pointer (some ⟨g1, 2, none⟩), .int .i64 t.st, .bool false, .pointer (some ⟨g1, 15, none⟩), zz, zz, zz, zz, zz, zz, zz, zz, zz, zz, zz, zz, zz, zz, zz, zz, zz], []⟩
def td3_a7 (t : Th) (A : Option Addr) (n : Nat) (c : Nat) (g1 : Nat) : Act := ⟨#[.agg (td3_c0 t), .slice A n c, .pointer (some ⟨g1, 0, none⟩), zz, .bool false, .pointer (some ⟨g1, 2, none⟩), .int .i64 t.st, .bool false, .pointer (some ⟨g1, 15, none⟩), .pointer (some ⟨g1, 15, none⟩), zz, zz, zz, zz, zz, zz, zz, zz, zz, zz, zz, zz, zz, zz, zz, zz], []⟩
def td3_a8 (t : Th) (A : Option Addr) (n : Nat) (c : Nat) (g1 : Nat) : Act := ⟨#[.agg (td3_c0 t), .slice A n c, .pointer (some ⟨g1, 0, none⟩), zz, .bool false, .pointer (some ⟨g1, 2, none⟩), .int .i64 t.st, .bool false, .pointer (some ⟨g1, 15, none⟩), .pointer (some ⟨g1, 15, none⟩), .int .i64 t.kd, zz, zz, zz, zz, zz, zz, zz, zz, zz, zz, zz, zz, zz, zz, zz], []⟩
def td3_a9 (t : Th) (A : Option Addr) (n : Nat) (c : Nat) (g1 : Nat) : Act := ⟨#[.agg (td3_c0 t), .slice A n c, .pointer (some ⟨g1, 0, none⟩), zz, .bool false, .pointer (some ⟨g1, 2, none⟩), .int .i64 t.st, .bool false, .pointer (some ⟨g1, 15, none⟩), .pointer (some ⟨g1, 15, none⟩), .int .i64 t.kd, .bool true, zz, zz, zz, zz, zz, zz, zz, zz, zz, zz, zz, zz, zz, zz], []⟩
def td3_a10 (t : Th) (A : Option Addr) (n : Nat) (c : Nat) (g1 : Nat) : Act := ⟨#[.agg (td3_c0 t), .slice A n c, .pointer (some ⟨g1, 0, none⟩), zz, .bool false, .pointer (some ⟨g1, 2, none⟩), .int .i64 t.st, .bool false, .pointer (some ⟨g1, 15, none⟩), .pointer (some ⟨g1, 15, none⟩), .int .i64 t.kd, .bool true, .bool true, zz, zz, zz, zz, zz, zz, zz, zz, zz, zz, zz, zz, zz], []⟩
def td3_a11 (t : Th) (A : Option Addr) (n : Nat) (c : Nat) (g1 : Nat) : Act := ⟨#[.agg (td3_c0 t), .slice A n c, .pointer (some ⟨g1, 0, none⟩), zz, .bool false, .pointer (some ⟨g1, 2, none⟩), .int .i64 t.st, .bool false, .pointer (some ⟨g1, 15, none⟩), .pointer (some ⟨g1, 15, none⟩), .int .i64 t.kd, .bool true, .bool true, .pointer (some ⟨g1, 1, none⟩), zz, zz, zz, zz, zz, zz, zz, zz, zz, zz, zz, zz], []⟩
def td3_a12 (t : Th) (A : Option Addr) (n : Nat) (c : Nat) (g1 : Nat) : Act := ⟨#[.agg (td3_c0 t), .slice A n c, .pointer (some ⟨g1, 0, none⟩), zz, .bool false, .pointer (some ⟨g1, 2, none⟩), .int .i64 t.st, .bool false, .pointer (some ⟨g1, 15, none⟩), .pointer (some ⟨g1, 15, none⟩), .int .i64 t.kd, .bool true, .bool true, .pointer (some ⟨g1, 1, none⟩), .int .i64 t.fu, zz, zz, zz, zz, zz, zz, zz, zz, zz, zz, zz], []⟩
def td3_a13 (t : Th) (A : Option Addr) (n : Nat) (c : Nat) (g1 : Nat) : Act := ⟨#[.agg (td3_c0 t), .slice A n c, .pointer (some ⟨g1, 0, none⟩), zz, .bool false, .pointer (some ⟨g1, 2, none⟩), .int .i64 t.st, .bool false, .pointer (some ⟨g1, 15, none⟩), .pointer (some ⟨g1, 15, none⟩), .int .i64 t.kd, .bool true, .bool true, .pointer (some ⟨g1, 1, none⟩), .int .i64 t.fu, .bool false, zz, zz, zz, zz, zz, zz, zz, zz, zz, zz], []⟩
def td3_a14 (t : Th) (A : Option Addr) (n : Nat) (c : Nat) (g1 : Nat) : Act := ⟨#[.agg (td3_c0 t), .slice A n c, .pointer (some ⟨g1, 0, none⟩), zz, .bool false, .pointer (some ⟨g1, 2, none⟩), .int .i64 t.st, .bool false, .pointer (some ⟨g1, 15, none⟩), .pointer (some ⟨g1, 15, none⟩), .int .i64 t.kd, .bool true, .bool true, .pointer (some ⟨g1, 1, none⟩), .int .i64 t.fu, .bool false, .bool false, zz, zz, zz, zz, zz, zz, zz, zz, zz], []⟩
def td3_a15 (t : Th) (A : Option Addr) (n : Nat) (c : Nat) (g1 : Nat) : Act := ⟨#[.agg (td3_c0 t), .slice A n c, .pointer (some ⟨g1, 0, none⟩), zz, .bool false, .pointer (some ⟨g1, 2, none⟩), .int .i64 t.st, .bool false, .pointer (some ⟨g1, 15, none⟩), .pointer (some ⟨g1, 15, none⟩), .int .i64 t.kd, .bool true, .bool true, .pointer (some ⟨g1, 1, none⟩), .int .i64 t.fu, .bool false, .bool false, .pointer (some ⟨g1, 0, none⟩), zz, zz, zz, zz, zz, zz, zz, zz], []⟩
def td3_a16 (t : Th) (A : Option Addr) (n : Nat) (c : Nat) (g1 : Nat) : Act := ⟨#[.agg (td3_c0 t), .slice A n c, .pointer (some ⟨g1, 0, none⟩), zz, .bool false, .pointer (some ⟨g1, 2, none⟩), .int .i64 t.st, .bool false, .pointer (some ⟨g1, 15, none⟩), .pointer (some ⟨g1, 15, none⟩), .int .i64 t.kd, .bool true, .bool true, .pointer (some ⟨g1, 1, none⟩), .int .i64 t.fu, .bool false, .bool false, .pointer (some ⟨g1, 0, none⟩), .int .i64 t.pc, zz, zz, zz, zz, zz, zz, zz], []⟩
def td3_a17 (t : Th) (A : Option Addr) (n : Nat) (c : Nat) (g1 : Nat) : Act := ⟨#[.agg (td3_c0 t), .slice A n c, .pointer (some ⟨g1, 0, none⟩), zz, .bool false, .pointer (some ⟨g1, 2, none⟩), .int .i64 t.st, .bool false, .pointer (some ⟨g1, 15, none⟩), .pointer (some ⟨g1, 15, none⟩), .int .i64 t.kd, .bool true, .bool true, .pointer (some ⟨g1, 1, none⟩), .int .i64 t.fu, .bool false, .bool false, .pointer (some ⟨g1, 0, none⟩), .int .i64 t.pc, .slice A n c, zz, zz, zz, zz, zz, zz], []⟩
def td3_a18 (t : Th) (A : Option Addr) (n : Nat) (c : Nat) (g1 : Nat) : Act := ⟨#[.agg (td3_c0 t), .slice A n c, .pointer (some ⟨g1, 0, none⟩), zz, .bool false, .pointer (some ⟨g1, 2, none⟩), .int .i64 t.st, .bool false, .pointer (some ⟨g1, 15, none⟩), .pointer (some ⟨g1, 15, none⟩), .int .i64 t.kd, .bool true, .bool true, .pointer (some ⟨g1, 1, none⟩), .int .i64 t.fu, .bool false, .bool false, .pointer (some ⟨g1, 0, none⟩), .int .i64 t.pc, .slice A n c, .int .i64 (n : Int), zz, zz, zz, zz, zz], []⟩
def td3_a19 (t : Th) (A : Option Addr) (n : Nat) (c : Nat) (g1 : Nat) : Act := ⟨#[.agg (td3_c0 t), .slice A n c, .pointer (some ⟨g1, 0, none⟩), zz, .bool false, .pointer (some ⟨g1, 2, none⟩), .int .i64 t.st, .bool false, .pointer (some ⟨g1, 15, none⟩), .pointer (some ⟨g1, 15, none⟩), .int .i64 t.kd, .bool true, .bool true, .pointer (some ⟨g1, 1, none⟩), .int .i64 t.fu, .bool false, .bool false, .pointer (some ⟨g1, 0, none⟩), .int .i64 t.pc, .slice A n c, .int .i64 (n : Int), .int .i64 (IntKind.wrap .i64 ((n : Int) - 1)), zz, zz, zz, zz], []⟩
def td3_a20 (t : Th) (A : Option Addr) (n : Nat) (c : Nat) (g1 : Nat) : Act := ⟨#[.agg (td3_c0 t), .slice A n c, .pointer (some ⟨g1, 0, none⟩), zz, .bool false, .pointer (some ⟨g1, 2, none⟩), .int .i64 t.st, .bool false, .pointer (some ⟨g1, 15, none⟩), .pointer (some ⟨g1, 15, none⟩), .int .i64 t.kd, .bool true, .bool true, .pointer (some ⟨g1, 1, none⟩), .int .i64 t.fu, .bool false, .bool false, .pointer (some ⟨g1, 0, none⟩), .int .i64 t.pc, .slice A n c, .int .i64 (n : Int), .int .i64 (IntKind.wrap .i64 ((n : Int) - 1)), .bool true, zz, zz, zz], []⟩
def td3_a21 (t : Th) (A : Option Addr) (n : Nat) (c : Nat) (g1 : Nat) : Act := ⟨#[.agg (td3_c0 t), .slice A n c, .pointer (some ⟨g1, 0, none⟩), zz, .bool false, .pointer (some ⟨g1, 2, none⟩), .int .i64 t.st, .bool false, .pointer (some ⟨g1, 15, none⟩), .pointer (some ⟨g1, 15, none⟩), .int .i64 t.kd, .bool true, .bool true, .pointer (some ⟨g1, 1, none⟩), .int .i64 t.fu, .bool false, .bool false, .pointer (some ⟨g1, 0, none⟩), .int .i64 t.pc, .slice A n c, .int .i64 (n : Int), .int .i64 (IntKind.wrap .i64 ((n : Int) - 1)), .bool true, .bool false, zz, zz], []⟩
def td3_a22 (t : Th) (A : Option Addr) (n : Nat) (c : Nat) (g1 : Nat) : Act := ⟨#[.agg (td3_c0 t), .slice A n c, .pointer (some ⟨g1, 0, none⟩), zz, .bool false, .pointer (some ⟨g1, 2, none⟩), .int .i64 t.st, .bool false, .pointer (some ⟨g1, 15, none⟩), .pointer (some ⟨g1, 15, none⟩), .int .i64 t.kd, .bool true, .bool true, .pointer (some ⟨g1, 1, none⟩), .int .i64 t.fu, .bool false, .bool false, .pointer (some ⟨g1, 0, none⟩), .int .i64 t.pc, .slice A n c, .int .i64 (n : Int), .int .i64 (IntKind.wrap .i64 ((n : Int) - 1)), .bool true, .bool false, .bool false, zz], []⟩
def td3_a23 (t : Th) (A : Option Addr) (n : Nat) (c : Nat) (g1 : Nat) : Act := ⟨#[.agg (td3_c0 t), .slice A n c, .pointer (some ⟨g1, 0, none⟩), zz, .bool false, .pointer (some ⟨g1, 2, none⟩), .int .i64 t.st, .bool false, .pointer (some ⟨g1, 15, none⟩), .pointer (some ⟨g1, 15, none⟩), .int .i64 t.kd, .bool true, .bool true, .pointer (some ⟨g1, 1, none⟩), .int .i64 t.fu, .bool false, .bool false, .pointer (some ⟨g1, 0, none⟩), .int .i64 t.pc, .slice A n c, .int .i64 (n : Int), .int .i64 (IntKind.wrap .i64 ((n : Int) - 1)), .bool true, .bool false, .bool false, .bool false], []⟩
def td4_c0 (t : Th) : Array Value := #[.int .i64 t.pc, .int .i64 t.fu, .int .i64 t.st, .int .i64 (t.R 0), .int .i64 (t.R 1), .int .i64 (t.R 2), .int .i64 (t.R 3), .int .i64 (t.R 4), .int .i64 (t.R 5), .int .i64 (t.R 6), .int .i64 (t.R 7), .int .i64 (t.R 8), .int .i64 (t.R 9), .int .i64 (t.R 10), .int .i64 (t.R 11), .int .i64 t.kd, .int .i64 t.mi, .int .i64 t.mn, t.sv, t.bv, t.nv, .int .i64 t.old]
def td4_a1 (t : Th) (A : Option Addr) (n : Nat) (c : Nat) (g1 : Nat) : Act := ⟨#[.agg (td4_c0 t), .slice A n c, .pointer (some ⟨g1, 0, none⟩), zz, zz, zz, zz, zz, zz, zz, zz, zz, zz, zz, zz, zz, zz, zz, zz, zz, zz, zz, zz, zz, zz, zz], []⟩
def td4_a2 (t : Th) (A : Option Addr) (n : Nat) (c : Nat) (g1 : Nat) : Act := ⟨#[.agg (td4_c0 t), .slice A n c, .pointer (some ⟨g1, 0, none⟩), zz, .bool false, zz, zz, zz, zz, zz, zz, zz, zz, zz, zz, zz, zz, zz, zz, zz, zz, zz, zz, zz, zz, zz], []⟩
def td4_a3 (t : Th) (A : Option Addr) (n : Nat) (c : Nat) (g1 : Nat) : Act := ⟨#[.agg (td4_c0 t), .slice A n c, .pointer (some ⟨g1, 0, none⟩), zz, .bool false, .pointer (some ⟨g1, 2, none⟩), zz, zz, zz, zz, zz, zz, zz, zz, zz, zz, zz, zz, zz, zz, zz, zz, zz, zz, zz, zz], []⟩
def td4_a4 (t : Th) (A : Option Addr) (n : Nat) (c : Nat) (g1 : Nat) : Act := ⟨#[.agg (td4_c0 t), .slice A n c, .pointer (some ⟨g1, 0, none⟩), zz, .bool false, .pointer (some ⟨g1, 2, none⟩), .int .i64 t.st, zz, zz, zz, zz, zz, zz, zz, zz, zz, zz, zz, zz, zz, zz, zz, zz, zz, zz, zz], []⟩
def td4_a5 (t : Th) (A : Option Addr) (n : Nat) (c : Nat) (g1 : Nat) : Act := ⟨#[.agg (td4_c0 t), .slice A n c, .pointer (some ⟨g1, 0, none⟩), zz, .bool false, .pointer (some ⟨g1, 2, none⟩), .int .i64 t.st, .bool false, zz, zz, zz, zz, zz, zz, zz, zz, zz, zz, zz, zz, zz, zz, zz, zz, zz, zz], []⟩
def td4_a6 (t : Th) (A : Option Addr) (n : Nat) (c : Nat) (g1 : Nat) : Act := ⟨#[.agg (td4_c0 t), .slice A n c, .pointer (some ⟨g1, 0, none⟩), zz, .bool false, .pointer (some ⟨g1, 2, none⟩), .int .i64 t.st, .bool false, .pointer (some ⟨g1, 15, none⟩), zz, zz, zz, zz, zz, zz, zz, zz, zz, zz, zz, zz, zz, zz, zz, zz, zz], []⟩
def td4_a7 (t : Th) (A : Option Addr) (n : Nat) (c : Nat) (g1 : Nat) : Act := ⟨#[.agg (td4_c0 t), .slice A n c, .pointer (some ⟨g1, 0, none⟩), zz, .bool false, .pointer (some ⟨g1, 2, none⟩), .int .i64 t.st, .bool false, .pointer (some ⟨g1, 15, none⟩), .pointer (some ⟨g1, 15, none⟩), zz, zz, zz, zz, zz, zz, zz, zz, zz, zz, zz, zz, zz, zz, zz, zz], []⟩
def td4_a8 (t : Th) (A : Option Addr) (n : Nat) (c : Nat) (g1 : Nat) : Act := ⟨#[.agg (td4_c0 t), .slice A n c, .pointer (some ⟨g1, 0, none⟩), zz, .bool false, .pointer (some ⟨g1, 2, none⟩), .int .i64 t.st, .bool false, .pointer (some ⟨g1, 15, none⟩), .pointer (some ⟨g1, 15, none⟩), .int .i64 t.kd, zz, zz, zz, zz, zz, zz, zz, zz, zz, zz, zz, zz, zz, zz, zz], []⟩
def td4_a9 (t : Th) (A : Option Addr) (n : Nat) (c : Nat) (g1 : Nat) : Act := ⟨#[.agg (td4_c0 t), .slice A n c, .pointer (some ⟨g1, 0, none⟩), zz, .bool false, .pointer (some ⟨g1, 2, none⟩), .int .i64 t.st, .bool false, .pointer (some ⟨g1, 15, none⟩), .pointer (some ⟨g1, 15, none⟩), .int .i64 t.kd, .bool true, zz, zz, zz, zz, zz, zz, zz, zz, zz, zz, zz, zz, zz, zz], []⟩
def td4_a10 (t : Th) (A : Option Addr) (n : Nat) (c : Nat) (g1 : Nat) : Act := ⟨#[.agg (td4_c0 t), .slice A n c, .pointer (some ⟨g1, 0, none⟩), zz, .bool false, .pointer (some ⟨g1, 2, none⟩), .int .i64 t.st, .bool false, .pointer (some ⟨g1, 15, none⟩), .pointer (some ⟨g1, 15, none⟩), .int .i64 t.kd, .bool true, .bool true, zz, zz, zz, zz, zz, zz, zz, zz, zz, zz, zz, zz, zz], []⟩
def td4_a11 (t : Th) (A : Option Addr) (n : Nat) (c : Nat) (g1 : Nat) : Act := ⟨#[.agg (td4_c0 t), .slice A n c, .pointer (some ⟨g1, 0, none⟩), zz, .bool false, .pointer (some ⟨g1, 2, none⟩), .int .i64 t.st, .bool false, .pointer (some ⟨g1, 15, none⟩), .pointer (some ⟨g1, 15, none⟩), .int .i64 t.kd, .bool true, .bool true, .pointer (some ⟨g1, 1, none⟩), zz, zz, zz, zz, zz, zz, zz, zz, zz, zz, zz, zz], []⟩
def td4_a12 (t : Th) (A : Option Addr) (n : Nat) (c : Nat) (g1 : Nat) : Act := ⟨#[.agg (td4_c0 t), .slice A n c, .pointer (some ⟨g1, 0, none⟩), zz, .bool false, .pointer (some ⟨g1, 2, none⟩), .int .i64 t.st, .bool false, .pointer (some ⟨g1, 15, none⟩), .pointer (some ⟨g1, 15, none⟩), .int .i64 t.kd, .bool true, .bool true, .pointer (some ⟨g1, 1, none⟩), .int .i64 t.fu, zz, zz, zz, zz, zz, zz, zz, zz, zz, zz, zz], []⟩
def td4_a13 (t : Th) (A : Option Addr) (n : Nat) (c : Nat) (g1 : Nat) : Act := ⟨#[.agg (td4_c0 t), .slice A n c, .pointer (some ⟨g1, 0, none⟩), zz, .bool false, .pointer (some ⟨g1, 2, none⟩), .int .i64 t.st, .bool false, .pointer (some ⟨g1, 15, none⟩), .pointer (some ⟨g1, 15, none⟩), .int .i64 t.kd, .bool true, .bool true, .pointer (some ⟨g1, 1, none⟩), .int .i64 t.fu, .bool false, zz, zz, zz, zz, zz, zz, zz, zz, zz, zz], []⟩
def td4_a14 (t : Th) (A : Option Addr) (n : Nat) (c : Nat) (g1 : Nat) : Act := ⟨#[.agg (td4_c0 t), .slice A n c, .pointer (some ⟨g1, 0, none⟩), zz, .bool false, .pointer (some ⟨g1, 2, none⟩), .int .i64 t.st, .bool false, .pointer (some ⟨g1, 15, none⟩), .pointer (some ⟨g1, 15, none⟩), .int .i64 t.kd, .bool true, .bool true, .pointer (some ⟨g1, 1, none⟩), .int .i64 t.fu, .bool false, .bool false, zz, zz, zz, zz, zz, zz, zz, zz, zz], []⟩
def td4_a15 (t : Th) (A : Option Addr) (n : Nat) (c : Nat) (g1 : Nat) : Act := ⟨#[.agg (td4_c0 t), .slice A n c, .pointer (some ⟨g1, 0, none⟩), zz, .bool false, .pointer (some ⟨g1, 2, none⟩), .int .i64 t.st, .bool false, .pointer (some ⟨g1, 15, none⟩), .pointer (some ⟨g1, 15, none⟩), .int .i64 t.kd, .bool true, .bool true, .pointer (some ⟨g1, 1, none⟩), .int .i64 t.fu, .bool false, .bool false, .pointer (some ⟨g1, 0, none⟩), zz, zz, zz, zz, zz, zz, zz, zz], []⟩
def td4_a16 (t : Th) (A : Option Addr) (n : Nat) (c : Nat) (g1 : Nat) : Act := ⟨#[.agg (td4_c0 t), .slice A n c, .pointer (some ⟨g1, 0, none⟩), zz, .bool false, .pointer (some ⟨g1, 2, none⟩), .int .i64 t.st, .bool false, .pointer (some ⟨g1, 15, none⟩), .pointer (some ⟨g1, 15, none⟩), .int .i64 t.kd, .bool true, .bool true, .pointer (some ⟨g1, 1, none⟩), .int .i64 t.fu, .bool false, .bool false, .pointer (some ⟨g1, 0, none⟩), .int .i64 t.pc, zz, zz, zz, zz, zz, zz, zz], []⟩
def td4_a17 (t : Th) (A : Option Addr) (n : Nat) (c : Nat) (g1 : Nat) : Act := ⟨#[.agg (td4_c0 t), .slice A n c, .pointer (some ⟨g1, 0, none⟩), zz, .bool false, .pointer (some ⟨g1, 2, none⟩), .int .i64 t.st, .bool false, .pointer (some ⟨g1, 15, none⟩), .pointer (some ⟨g1, 15, none⟩), .int .i64 t.kd, .bool true, .bool true, .pointer (some ⟨g1, 1, none⟩), .int .i64 t.fu, .bool false, .bool false, .pointer (some ⟨g1, 0, none⟩), .int .i64 t.pc, .slice A n c, zz, zz, zz, zz, zz, zz], []⟩
def td4_a18 (t : Th) (A : Option Addr) (n : Nat) (c : Nat) (g1 : Nat) : Act := ⟨#[.agg (td4_c0 t), .slice A n c, .pointer (some ⟨g1, 0, none⟩), zz, .bool false, .pointer (some ⟨g1, 2, none⟩), .int .i64 t.st, .bool false, .pointer (some ⟨g1, 15, none⟩), .pointer (some ⟨g1, 15, none⟩), .int .i64 t.kd, .bool true, .bool true, .pointer (some ⟨g1, 1, none⟩), .int .i64 t.fu, .bool false, .bool false, .pointer (some ⟨g1, 0, none⟩), .int .i64 t.pc, .slice A n c, .int .i64 (n : Int), zz, zz, zz, zz, zz], []⟩
def td4_a19 (t : Th) (A : Option Addr) (n : Nat) (c : Nat) (g1 : Nat) : Act := ⟨#[.agg (td4_c0 t), .slice A n c, .pointer (some ⟨g1, 0, none⟩), zz, .bool false, .pointer (some ⟨g1, 2, none⟩), .int .i64 t.st, .bool false, .pointer (some ⟨g1, 15, none⟩), .pointer (some ⟨g1, 15, none⟩), .int .i64 t.kd, .bool true, .bool true, .pointer (some ⟨g1, 1, none⟩), .int .i64 t.fu, .bool false, .bool false, .pointer (some ⟨g1, 0, none⟩), .int .i64 t.pc, .slice A n c, .int .i64 (n : Int), .int .i64 (IntKind.wrap .i64 ((n : Int) - 1)), zz, zz, zz, zz], []⟩
def td4_a20 (t : Th) (A : Option Addr) (n : Nat) (c : Nat) (g1 : Nat) : Act := ⟨#[.agg (td4_c0 t), .slice A n c, .pointer (some ⟨g1, 0, none⟩), zz, .bool false, .pointer (some ⟨g1, 2, none⟩), .int .i64 t.st, .bool false, .pointer (some ⟨g1, 15, none⟩), .pointer (some ⟨g1, 15, none⟩), .int .i64 t.kd, .bool true, .bool true, .pointer (some ⟨g1, 1, none⟩), .int .i64 t.fu, .bool false, .bool false, .pointer (some ⟨g1, 0, none⟩), .int .i64 t.pc, .slice A n c, .int .i64 (n : Int), .int .i64 (IntKind.wrap .i64 ((n : Int) - 1)), .bool false, zz, zz, zz], []⟩
def td4_a21 (t : Th) (A : Option Addr) (n : Nat) (c : Nat) (g1 : Nat) : Act := ⟨#[.agg (td4_c0 t), .slice A n c, .pointer (some ⟨g1, 0, none⟩), zz, .bool false, .pointer (some ⟨g1, 2, none⟩), .int .i64 t.st, .bool false, .pointer (some ⟨g1, 15, none⟩), .pointer (some ⟨g1, 15, none⟩), .int .i64 t.kd, .bool true, .bool true, .pointer (some ⟨g1, 1, none⟩), .int .i64 t.fu, .bool false, .bool false, .pointer (some ⟨g1, 0, none⟩), .int .i64 t.pc, .slice A n c, .int .i64 (n : Int), .int .i64 (IntKind.wrap .i64 ((n : Int) - 1)), .bool false, .bool true, zz, zz], []⟩
def td4_a22 (t : Th) (A : Option Addr) (n : Nat) (c : Nat) (g1 : Nat) : Act := ⟨#[.agg (td4_c0 t), .slice A n c, .pointer (some ⟨g1, 0, none⟩), zz, .bool false, .pointer (some ⟨g1, 2, none⟩), .int .i64 t.st, .bool false, .pointer (some ⟨g1, 15, none⟩), .pointer (some ⟨g1, 15, none⟩), .int .i64 t.kd, .bool true, .bool true, .pointer (some ⟨g1, 1, none⟩), .int .i64 t.fu, .bool false, .bool false, .pointer (some ⟨g1, 0, none⟩), .int .i64 t.pc, .slice A n c, .int .i64 (n : Int), .int .i64 (IntKind.wrap .i64 ((n : Int) - 1)), .bool false, .bool true, .bool true, zz], []⟩
def td4_a23 (t : Th) (A : Option Addr) (n : Nat) (c : Nat) (g1 : Nat) : Act := ⟨#[.agg (td4_c0 t), .slice A n c, .pointer (some ⟨g1, 0, none⟩), zz, .bool false, .pointer (some ⟨g1, 2, none⟩), .int .i64 t.st, .bool false, .pointer (some ⟨g1, 15, none⟩), .pointer (some ⟨g1, 15, none⟩), .int .i64 t.kd, .bool true, .bool true, .pointer (some ⟨g1, 1, none⟩), .int .i64 t.fu, .bool false, .bool false, .pointer (some ⟨g1, 0, none⟩), .int .i64 t.pc, .slice A n c, .int .i64 (n : Int), .int .i64 (IntKind.wrap .i64 ((n : Int) - 1)), .bool false, .bool true, .bool true, .bool true], []⟩
def td4_a24 (t : Th) (A : Option Addr) (n : Nat) (c : Nat) (g1 : Nat) : Act := ⟨#[.agg (td4_c0 t), .slice A n c, .pointer (some ⟨g1, 0, none⟩), zz, .bool true, .pointer (some ⟨g1, 2, none⟩), .int .i64 t.st, .bool false, .pointer (some ⟨g1, 15, none⟩), .pointer (some ⟨g1, 15, none⟩), .int .i64 t.kd, .bool true, .bool true, .pointer (some ⟨g1, 1, none⟩), .int .i64 t.fu, .bool false, .bool false, .pointer (some ⟨g1, 0, none⟩), .int .i64 t.pc, .slice A n c, .int .i64 (n : Int), .int .i64 (IntKind.wrap .i64 ((n : Int) - 1)), .bool false, .bool true, .bool true, .bool true], []⟩
set_option maxHeartbeats 8000000 in
set_option maxRecDepth 100000 in
theorem th_Done (t : Th) (A : Option Addr) (n c : Nat) (hn : n ≤ 9223372036854775807) (w : World) : Calls Try.prog 25 #[.agg t.cells, .slice A n c] w fun e w' => e = .returned (.bool (doneB t n)) ∧ Below w.heap.size w w' := by
  have hw1 : IntKind.wrap .i64 ((n : Int) - 1) = (n : Int) - 1 := by rw [IntKind.wrap_i64]; omega
  have hc : t.st ≠ 0 ∨ (t.st = 0 ∧ t.kd ≠ 0) ∨ (t.st = 0 ∧ t.kd = 0 ∧ t.fu ≤ 0) ∨ (t.st = 0 ∧ t.kd = 0 ∧ 0 < t.fu ∧ 0 ≤ t.pc ∧ t.pc < n) ∨ (t.st = 0 ∧ t.kd = 0 ∧ 0 < t.fu ∧ ¬ (0 ≤ t.pc ∧ t.pc < n)) := by omega
  rcases hc with h1 | h2 | h3 | h4 | h5
  · skip
    refine calls_of_wp Try.func25 rfl ?_
    have hW := Ws.nil w
    refine wp_seq ?_
    refine wp_region_list ?_
    obtain ⟨g1, W2, hr, hW, hbb, hge⟩ := hW.mk1 (P := Try.prog) (s := Instr.box 32 (.agg (td0_c0 t))) (td0_c0 t) 32 (by kernel_rfl)
    refine se (a' := (td0_a1 t A n c g1)) (.pointer (some ⟨g1, 0, none⟩)) (Eq.trans (b := (do pure (Next.value (← Instr.box 32 (.agg (td0_c0 t)))) : Sem Next).run Try.prog w) (by kernel_rfl) (st_val hr)) ?_
    refine sk (a' := (td0_a2 t A n c g1)) (.bool false) ?_
    refine wpList_nil ?_
    refine wp_seq ?_
    refine wp_seq ?_
    refine wp_region_list ?_
    refine sk (a' := (td0_a3 t A n c g1)) (.pointer (some ⟨g1, 2, none⟩)) ?_
    refine se (a' := (td0_a4 t A n c g1)) (.int .i64 t.st) (ev1 hW 0 2 Try.underlying3) ?_
    refine se (a' := (td0_a5 t A n c g1)) (.bool true) (Eq.trans (b := .ok (.value (.bool ((t.st : Int) != 0))) W2) (by kernel_rfl) (st_ok (bne_iff_ne.2 (by omega)))) ?_
    refine wpList_nil ?_
    refine wp_cond (t := true) (by kernel_rfl) ?_
    refine wp_seq ?_
    refine wp_region_list ?_
    refine sk (a' := (td0_a6 t A n c g1)) (.bool true) ?_
    refine wpList_nil ?_
    refine wp_ret ?_
    (try simp only [Exit.then, Exit.inBlock])
    change bodyPost Try.prog Try.f25 _ .ret _ _
    refine bodyPost_ret (results_tmp rfl _ _ _) rfl ?_
    refine ⟨?_, hW.below⟩
    rw [show doneB t n = true from by unfold doneB; rw [if_pos h1]]
    kernel_rfl
  · skip
    refine calls_of_wp Try.func25 rfl ?_
    have hW := Ws.nil w
    refine wp_seq ?_
    refine wp_region_list ?_
    obtain ⟨g1, W2, hr, hW, hbb, hge⟩ := hW.mk1 (P := Try.prog) (s := Instr.box 32 (.agg (td1_c0 t))) (td1_c0 t) 32 (by kernel_rfl)
    refine se (a' := (td1_a1 t A n c g1)) (.pointer (some ⟨g1, 0, none⟩)) (Eq.trans (b := (do pure (Next.value (← Instr.box 32 (.agg (td1_c0 t)))) : Sem Next).run Try.prog w) (by kernel_rfl) (st_val hr)) ?_
    refine sk (a' := (td1_a2 t A n c g1)) (.bool false) ?_
    refine wpList_nil ?_
    refine wp_seq ?_
    refine wp_seq ?_
    refine wp_region_list ?_
    refine sk (a' := (td1_a3 t A n c g1)) (.pointer (some ⟨g1, 2, none⟩)) ?_
    refine se (a' := (td1_a4 t A n c g1)) (.int .i64 t.st) (ev1 hW 0 2 Try.underlying3) ?_
    refine se (a' := (td1_a5 t A n c g1)) (.bool false) (Eq.trans (b := .ok (.value (.bool ((t.st : Int) != 0))) W2) (by kernel_rfl) (st_ok (bne_eq_false_iff_eq.2 (by omega)))) ?_
    refine wpList_nil ?_
    refine wp_cond (t := false) (by kernel_rfl) ?_
    refine wp_skip ?_
    refine wp_seq ?_
    refine wp_region_list ?_
    refine sk (a' := (td1_a6 t A n c g1)) (.pointer (some ⟨g1, 15, none⟩)) ?_
    refine sk (a' := (td1_a7 t A n c g1)) (.pointer (some ⟨g1, 15, none⟩)) ?_
    refine se (a' := (td1_a8 t A n c g1)) (.int .i64 t.kd) (ev1 hW 0 15 Try.underlying3) ?_
    refine se (a' := (td1_a9 t A n c g1)) (.bool false) (Eq.trans (b := .ok (.value (.bool ((t.kd : Int) == 0))) W2) (by kernel_rfl) (st_ok (beq_eq_false_iff_ne.2 (by omega)))) ?_
    refine st_ones (w' := W2) (a' := (td1_a10 t A n c g1)) (a2 := (td1_a10 t A n c g1)) 12 (.bool false) (by kernel_rfl) (by kernel_rfl) (by kernel_rfl) (by kernel_rfl) (by kernel_rfl) ?_
    refine sk (a' := (td1_a11 t A n c g1)) (.bool false) ?_
    refine sk (a' := (td1_a11 t A n c g1)) (.bool false) ?_
    refine wpList_nil ?_
    refine wp_ret ?_
    (try simp only [Exit.then, Exit.inBlock])
    change bodyPost Try.prog Try.f25 _ .ret _ _
    refine bodyPost_ret (results_tmp rfl _ _ _) rfl ?_
    refine ⟨?_, hW.below⟩
    rw [show doneB t n = false from by unfold doneB; rw [if_neg (by omega), if_pos h2.2]]
    kernel_rfl
  · skip
    refine calls_of_wp Try.func25 rfl ?_
    have hW := Ws.nil w
    refine wp_seq ?_
    refine wp_region_list ?_
    obtain ⟨g1, W2, hr, hW, hbb, hge⟩ := hW.mk1 (P := Try.prog) (s := Instr.box 32 (.agg (td2_c0 t))) (td2_c0 t) 32 (by kernel_rfl)
    refine se (a' := (td2_a1 t A n c g1)) (.pointer (some ⟨g1, 0, none⟩)) (Eq.trans (b := (do pure (Next.value (← Instr.box 32 (.agg (td2_c0 t)))) : Sem Next).run Try.prog w) (by kernel_rfl) (st_val hr)) ?_
    refine sk (a' := (td2_a2 t A n c g1)) (.bool false) ?_
    refine wpList_nil ?_
    refine wp_seq ?_
    refine wp_seq ?_
    refine wp_region_list ?_
    refine sk (a' := (td2_a3 t A n c g1)) (.pointer (some ⟨g1, 2, none⟩)) ?_
    refine se (a' := (td2_a4 t A n c g1)) (.int .i64 t.st) (ev1 hW 0 2 Try.underlying3) ?_
    refine se (a' := (td2_a5 t A n c g1)) (.bool false) (Eq.trans (b := .ok (.value (.bool ((t.st : Int) != 0))) W2) (by kernel_rfl) (st_ok (bne_eq_false_iff_eq.2 (by omega)))) ?_
    refine wpList_nil ?_
    refine wp_cond (t := false) (by kernel_rfl) ?_
    refine wp_skip ?_
    refine wp_seq ?_
    refine wp_region_list ?_
    refine sk (a' := (td2_a6 t A n c g1)) (.pointer (some ⟨g1, 15, none⟩)) ?_
    refine sk (a' := (td2_a7 t A n c g1)) (.pointer (some ⟨g1, 15, none⟩)) ?_
    refine se (a' := (td2_a8 t A n c g1)) (.int .i64 t.kd) (ev1 hW 0 15 Try.underlying3) ?_
    refine se (a' := (td2_a9 t A n c g1)) (.bool true) (Eq.trans (b := .ok (.value (.bool ((t.kd : Int) == 0))) W2) (by kernel_rfl) (st_ok (beq_iff_eq.2 (by omega)))) ?_
    refine sk (a' := (td2_a10 t A n c g1)) (.bool true) ?_
    refine sk (a' := (td2_a11 t A n c g1)) (.pointer (some ⟨g1, 1, none⟩)) ?_
    refine se (a' := (td2_a12 t A n c g1)) (.int .i64 t.fu) (ev1 hW 0 1 Try.underlying3) ?_
    refine se (a' := (td2_a13 t A n c g1)) (.bool true) (Eq.trans (b := .ok (.value (.bool (decide ((t.fu : Int) ≤ 0)))) W2) (by kernel_rfl) (st_ok (decide_eq_true (by omega)))) ?_
    refine st_ones (w' := W2) (a' := (td2_a14 t A n c g1)) (a2 := (td2_a14 t A n c g1)) 7 (.bool true) (by kernel_rfl) (by kernel_rfl) (by kernel_rfl) (by kernel_rfl) (by kernel_rfl) ?_
    refine sk (a' := (td2_a15 t A n c g1)) (.bool true) ?_
    refine sk (a' := (td2_a16 t A n c g1)) (.bool true) ?_
    refine sk (a' := (td2_a17 t A n c g1)) (.bool true) ?_
    refine wpList_nil ?_
    refine wp_ret ?_
    (try simp only [Exit.then, Exit.inBlock])
    change bodyPost Try.prog Try.f25 _ .ret _ _
    refine bodyPost_ret (results_tmp rfl _ _ _) rfl ?_
    refine ⟨?_, hW.below⟩
    rw [show doneB t n = true from by unfold doneB; rw [if_neg (by omega), if_neg (by omega), if_pos h3.2.2]]
    kernel_rfl
  · skip
    refine calls_of_wp Try.func25 rfl ?_
    have hW := Ws.nil w
    refine wp_seq ?_
    refine wp_region_list ?_
    obtain ⟨g1, W2, hr, hW, hbb, hge⟩ := hW.mk1 (P := Try.prog) (s := Instr.box 32 (.agg (td3_c0 t))) (td3_c0 t) 32 (by kernel_rfl)
    refine se (a' := (td3_a1 t A n c g1)) (.pointer (some ⟨g1, 0, none⟩)) (Eq.trans (b := (do pure (Next.value (← Instr.box 32 (.agg (td3_c0 t)))) : Sem Next).run Try.prog w) (by kernel_rfl) (st_val hr)) ?_
    refine sk (a' := (td3_a2 t A n c g1)) (.bool false) ?_
    refine wpList_nil ?_
    refine wp_seq ?_
    refine wp_seq ?_
    refine wp_region_list ?_
    refine sk (a' := (td3_a3 t A n c g1)) (.pointer (some ⟨g1, 2, none⟩)) ?_
    refine se (a' := (td3_a4 t A n c g1)) (.int .i64 t.st) (ev1 hW 0 2 Try.underlying3) ?_
    refine se (a' := (td3_a5 t A n c g1)) (.bool false) (Eq.trans (b := .ok (.value (.bool ((t.st : Int) != 0))) W2) (by kernel_rfl) (st_ok (bne_eq_false_iff_eq.2 (by omega)))) ?_
    refine wpList_nil ?_
    refine wp_cond (t := false) (by kernel_rfl) ?_
    refine wp_skip ?_
    refine wp_seq ?_
    refine wp_region_list ?_
    refine sk (a' := (td3_a6 t A n c g1)) (.pointer (some ⟨g1, 15, none⟩)) ?_
    refine sk (a' := (td3_a7 t A n c g1)) (.pointer (some ⟨g1, 15, none⟩)) ?_
    refine se (a' := (td3_a8 t A n c g1)) (.int .i64 t.kd) (ev1 hW 0 15 Try.underlying3) ?_
    refine se (a' := (td3_a9 t A n c g1)) (.bool true) (Eq.trans (b := .ok (.value (.bool ((t.kd : Int) == 0))) W2) (by kernel_rfl) (st_ok (beq_iff_eq.2 (by omega)))) ?_
    refine sk (a' := (td3_a10 t A n c g1)) (.bool true) ?_
    refine sk (a' := (td3_a11 t A n c g1)) (.pointer (some ⟨g1, 1, none⟩)) ?_
    refine se (a' := (td3_a12 t A n c g1)) (.int .i64 t.fu) (ev1 hW 0 1 Try.underlying3) ?_
    refine se (a' := (td3_a13 t A n c g1)) (.bool false) (Eq.trans (b := .ok (.value (.bool (decide ((t.fu : Int) ≤ 0)))) W2) (by kernel_rfl) (st_ok (decide_eq_false (by omega)))) ?_
    refine sk (a' := (td3_a14 t A n c g1)) (.bool false) ?_
    refine sk (a' := (td3_a15 t A n c g1)) (.pointer (some ⟨g1, 0, none⟩)) ?_
    refine se (a' := (td3_a16 t A n c g1)) (.int .i64 t.pc) (ev1 hW 0 0 Try.underlying3) ?_
    refine sk (a' := (td3_a17 t A n c g1)) (.slice A n c) ?_
    refine sk (a' := (td3_a18 t A n c g1)) (.int .i64 (n : Int)) ?_
    refine sk (a' := (td3_a19 t A n c g1)) (.int .i64 (IntKind.wrap .i64 ((n : Int) - 1))) ?_
    refine st_call (in_calls t.pc 0 (IntKind.wrap .i64 ((n : Int) - 1)) true (decide_eq_true (by omega)) W2) (by kernel_rfl) (by kernel_rfl) ?_
    rintro _ W3 ⟨rfl, hB⟩
    have hW := hW.step hB
    refine ⟨_, (td3_a20 t A n c g1), rfl, by kernel_rfl, ?_⟩
    refine sk (a' := (td3_a21 t A n c g1)) (.bool false) ?_
    refine sk (a' := (td3_a22 t A n c g1)) (.bool false) ?_
    refine sk (a' := (td3_a23 t A n c g1)) (.bool false) ?_
    refine sk (a' := (td3_a23 t A n c g1)) (.bool false) ?_
    refine wpList_nil ?_
    refine wp_ret ?_
    (try simp only [Exit.then, Exit.inBlock])
    change bodyPost Try.prog Try.f25 _ .ret _ _
    refine bodyPost_ret (results_tmp rfl _ _ _) rfl ?_
    refine ⟨?_, hW.below⟩
    rw [show doneB t n = false from by unfold doneB; rw [if_neg (by omega), if_neg (by omega), if_neg (by omega), if_pos h4.2.2.2]]
    kernel_rfl
  · skip
    refine calls_of_wp Try.func25 rfl ?_
    have hW := Ws.nil w
    refine wp_seq ?_
    refine wp_region_list ?_
    obtain ⟨g1, W2, hr, hW, hbb, hge⟩ := hW.mk1 (P := Try.prog) (s := Instr.box 32 (.agg (td4_c0 t))) (td4_c0 t) 32 (by kernel_rfl)
    refine se (a' := (td4_a1 t A n c g1)) (.pointer (some ⟨g1, 0, none⟩)) (Eq.trans (b := (do pure (Next.value (← Instr.box 32 (.agg (td4_c0 t)))) : Sem Next).run Try.prog w) (by kernel_rfl) (st_val hr)) ?_
    refine sk (a' := (td4_a2 t A n c g1)) (.bool false) ?_
    refine wpList_nil ?_
    refine wp_seq ?_
    refine wp_seq ?_
    refine wp_region_list ?_
    refine sk (a' := (td4_a3 t A n c g1)) (.pointer (some ⟨g1, 2, none⟩)) ?_
    refine se (a' := (td4_a4 t A n c g1)) (.int .i64 t.st) (ev1 hW 0 2 Try.underlying3) ?_
    refine se (a' := (td4_a5 t A n c g1)) (.bool false) (Eq.trans (b := .ok (.value (.bool ((t.st : Int) != 0))) W2) (by kernel_rfl) (st_ok (bne_eq_false_iff_eq.2 (by omega)))) ?_
    refine wpList_nil ?_
    refine wp_cond (t := false) (by kernel_rfl) ?_
    refine wp_skip ?_
    refine wp_seq ?_
    refine wp_region_list ?_
    refine sk (a' := (td4_a6 t A n c g1)) (.pointer (some ⟨g1, 15, none⟩)) ?_
    refine sk (a' := (td4_a7 t A n c g1)) (.pointer (some ⟨g1, 15, none⟩)) ?_
    refine se (a' := (td4_a8 t A n c g1)) (.int .i64 t.kd) (ev1 hW 0 15 Try.underlying3) ?_
    refine se (a' := (td4_a9 t A n c g1)) (.bool true) (Eq.trans (b := .ok (.value (.bool ((t.kd : Int) == 0))) W2) (by kernel_rfl) (st_ok (beq_iff_eq.2 (by omega)))) ?_
    refine sk (a' := (td4_a10 t A n c g1)) (.bool true) ?_
    refine sk (a' := (td4_a11 t A n c g1)) (.pointer (some ⟨g1, 1, none⟩)) ?_
    refine se (a' := (td4_a12 t A n c g1)) (.int .i64 t.fu) (ev1 hW 0 1 Try.underlying3) ?_
    refine se (a' := (td4_a13 t A n c g1)) (.bool false) (Eq.trans (b := .ok (.value (.bool (decide ((t.fu : Int) ≤ 0)))) W2) (by kernel_rfl) (st_ok (decide_eq_false (by omega)))) ?_
    refine sk (a' := (td4_a14 t A n c g1)) (.bool false) ?_
    refine sk (a' := (td4_a15 t A n c g1)) (.pointer (some ⟨g1, 0, none⟩)) ?_
    refine se (a' := (td4_a16 t A n c g1)) (.int .i64 t.pc) (ev1 hW 0 0 Try.underlying3) ?_
    refine sk (a' := (td4_a17 t A n c g1)) (.slice A n c) ?_
    refine sk (a' := (td4_a18 t A n c g1)) (.int .i64 (n : Int)) ?_
    refine sk (a' := (td4_a19 t A n c g1)) (.int .i64 (IntKind.wrap .i64 ((n : Int) - 1))) ?_
    refine st_call (in_calls t.pc 0 (IntKind.wrap .i64 ((n : Int) - 1)) false (decide_eq_false (by omega)) W2) (by kernel_rfl) (by kernel_rfl) ?_
    rintro _ W3 ⟨rfl, hB⟩
    have hW := hW.step hB
    refine ⟨_, (td4_a20 t A n c g1), rfl, by kernel_rfl, ?_⟩
    refine sk (a' := (td4_a21 t A n c g1)) (.bool true) ?_
    refine sk (a' := (td4_a22 t A n c g1)) (.bool true) ?_
    refine sk (a' := (td4_a23 t A n c g1)) (.bool true) ?_
    refine sk (a' := (td4_a24 t A n c g1)) (.bool true) ?_
    refine wpList_nil ?_
    refine wp_ret ?_
    (try simp only [Exit.then, Exit.inBlock])
    change bodyPost Try.prog Try.f25 _ .ret _ _
    refine bodyPost_ret (results_tmp rfl _ _ _) rfl ?_
    refine ⟨?_, hW.below⟩
    rw [show doneB t n = true from by unfold doneB; rw [if_neg (by omega), if_neg (by omega), if_neg (by omega), if_neg h5.2.2.2]]
    kernel_rfl
end Go.Proofs.Ythcmcekjgecnhaa.Th
