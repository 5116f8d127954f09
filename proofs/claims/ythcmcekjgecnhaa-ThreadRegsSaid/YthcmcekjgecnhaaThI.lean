/- What the plain Get and Set answer. No condition beside those that each theorem names. -/
import Derived.Test.YthcmcekjgecnhaaThC
namespace Go.Proofs.Ythcmcekjgecnhaa.Th
open Go.RowKit Go.Proofs.YthcmcekjgecnhaaW.PrintWords Go.Proofs.YthcmcekjgecnhaaW.PrintLast Go.Proofs.YthcmcekjgecnhaaW.PrintMore
open Go.Proofs.YthcmcekjgecnhaaW.HWords Go.Proofs.Ythcmcekjgecnhaa.QThreadLocals
set_option linter.unusedVariables false
set_option linter.unusedSimpArgs false
def tvn_c0 (t : Th) : Array Value := #[.int .i64 t.pc, .int .i64 t.fu, .int .i64 t.st, .int .i64 (t.R 0), .int .i64 (t.R 1), .int .i64 (t.R 2), .int .i64 (t.R 3), .int .i64 (t.R 4), .int .i64 (t.R 5), .int .i64 (t.R 6), .int .i64 (t.R 7), .int .i64 (t.R 8), .int .i64 (t.R 9), .int .i64 (t.R 10), .int .i64 (t.R 11), .int .i64 t.kd, .int .i64 t.mi, .int .i64 t.mn, t.sv, t.bv, t.nv, .int .i64 t.old]
def tvn_a1 (t : Th) (r : Int) (g1 : Nat) : Act := ⟨#[.agg (tvn_c0 t), .int .i64 r, .pointer (some ⟨g1, 0, none⟩), zz, zz, zz, zz, zz, zz, zz, zz, zz, zz, zz, zz, zz], []⟩
def tvn_a2 (t : Th) (r : Int) (g1 : Nat) (g3 : Nat) : Act := ⟨#[.agg (tvn_c0 t), .int .i64 r, .pointer (some ⟨g1, 0, none⟩), zz, .pointer (some ⟨g3, 0, none⟩), zz, zz, zz, zz, zz, zz, zz, zz, zz, zz, zz], []⟩
def tvn_a3 (t : Th) (r : Int) (g1 : Nat) (g3 : Nat) : Act := ⟨#[.agg (tvn_c0 t), .int .i64 r, .pointer (some ⟨g1, 0, none⟩), zz, .pointer (some ⟨g3, 0, none⟩), .int .i64 r, zz, zz, zz, zz, zz, zz, zz, zz, zz, zz], []⟩
def tvn_a4 (t : Th) (r : Int) (g1 : Nat) (g3 : Nat) : Act := ⟨#[.agg (tvn_c0 t), .int .i64 r, .pointer (some ⟨g1, 0, none⟩), zz, .pointer (some ⟨g3, 0, none⟩), .int .i64 r, .bool true, zz, zz, zz, zz, zz, zz, zz, zz, zz], []⟩
def tvn_a5 (t : Th) (r : Int) (g1 : Nat) (g3 : Nat) : Act := ⟨#[.agg (tvn_c0 t), .int .i64 r, .pointer (some ⟨g1, 0, none⟩), zz, .pointer (some ⟨g3, 0, none⟩), .int .i64 r, .bool true, .bool true, zz, zz, zz, zz, zz, zz, zz, zz], []⟩
def tvn_a6 (t : Th) (r : Int) (g1 : Nat) (g3 : Nat) : Act := ⟨#[.agg (tvn_c0 t), .int .i64 r, .pointer (some ⟨g1, 0, none⟩), zz, .pointer (some ⟨g3, 0, none⟩), .int .i64 r, .bool true, .bool true, zz, zz, .bool true, zz, zz, zz, zz, zz], []⟩
def tvn_a7 (t : Th) (r : Int) (g1 : Nat) (g3 : Nat) : Act := ⟨#[.agg (tvn_c0 t), .int .i64 r, .pointer (some ⟨g1, 0, none⟩), zz, .pointer (some ⟨g3, 0, none⟩), .int .i64 r, .bool true, .bool true, zz, zz, .bool true, .agg #[.int .i64 0, .int .i64 0, .int .i64 0], zz, zz, zz, zz], []⟩
def tvo_c0 (t : Th) : Array Value := #[.int .i64 t.pc, .int .i64 t.fu, .int .i64 t.st, .int .i64 (t.R 0), .int .i64 (t.R 1), .int .i64 (t.R 2), .int .i64 (t.R 3), .int .i64 (t.R 4), .int .i64 (t.R 5), .int .i64 (t.R 6), .int .i64 (t.R 7), .int .i64 (t.R 8), .int .i64 (t.R 9), .int .i64 (t.R 10), .int .i64 (t.R 11), .int .i64 t.kd, .int .i64 t.mi, .int .i64 t.mn, t.sv, t.bv, t.nv, .int .i64 t.old]
def tvo_a1 (t : Th) (r : Int) (g1 : Nat) : Act := ⟨#[.agg (tvo_c0 t), .int .i64 r, .pointer (some ⟨g1, 0, none⟩), zz, zz, zz, zz, zz, zz, zz, zz, zz, zz, zz, zz, zz], []⟩
def tvo_a2 (t : Th) (r : Int) (g1 : Nat) (g3 : Nat) : Act := ⟨#[.agg (tvo_c0 t), .int .i64 r, .pointer (some ⟨g1, 0, none⟩), zz, .pointer (some ⟨g3, 0, none⟩), zz, zz, zz, zz, zz, zz, zz, zz, zz, zz, zz], []⟩
def tvo_a3 (t : Th) (r : Int) (g1 : Nat) (g3 : Nat) : Act := ⟨#[.agg (tvo_c0 t), .int .i64 r, .pointer (some ⟨g1, 0, none⟩), zz, .pointer (some ⟨g3, 0, none⟩), .int .i64 r, zz, zz, zz, zz, zz, zz, zz, zz, zz, zz], []⟩
def tvo_a4 (t : Th) (r : Int) (g1 : Nat) (g3 : Nat) : Act := ⟨#[.agg (tvo_c0 t), .int .i64 r, .pointer (some ⟨g1, 0, none⟩), zz, .pointer (some ⟨g3, 0, none⟩), .int .i64 r, .bool false, zz, zz, zz, zz, zz, zz, zz, zz, zz], []⟩
def tvo_a5 (t : Th) (r : Int) (g1 : Nat) (g3 : Nat) : Act := ⟨#[.agg (tvo_c0 t), .int .i64 r, .pointer (some ⟨g1, 0, none⟩), zz, .pointer (some ⟨g3, 0, none⟩), .int .i64 r, .bool false, .bool false, zz, zz, zz, zz, zz, zz, zz, zz], []⟩
def tvo_a6 (t : Th) (r : Int) (g1 : Nat) (g3 : Nat) : Act := ⟨#[.agg (tvo_c0 t), .int .i64 r, .pointer (some ⟨g1, 0, none⟩), zz, .pointer (some ⟨g3, 0, none⟩), .int .i64 r, .bool false, .bool false, .int .i64 r, zz, zz, zz, zz, zz, zz, zz], []⟩
def tvo_a7 (t : Th) (r : Int) (g1 : Nat) (g3 : Nat) : Act := ⟨#[.agg (tvo_c0 t), .int .i64 r, .pointer (some ⟨g1, 0, none⟩), zz, .pointer (some ⟨g3, 0, none⟩), .int .i64 r, .bool false, .bool false, .int .i64 r, .bool true, zz, zz, zz, zz, zz, zz], []⟩
def tvo_a8 (t : Th) (r : Int) (g1 : Nat) (g3 : Nat) : Act := ⟨#[.agg (tvo_c0 t), .int .i64 r, .pointer (some ⟨g1, 0, none⟩), zz, .pointer (some ⟨g3, 0, none⟩), .int .i64 r, .bool false, .bool false, .int .i64 r, .bool true, .bool true, zz, zz, zz, zz, zz], []⟩
def tvo_a9 (t : Th) (r : Int) (g1 : Nat) (g3 : Nat) : Act := ⟨#[.agg (tvo_c0 t), .int .i64 r, .pointer (some ⟨g1, 0, none⟩), zz, .pointer (some ⟨g3, 0, none⟩), .int .i64 r, .bool false, .bool false, .int .i64 r, .bool true, .bool true, .agg #[.int .i64 0, .int .i64 0, .int .i64 0], zz, zz, zz, zz], []⟩
def tv0_c0 (t : Th) : Array Value := #[.int .i64 t.pc, .int .i64 t.fu, .int .i64 t.st, .int .i64 (t.R 0), .int .i64 (t.R 1), .int .i64 (t.R 2), .int .i64 (t.R 3), .int .i64 (t.R 4), .int .i64 (t.R 5), .int .i64 (t.R 6), .int .i64 (t.R 7), .int .i64 (t.R 8), .int .i64 (t.R 9), .int .i64 (t.R 10), .int .i64 (t.R 11), .int .i64 t.kd, .int .i64 t.mi, .int .i64 t.mn, t.sv, t.bv, t.nv, .int .i64 t.old]
def tv0_a1 (t : Th) (g1 : Nat) : Act := ⟨#[.agg (tv0_c0 t), .int .i64 0, .pointer (some ⟨g1, 0, none⟩), zz, zz, zz, zz, zz, zz, zz, zz, zz, zz, zz, zz, zz], []⟩
def tv0_a2 (t : Th) (g1 : Nat) (g3 : Nat) : Act := ⟨#[.agg (tv0_c0 t), .int .i64 0, .pointer (some ⟨g1, 0, none⟩), zz, .pointer (some ⟨g3, 0, none⟩), zz, zz, zz, zz, zz, zz, zz, zz, zz, zz, zz], []⟩
def tv0_a3 (t : Th) (g1 : Nat) (g3 : Nat) : Act := ⟨#[.agg (tv0_c0 t), .int .i64 0, .pointer (some ⟨g1, 0, none⟩), zz, .pointer (some ⟨g3, 0, none⟩), .int .i64 0, zz, zz, zz, zz, zz, zz, zz, zz, zz, zz], []⟩
def tv0_a4 (t : Th) (g1 : Nat) (g3 : Nat) : Act := ⟨#[.agg (tv0_c0 t), .int .i64 0, .pointer (some ⟨g1, 0, none⟩), zz, .pointer (some ⟨g3, 0, none⟩), .int .i64 0, .bool false, zz, zz, zz, zz, zz, zz, zz, zz, zz], []⟩
def tv0_a5 (t : Th) (g1 : Nat) (g3 : Nat) : Act := ⟨#[.agg (tv0_c0 t), .int .i64 0, .pointer (some ⟨g1, 0, none⟩), zz, .pointer (some ⟨g3, 0, none⟩), .int .i64 0, .bool false, .bool false, zz, zz, zz, zz, zz, zz, zz, zz], []⟩
def tv0_a6 (t : Th) (g1 : Nat) (g3 : Nat) : Act := ⟨#[.agg (tv0_c0 t), .int .i64 0, .pointer (some ⟨g1, 0, none⟩), zz, .pointer (some ⟨g3, 0, none⟩), .int .i64 0, .bool false, .bool false, .int .i64 0, zz, zz, zz, zz, zz, zz, zz], []⟩
def tv0_a7 (t : Th) (g1 : Nat) (g3 : Nat) : Act := ⟨#[.agg (tv0_c0 t), .int .i64 0, .pointer (some ⟨g1, 0, none⟩), zz, .pointer (some ⟨g3, 0, none⟩), .int .i64 0, .bool false, .bool false, .int .i64 0, .bool false, zz, zz, zz, zz, zz, zz], []⟩
def tv0_a8 (t : Th) (g1 : Nat) (g3 : Nat) : Act := ⟨#[.agg (tv0_c0 t), .int .i64 0, .pointer (some ⟨g1, 0, none⟩), zz, .pointer (some ⟨g3, 0, none⟩), .int .i64 0, .bool false, .bool false, .int .i64 0, .bool false, .bool false, zz, zz, zz, zz, zz], []⟩
def tv0_a9 (t : Th) (g1 : Nat) (g3 : Nat) : Act := ⟨#[.agg (tv0_c0 t), .int .i64 0, .pointer (some ⟨g1, 0, none⟩), zz, .pointer (some ⟨g3, 0, none⟩), .int .i64 0, .bool false, .bool false, .int .i64 0, .bool false, .bool false, zz, .int .i64 0, zz, zz, zz], []⟩
def tv0_a10 (t : Th) (g1 : Nat) (g3 : Nat) : Act := ⟨#[.agg (tv0_c0 t), .int .i64 0, .pointer (some ⟨g1, 0, none⟩), zz, .pointer (some ⟨g3, 0, none⟩), .int .i64 0, .bool false, .bool false, .int .i64 0, .bool false, .bool false, zz, .int .i64 0, .pointer (some ⟨g1, 3, none⟩), zz, zz], []⟩
def tv0_a11 (t : Th) (g1 : Nat) (g3 : Nat) : Act := ⟨#[.agg (tv0_c0 t), .int .i64 0, .pointer (some ⟨g1, 0, none⟩), zz, .pointer (some ⟨g3, 0, none⟩), .int .i64 0, .bool false, .bool false, .int .i64 0, .bool false, .bool false, zz, .int .i64 0, .pointer (some ⟨g1, 3, none⟩), .pointer (some ⟨g1, 3, none⟩), zz], []⟩
def tv0_a12 (t : Th) (g1 : Nat) (g3 : Nat) : Act := ⟨#[.agg (tv0_c0 t), .int .i64 0, .pointer (some ⟨g1, 0, none⟩), zz, .pointer (some ⟨g3, 0, none⟩), .int .i64 0, .bool false, .bool false, .int .i64 0, .bool false, .bool false, zz, .int .i64 0, .pointer (some ⟨g1, 3, none⟩), .pointer (some ⟨g1, 3, none⟩), .agg #[.int .i64 (t.R 0), .int .i64 (t.R 1), .int .i64 (t.R 2)]], []⟩
def tv1_c0 (t : Th) : Array Value := #[.int .i64 t.pc, .int .i64 t.fu, .int .i64 t.st, .int .i64 (t.R 0), .int .i64 (t.R 1), .int .i64 (t.R 2), .int .i64 (t.R 3), .int .i64 (t.R 4), .int .i64 (t.R 5), .int .i64 (t.R 6), .int .i64 (t.R 7), .int .i64 (t.R 8), .int .i64 (t.R 9), .int .i64 (t.R 10), .int .i64 (t.R 11), .int .i64 t.kd, .int .i64 t.mi, .int .i64 t.mn, t.sv, t.bv, t.nv, .int .i64 t.old]
def tv1_a1 (t : Th) (g1 : Nat) : Act := ⟨#[.agg (tv1_c0 t), .int .i64 1, .pointer (some ⟨g1, 0, none⟩), zz, zz, zz, zz, zz, zz, zz, zz, zz, zz, zz, zz, zz], []⟩
def tv1_a2 (t : Th) (g1 : Nat) (g3 : Nat) : Act := ⟨#[.agg (tv1_c0 t), .int .i64 1, .pointer (some ⟨g1, 0, none⟩), zz, .pointer (some ⟨g3, 0, none⟩), zz, zz, zz, zz, zz, zz, zz, zz, zz, zz, zz], []⟩
def tv1_a3 (t : Th) (g1 : Nat) (g3 : Nat) : Act := ⟨#[.agg (tv1_c0 t), .int .i64 1, .pointer (some ⟨g1, 0, none⟩), zz, .pointer (some ⟨g3, 0, none⟩), .int .i64 1, zz, zz, zz, zz, zz, zz, zz, zz, zz, zz], []⟩
def tv1_a4 (t : Th) (g1 : Nat) (g3 : Nat) : Act := ⟨#[.agg (tv1_c0 t), .int .i64 1, .pointer (some ⟨g1, 0, none⟩), zz, .pointer (some ⟨g3, 0, none⟩), .int .i64 1, .bool false, zz, zz, zz, zz, zz, zz, zz, zz, zz], []⟩
def tv1_a5 (t : Th) (g1 : Nat) (g3 : Nat) : Act := ⟨#[.agg (tv1_c0 t), .int .i64 1, .pointer (some ⟨g1, 0, none⟩), zz, .pointer (some ⟨g3, 0, none⟩), .int .i64 1, .bool false, .bool false, zz, zz, zz, zz, zz, zz, zz, zz], []⟩
def tv1_a6 (t : Th) (g1 : Nat) (g3 : Nat) : Act := ⟨#[.agg (tv1_c0 t), .int .i64 1, .pointer (some ⟨g1, 0, none⟩), zz, .pointer (some ⟨g3, 0, none⟩), .int .i64 1, .bool false, .bool false, .int .i64 1, zz, zz, zz, zz, zz, zz, zz], []⟩
def tv1_a7 (t : Th) (g1 : Nat) (g3 : Nat) : Act := ⟨#[.agg (tv1_c0 t), .int .i64 1, .pointer (some ⟨g1, 0, none⟩), zz, .pointer (some ⟨g3, 0, none⟩), .int .i64 1, .bool false, .bool false, .int .i64 1, .bool false, zz, zz, zz, zz, zz, zz], []⟩
def tv1_a8 (t : Th) (g1 : Nat) (g3 : Nat) : Act := ⟨#[.agg (tv1_c0 t), .int .i64 1, .pointer (some ⟨g1, 0, none⟩), zz, .pointer (some ⟨g3, 0, none⟩), .int .i64 1, .bool false, .bool false, .int .i64 1, .bool false, .bool false, zz, zz, zz, zz, zz], []⟩
def tv1_a9 (t : Th) (g1 : Nat) (g3 : Nat) : Act := ⟨#[.agg (tv1_c0 t), .int .i64 1, .pointer (some ⟨g1, 0, none⟩), zz, .pointer (some ⟨g3, 0, none⟩), .int .i64 1, .bool false, .bool false, .int .i64 1, .bool false, .bool false, zz, .int .i64 1, zz, zz, zz], []⟩
def tv1_a10 (t : Th) (g1 : Nat) (g3 : Nat) : Act := ⟨#[.agg (tv1_c0 t), .int .i64 1, .pointer (some ⟨g1, 0, none⟩), zz, .pointer (some ⟨g3, 0, none⟩), .int .i64 1, .bool false, .bool false, .int .i64 1, .bool false, .bool false, zz, .int .i64 1, .pointer (some ⟨g1, 3, none⟩), zz, zz], []⟩
def tv1_a11 (t : Th) (g1 : Nat) (g3 : Nat) : Act := ⟨#[.agg (tv1_c0 t), .int .i64 1, .pointer (some ⟨g1, 0, none⟩), zz, .pointer (some ⟨g3, 0, none⟩), .int .i64 1, .bool false, .bool false, .int .i64 1, .bool false, .bool false, zz, .int .i64 1, .pointer (some ⟨g1, 3, none⟩), .pointer (some ⟨g1, 6, none⟩), zz], []⟩
def tv1_a12 (t : Th) (g1 : Nat) (g3 : Nat) : Act := ⟨#[.agg (tv1_c0 t), .int .i64 1, .pointer (some ⟨g1, 0, none⟩), zz, .pointer (some ⟨g3, 0, none⟩), .int .i64 1, .bool false, .bool false, .int .i64 1, .bool false, .bool false, zz, .int .i64 1, .pointer (some ⟨g1, 3, none⟩), .pointer (some ⟨g1, 6, none⟩), .agg #[.int .i64 (t.R 3), .int .i64 (t.R 4), .int .i64 (t.R 5)]], []⟩
def tv2_c0 (t : Th) : Array Value := #[.int .i64 t.pc, .int .i64 t.fu, .int .i64 t.st, .int .i64 (t.R 0), .int .i64 (t.R 1), .int .i64 (t.R 2), .int .i64 (t.R 3), .int .i64 (t.R 4), .int .i64 (t.R 5), .int .i64 (t.R 6), .int .i64 (t.R 7), .int .i64 (t.R 8), .int .i64 (t.R 9), .int .i64 (t.R 10), .int .i64 (t.R 11), .int .i64 t.kd, .int .i64 t.mi, .int .i64 t.mn, t.sv, t.bv, t.nv, .int .i64 t.old]
def tv2_a1 (t : Th) (g1 : Nat) : Act := ⟨#[.agg (tv2_c0 t), .int .i64 2, .pointer (some ⟨g1, 0, none⟩), zz, zz, zz, zz, zz, zz, zz, zz, zz, zz, zz, zz, zz], []⟩
def tv2_a2 (t : Th) (g1 : Nat) (g3 : Nat) : Act := ⟨#[.agg (tv2_c0 t), .int .i64 2, .pointer (some ⟨g1, 0, none⟩), zz, .pointer (some ⟨g3, 0, none⟩), zz, zz, zz, zz, zz, zz, zz, zz, zz, zz, zz], []⟩
def tv2_a3 (t : Th) (g1 : Nat) (g3 : Nat) : Act := ⟨#[.agg (tv2_c0 t), .int .i64 2, .pointer (some ⟨g1, 0, none⟩), zz, .pointer (some ⟨g3, 0, none⟩), .int .i64 2, zz, zz, zz, zz, zz, zz, zz, zz, zz, zz], []⟩
def tv2_a4 (t : Th) (g1 : Nat) (g3 : Nat) : Act := ⟨#[.agg (tv2_c0 t), .int .i64 2, .pointer (some ⟨g1, 0, none⟩), zz, .pointer (some ⟨g3, 0, none⟩), .int .i64 2, .bool false, zz, zz, zz, zz, zz, zz, zz, zz, zz], []⟩
def tv2_a5 (t : Th) (g1 : Nat) (g3 : Nat) : Act := ⟨#[.agg (tv2_c0 t), .int .i64 2, .pointer (some ⟨g1, 0, none⟩), zz, .pointer (some ⟨g3, 0, none⟩), .int .i64 2, .bool false, .bool false, zz, zz, zz, zz, zz, zz, zz, zz], []⟩
def tv2_a6 (t : Th) (g1 : Nat) (g3 : Nat) : Act := ⟨#[.agg (tv2_c0 t), .int .i64 2, .pointer (some ⟨g1, 0, none⟩), zz, .pointer (some ⟨g3, 0, none⟩), .int .i64 2, .bool false, .bool false, .int .i64 2, zz, zz, zz, zz, zz, zz, zz], []⟩
def tv2_a7 (t : Th) (g1 : Nat) (g3 : Nat) : Act := ⟨#[.agg (tv2_c0 t), .int .i64 2, .pointer (some ⟨g1, 0, none⟩), zz, .pointer (some ⟨g3, 0, none⟩), .int .i64 2, .bool false, .bool false, .int .i64 2, .bool false, zz, zz, zz, zz, zz, zz], []⟩
def tv2_a8 (t : Th) (g1 : Nat) (g3 : Nat) : Act := ⟨#[.agg (tv2_c0 t), .int .i64 2, .pointer (some ⟨g1, 0, none⟩), zz, .pointer (some ⟨g3, 0, none⟩), .int .i64 2, .bool false, .bool false, .int .i64 2, .bool false, .bool false, zz, zz, zz, zz, zz], []⟩
def tv2_a9 (t : Th) (g1 : Nat) (g3 : Nat) : Act := ⟨#[.agg (tv2_c0 t), .int .i64 2, .pointer (some ⟨g1, 0, none⟩), zz, .pointer (some ⟨g3, 0, none⟩), .int .i64 2, .bool false, .bool false, .int .i64 2, .bool false, .bool false, zz, .int .i64 2, zz, zz, zz], []⟩
def tv2_a10 (t : Th) (g1 : Nat) (g3 : Nat) : Act := ⟨#[.agg (tv2_c0 t), .int .i64 2, .pointer (some ⟨g1, 0, none⟩), zz, .pointer (some ⟨g3, 0, none⟩), .int .i64 2, .bool false, .bool false, .int .i64 2, .bool false, .bool false, zz, .int .i64 2, .pointer (some ⟨g1, 3, none⟩), zz, zz], []⟩
def tv2_a11 (t : Th) (g1 : Nat) (g3 : Nat) : Act := ⟨#[.agg (tv2_c0 t), .int .i64 2, .pointer (some ⟨g1, 0, none⟩), zz, .pointer (some ⟨g3, 0, none⟩), .int .i64 2, .bool false, .bool false, .int .i64 2, .bool false, .bool false, zz, .int .i64 2, .pointer (some ⟨g1, 3, none⟩), .pointer (some ⟨g1, 9, none⟩), zz], []⟩
def tv2_a12 (t : Th) (g1 : Nat) (g3 : Nat) : Act := ⟨#[.agg (tv2_c0 t), .int .i64 2, .pointer (some ⟨g1, 0, none⟩), zz, .pointer (some ⟨g3, 0, none⟩), .int .i64 2, .bool false, .bool false, .int .i64 2, .bool false, .bool false, zz, .int .i64 2, .pointer (some ⟨g1, 3, none⟩), .pointer (some ⟨g1, 9, none⟩), .agg #[.int .i64 (t.R 6), .int .i64 (t.R 7), .int .i64 (t.R 8)]], []⟩
def tv3_c0 (t : Th) : Array Value := #[.int .i64 t.pc, .int .i64 t.fu, .int .i64 t.st, .int .i64 (t.R 0), .int .i64 (t.R 1), .int .i64 (t.R 2), .int .i64 (t.R 3), .int .i64 (t.R 4), .int .i64 (t.R 5), .int .i64 (t.R 6), .int .i64 (t.R 7), .int .i64 (t.R 8), .int .i64 (t.R 9), .int .i64 (t.R 10), .int .i64 (t.R 11), .int .i64 t.kd, .int .i64 t.mi, .int .i64 t.mn, t.sv, t.bv, t.nv, .int .i64 t.old]
def tv3_a1 (t : Th) (g1 : Nat) : Act := ⟨#[.agg (tv3_c0 t), .int .i64 3, .pointer (some ⟨g1, 0, none⟩), zz, zz, zz, zz, zz, zz, zz, zz, zz, zz, zz, zz, zz], []⟩
def tv3_a2 (t : Th) (g1 : Nat) (g3 : Nat) : Act := ⟨#[.agg (tv3_c0 t), .int .i64 3, .pointer (some ⟨g1, 0, none⟩), zz, .pointer (some ⟨g3, 0, none⟩), zz, zz, zz, zz, zz, zz, zz, zz, zz, zz, zz], []⟩
def tv3_a3 (t : Th) (g1 : Nat) (g3 : Nat) : Act := ⟨#[.agg (tv3_c0 t), .int .i64 3, .pointer (some ⟨g1, 0, none⟩), zz, .pointer (some ⟨g3, 0, none⟩), .int .i64 3, zz, zz, zz, zz, zz, zz, zz, zz, zz, zz], []⟩
def tv3_a4 (t : Th) (g1 : Nat) (g3 : Nat) : Act := ⟨#[.agg (tv3_c0 t), .int .i64 3, .pointer (some ⟨g1, 0, none⟩), zz, .pointer (some ⟨g3, 0, none⟩), .int .i64 3, .bool false, zz, zz, zz, zz, zz, zz, zz, zz, zz], []⟩
def tv3_a5 (t : Th) (g1 : Nat) (g3 : Nat) : Act := ⟨#[.agg (tv3_c0 t), .int .i64 3, .pointer (some ⟨g1, 0, none⟩), zz, .pointer (some ⟨g3, 0, none⟩), .int .i64 3, .bool false, .bool false, zz, zz, zz, zz, zz, zz, zz, zz], []⟩
def tv3_a6 (t : Th) (g1 : Nat) (g3 : Nat) : Act := ⟨#[.agg (tv3_c0 t), .int .i64 3, .pointer (some ⟨g1, 0, none⟩), zz, .pointer (some ⟨g3, 0, none⟩), .int .i64 3, .bool false, .bool false, .int .i64 3, zz, zz, zz, zz, zz, zz, zz], []⟩
def tv3_a7 (t : Th) (g1 : Nat) (g3 : Nat) : Act := ⟨#[.agg (tv3_c0 t), .int .i64 3, .pointer (some ⟨g1, 0, none⟩), zz, .pointer (some ⟨g3, 0, none⟩), .int .i64 3, .bool false, .bool false, .int .i64 3, .bool false, zz, zz, zz, zz, zz, zz], []⟩
def tv3_a8 (t : Th) (g1 : Nat) (g3 : Nat) : Act := ⟨#[.agg (tv3_c0 t), .int .i64 3, .pointer (some ⟨g1, 0, none⟩), zz, .pointer (some ⟨g3, 0, none⟩), .int .i64 3, .bool false, .bool false, .int .i64 3, .bool false, .bool false, zz, zz, zz, zz, zz], []⟩
def tv3_a9 (t : Th) (g1 : Nat) (g3 : Nat) : Act := ⟨#[.agg (tv3_c0 t), .int .i64 3, .pointer (some ⟨g1, 0, none⟩), zz, .pointer (some ⟨g3, 0, none⟩), .int .i64 3, .bool false, .bool false, .int .i64 3, .bool false, .bool false, zz, .int .i64 3, zz, zz, zz], []⟩
def tv3_a10 (t : Th) (g1 : Nat) (g3 : Nat) : Act := ⟨#[.agg (tv3_c0 t), .int .i64 3, .pointer (some ⟨g1, 0, none⟩), zz, .pointer (some ⟨g3, 0, none⟩), .int .i64 3, .bool false, .bool false, .int .i64 3, .bool false, .bool false, zz, .int .i64 3, .pointer (some ⟨g1, 3, none⟩), zz, zz], []⟩
def tv3_a11 (t : Th) (g1 : Nat) (g3 : Nat) : Act := ⟨#[.agg (tv3_c0 t), .int .i64 3, .pointer (some ⟨g1, 0, none⟩), zz, .pointer (some ⟨g3, 0, none⟩), .int .i64 3, .bool false, .bool false, .int .i64 3, .bool false, .bool false, zz, .int .i64 3, .pointer (some ⟨g1, 3, none⟩), .pointer (some ⟨g1, 12, none⟩), zz], []⟩
def tv3_a12 (t : Th) (g1 : Nat) (g3 : Nat) : Act := ⟨#[.agg (tv3_c0 t), .int .i64 3, .pointer (some ⟨g1, 0, none⟩), zz, .pointer (some ⟨g3, 0, none⟩), .int .i64 3, .bool false, .bool false, .int .i64 3, .bool false, .bool false, zz, .int .i64 3, .pointer (some ⟨g1, 3, none⟩), .pointer (some ⟨g1, 12, none⟩), .agg #[.int .i64 (t.R 9), .int .i64 (t.R 10), .int .i64 (t.R 11)]], []⟩
set_option maxHeartbeats 8000000 in
set_option maxRecDepth 100000 in
theorem th_rGet (t : Th) (r : Int) (w : World) : Calls Try.prog 20 #[.agg t.cells, .int .i64 r] w fun e w' => e = .returned (.agg #[.int .i64 (getR t.R r 0), .int .i64 (getR t.R r 1), .int .i64 (getR t.R r 2)]) ∧ Below w.heap.size w w' := by
  have hc : r < 0 ∨ (0 ≤ r ∧ 3 < r) ∨ r = 0 ∨ r = 1 ∨ r = 2 ∨ r = 3 := by omega
  rcases hc with hrr | hrr | rfl | rfl | rfl | rfl
  · skip
    refine calls_of_wp Try.func20 rfl ?_
    have hW := Ws.nil w
    refine wp_seq ?_
    refine wp_region_list ?_
    obtain ⟨g1, W2, hr, hW, hbb, hge⟩ := hW.mk1 (P := Try.prog) (s := Instr.box 32 (.agg (tvn_c0 t))) (tvn_c0 t) 32 (by kernel_rfl)
    refine se (a' := (tvn_a1 t r g1)) (.pointer (some ⟨g1, 0, none⟩)) (Eq.trans (b := (do pure (Next.value (← Instr.box 32 (.agg (tvn_c0 t)))) : Sem Next).run Try.prog w) (by kernel_rfl) (st_val hr)) ?_
    obtain ⟨g3, W4, hr, hW, hbb, hge⟩ := hW.mk1 (P := Try.prog) (s := Instr.alloc 25 true (.tuple #[])) #[.int .i64 0, .int .i64 0, .int .i64 0] 25 (by kernel_rfl)
    refine se (a' := (tvn_a2 t r g1 g3)) (.pointer (some ⟨g3, 0, none⟩)) (Eq.trans (b := (do pure (Next.value (← Instr.alloc 25 true (.tuple #[]))) : Sem Next).run Try.prog W2) (by kernel_rfl) (st_val hr)) ?_
    refine wpList_nil ?_
    refine wp_seq ?_
    refine wp_seq ?_
    refine wp_region_list ?_
    refine sk (a' := (tvn_a3 t r g1 g3)) (.int .i64 r) ?_
    refine se (a' := (tvn_a4 t r g1 g3)) (.bool true) (Eq.trans (b := .ok (.value (.bool (decide ((r : Int) < 0)))) W4) (by kernel_rfl) (st_ok (decide_eq_true (by omega)))) ?_
    refine st_ones (w' := W4) (a' := (tvn_a5 t r g1 g3)) (a2 := (tvn_a5 t r g1 g3)) 2 (.bool true) (by kernel_rfl) (by kernel_rfl) (by kernel_rfl) (by kernel_rfl) (by kernel_rfl) ?_
    refine sk (a' := (tvn_a6 t r g1 g3)) (.bool true) ?_
    refine wpList_nil ?_
    refine wp_cond (t := true) (by kernel_rfl) ?_
    refine wp_seq ?_
    refine wp_region_list ?_
    refine sk (a' := (tvn_a7 t r g1 g3)) (.agg #[.int .i64 0, .int .i64 0, .int .i64 0]) ?_
    obtain ⟨W5, hr, hW, hF⟩ := hW.storeN (P := Try.prog) (o := 0) (cs' := #[.int .i64 0, .int .i64 0, .int .i64 0]) (L' := [(g3, 25, #[.int .i64 0, .int .i64 0, .int .i64 0]), (g1, 32, (tvn_c0 t))]) 0 rfl #[.int .i64 0, .int .i64 0, .int .i64 0] (by kernel_rfl) (Nat.le_of_ble_eq_true rfl) (by kernel_rfl) rfl 25 (by kernel_rfl)
    refine st_none (w' := W5) (a' := (tvn_a7 t r g1 g3)) (by kernel_rfl) (Eq.trans (b := (do Instr.storeAt 25 (.pointer (some ⟨g3, 0, none⟩)) (.agg #[.int .i64 0, .int .i64 0, .int .i64 0]); pure Next.skip : Sem Next).run Try.prog W4) (by kernel_rfl) (st_unit hr)) (by kernel_rfl) ?_
    refine wpList_nil ?_
    refine wp_ret ?_
    (try simp only [Exit.then, Exit.inBlock])
    change bodyPost Try.prog Try.f20 _ .ret _ _
    refine bodyPost_ret (results_single rfl (.cell g3 25 _ (0, 0) _ (by kernel_rfl) (hW.blk 0 _ _ _ rfl).1 Try.underlying25 rfl (by kernel_rfl) .nil)) rfl ?_
    refine ⟨?_, hW.below⟩
    unfold getR
    simp only [if_neg (show ¬ (0 ≤ r ∧ r ≤ 3) by omega)]
  · skip
    refine calls_of_wp Try.func20 rfl ?_
    have hW := Ws.nil w
    refine wp_seq ?_
    refine wp_region_list ?_
    obtain ⟨g1, W2, hr, hW, hbb, hge⟩ := hW.mk1 (P := Try.prog) (s := Instr.box 32 (.agg (tvo_c0 t))) (tvo_c0 t) 32 (by kernel_rfl)
    refine se (a' := (tvo_a1 t r g1)) (.pointer (some ⟨g1, 0, none⟩)) (Eq.trans (b := (do pure (Next.value (← Instr.box 32 (.agg (tvo_c0 t)))) : Sem Next).run Try.prog w) (by kernel_rfl) (st_val hr)) ?_
    obtain ⟨g3, W4, hr, hW, hbb, hge⟩ := hW.mk1 (P := Try.prog) (s := Instr.alloc 25 true (.tuple #[])) #[.int .i64 0, .int .i64 0, .int .i64 0] 25 (by kernel_rfl)
    refine se (a' := (tvo_a2 t r g1 g3)) (.pointer (some ⟨g3, 0, none⟩)) (Eq.trans (b := (do pure (Next.value (← Instr.alloc 25 true (.tuple #[]))) : Sem Next).run Try.prog W2) (by kernel_rfl) (st_val hr)) ?_
    refine wpList_nil ?_
    refine wp_seq ?_
    refine wp_seq ?_
    refine wp_region_list ?_
    refine sk (a' := (tvo_a3 t r g1 g3)) (.int .i64 r) ?_
    refine se (a' := (tvo_a4 t r g1 g3)) (.bool false) (Eq.trans (b := .ok (.value (.bool (decide ((r : Int) < 0)))) W4) (by kernel_rfl) (st_ok (decide_eq_false (by omega)))) ?_
    refine sk (a' := (tvo_a5 t r g1 g3)) (.bool false) ?_
    refine sk (a' := (tvo_a6 t r g1 g3)) (.int .i64 r) ?_
    refine se (a' := (tvo_a7 t r g1 g3)) (.bool true) (Eq.trans (b := .ok (.value (.bool (decide ((r : Int) > 3)))) W4) (by kernel_rfl) (st_ok (decide_eq_true (by omega)))) ?_
    refine sk (a' := (tvo_a8 t r g1 g3)) (.bool true) ?_
    refine wpList_nil ?_
    refine wp_cond (t := true) (by kernel_rfl) ?_
    refine wp_seq ?_
    refine wp_region_list ?_
    refine sk (a' := (tvo_a9 t r g1 g3)) (.agg #[.int .i64 0, .int .i64 0, .int .i64 0]) ?_
    obtain ⟨W5, hr, hW, hF⟩ := hW.storeN (P := Try.prog) (o := 0) (cs' := #[.int .i64 0, .int .i64 0, .int .i64 0]) (L' := [(g3, 25, #[.int .i64 0, .int .i64 0, .int .i64 0]), (g1, 32, (tvo_c0 t))]) 0 rfl #[.int .i64 0, .int .i64 0, .int .i64 0] (by kernel_rfl) (Nat.le_of_ble_eq_true rfl) (by kernel_rfl) rfl 25 (by kernel_rfl)
    refine st_none (w' := W5) (a' := (tvo_a9 t r g1 g3)) (by kernel_rfl) (Eq.trans (b := (do Instr.storeAt 25 (.pointer (some ⟨g3, 0, none⟩)) (.agg #[.int .i64 0, .int .i64 0, .int .i64 0]); pure Next.skip : Sem Next).run Try.prog W4) (by kernel_rfl) (st_unit hr)) (by kernel_rfl) ?_
    refine wpList_nil ?_
    refine wp_ret ?_
    (try simp only [Exit.then, Exit.inBlock])
    change bodyPost Try.prog Try.f20 _ .ret _ _
    refine bodyPost_ret (results_single rfl (.cell g3 25 _ (0, 0) _ (by kernel_rfl) (hW.blk 0 _ _ _ rfl).1 Try.underlying25 rfl (by kernel_rfl) .nil)) rfl ?_
    refine ⟨?_, hW.below⟩
    unfold getR
    simp only [if_neg (show ¬ (0 ≤ r ∧ r ≤ 3) by omega)]
  · skip
    refine calls_of_wp Try.func20 rfl ?_
    have hW := Ws.nil w
    refine wp_seq ?_
    refine wp_region_list ?_
    obtain ⟨g1, W2, hr, hW, hbb, hge⟩ := hW.mk1 (P := Try.prog) (s := Instr.box 32 (.agg (tv0_c0 t))) (tv0_c0 t) 32 (by kernel_rfl)
    refine se (a' := (tv0_a1 t g1)) (.pointer (some ⟨g1, 0, none⟩)) (Eq.trans (b := (do pure (Next.value (← Instr.box 32 (.agg (tv0_c0 t)))) : Sem Next).run Try.prog w) (by kernel_rfl) (st_val hr)) ?_
    obtain ⟨g3, W4, hr, hW, hbb, hge⟩ := hW.mk1 (P := Try.prog) (s := Instr.alloc 25 true (.tuple #[])) #[.int .i64 0, .int .i64 0, .int .i64 0] 25 (by kernel_rfl)
    refine se (a' := (tv0_a2 t g1 g3)) (.pointer (some ⟨g3, 0, none⟩)) (Eq.trans (b := (do pure (Next.value (← Instr.alloc 25 true (.tuple #[]))) : Sem Next).run Try.prog W2) (by kernel_rfl) (st_val hr)) ?_
    refine wpList_nil ?_
    refine wp_seq ?_
    refine wp_seq ?_
    refine wp_region_list ?_
    refine sk (a' := (tv0_a3 t g1 g3)) (.int .i64 0) ?_
    refine sk (a' := (tv0_a4 t g1 g3)) (.bool false) ?_
    refine sk (a' := (tv0_a5 t g1 g3)) (.bool false) ?_
    refine sk (a' := (tv0_a6 t g1 g3)) (.int .i64 0) ?_
    refine sk (a' := (tv0_a7 t g1 g3)) (.bool false) ?_
    refine sk (a' := (tv0_a8 t g1 g3)) (.bool false) ?_
    refine wpList_nil ?_
    refine wp_cond (t := false) (by kernel_rfl) ?_
    refine wp_skip ?_
    refine wp_seq ?_
    refine wp_region_list ?_
    refine sk (a' := (tv0_a9 t g1 g3)) (.int .i64 0) ?_
    refine sk (a' := (tv0_a10 t g1 g3)) (.pointer (some ⟨g1, 3, none⟩)) ?_
    refine sk (a' := (tv0_a11 t g1 g3)) (.pointer (some ⟨g1, 3, none⟩)) ?_
    refine se (a' := (tv0_a12 t g1 g3)) (.agg #[.int .i64 (t.R 0), .int .i64 (t.R 1), .int .i64 (t.R 2)]) (evA hW 1 3 Try.underlying25) ?_
    obtain ⟨W5, hr, hW, hF⟩ := hW.storeN (P := Try.prog) (o := 0) (cs' := #[.int .i64 (t.R 0), .int .i64 (t.R 1), .int .i64 (t.R 2)]) (L' := [(g3, 25, #[.int .i64 (t.R 0), .int .i64 (t.R 1), .int .i64 (t.R 2)]), (g1, 32, (tv0_c0 t))]) 0 rfl #[.int .i64 (t.R 0), .int .i64 (t.R 1), .int .i64 (t.R 2)] (by kernel_rfl) (Nat.le_of_ble_eq_true rfl) (by kernel_rfl) rfl 25 (by kernel_rfl)
    refine st_none (w' := W5) (a' := (tv0_a12 t g1 g3)) (by kernel_rfl) (Eq.trans (b := (do Instr.storeAt 25 (.pointer (some ⟨g3, 0, none⟩)) (.agg #[.int .i64 (t.R 0), .int .i64 (t.R 1), .int .i64 (t.R 2)]); pure Next.skip : Sem Next).run Try.prog W4) (by kernel_rfl) (st_unit hr)) (by kernel_rfl) ?_
    refine wpList_nil ?_
    refine wp_ret ?_
    (try simp only [Exit.then, Exit.inBlock])
    change bodyPost Try.prog Try.f20 _ .ret _ _
    refine bodyPost_ret (results_single rfl (.cell g3 25 _ (0, 0) _ (by kernel_rfl) (hW.blk 0 _ _ _ rfl).1 Try.underlying25 rfl (by kernel_rfl) .nil)) rfl ?_
    exact ⟨rfl, hW.below⟩
  · skip
    refine calls_of_wp Try.func20 rfl ?_
    have hW := Ws.nil w
    refine wp_seq ?_
    refine wp_region_list ?_
    obtain ⟨g1, W2, hr, hW, hbb, hge⟩ := hW.mk1 (P := Try.prog) (s := Instr.box 32 (.agg (tv1_c0 t))) (tv1_c0 t) 32 (by kernel_rfl)
    refine se (a' := (tv1_a1 t g1)) (.pointer (some ⟨g1, 0, none⟩)) (Eq.trans (b := (do pure (Next.value (← Instr.box 32 (.agg (tv1_c0 t)))) : Sem Next).run Try.prog w) (by kernel_rfl) (st_val hr)) ?_
    obtain ⟨g3, W4, hr, hW, hbb, hge⟩ := hW.mk1 (P := Try.prog) (s := Instr.alloc 25 true (.tuple #[])) #[.int .i64 0, .int .i64 0, .int .i64 0] 25 (by kernel_rfl)
    refine se (a' := (tv1_a2 t g1 g3)) (.pointer (some ⟨g3, 0, none⟩)) (Eq.trans (b := (do pure (Next.value (← Instr.alloc 25 true (.tuple #[]))) : Sem Next).run Try.prog W2) (by kernel_rfl) (st_val hr)) ?_
    refine wpList_nil ?_
    refine wp_seq ?_
    refine wp_seq ?_
    refine wp_region_list ?_
    refine sk (a' := (tv1_a3 t g1 g3)) (.int .i64 1) ?_
    refine sk (a' := (tv1_a4 t g1 g3)) (.bool false) ?_
    refine sk (a' := (tv1_a5 t g1 g3)) (.bool false) ?_
    refine sk (a' := (tv1_a6 t g1 g3)) (.int .i64 1) ?_
    refine sk (a' := (tv1_a7 t g1 g3)) (.bool false) ?_
    refine sk (a' := (tv1_a8 t g1 g3)) (.bool false) ?_
    refine wpList_nil ?_
    refine wp_cond (t := false) (by kernel_rfl) ?_
    refine wp_skip ?_
    refine wp_seq ?_
    refine wp_region_list ?_
    refine sk (a' := (tv1_a9 t g1 g3)) (.int .i64 1) ?_
    refine sk (a' := (tv1_a10 t g1 g3)) (.pointer (some ⟨g1, 3, none⟩)) ?_
    refine sk (a' := (tv1_a11 t g1 g3)) (.pointer (some ⟨g1, 6, none⟩)) ?_
    refine se (a' := (tv1_a12 t g1 g3)) (.agg #[.int .i64 (t.R 3), .int .i64 (t.R 4), .int .i64 (t.R 5)]) (evA hW 1 6 Try.underlying25) ?_
    obtain ⟨W5, hr, hW, hF⟩ := hW.storeN (P := Try.prog) (o := 0) (cs' := #[.int .i64 (t.R 3), .int .i64 (t.R 4), .int .i64 (t.R 5)]) (L' := [(g3, 25, #[.int .i64 (t.R 3), .int .i64 (t.R 4), .int .i64 (t.R 5)]), (g1, 32, (tv1_c0 t))]) 0 rfl #[.int .i64 (t.R 3), .int .i64 (t.R 4), .int .i64 (t.R 5)] (by kernel_rfl) (Nat.le_of_ble_eq_true rfl) (by kernel_rfl) rfl 25 (by kernel_rfl)
    refine st_none (w' := W5) (a' := (tv1_a12 t g1 g3)) (by kernel_rfl) (Eq.trans (b := (do Instr.storeAt 25 (.pointer (some ⟨g3, 0, none⟩)) (.agg #[.int .i64 (t.R 3), .int .i64 (t.R 4), .int .i64 (t.R 5)]); pure Next.skip : Sem Next).run Try.prog W4) (by kernel_rfl) (st_unit hr)) (by kernel_rfl) ?_
    refine wpList_nil ?_
    refine wp_ret ?_
    (try simp only [Exit.then, Exit.inBlock])
    change bodyPost Try.prog Try.f20 _ .ret _ _
    refine bodyPost_ret (results_single rfl (.cell g3 25 _ (0, 0) _ (by kernel_rfl) (hW.blk 0 _ _ _ rfl).1 Try.underlying25 rfl (by kernel_rfl) .nil)) rfl ?_
    exact ⟨rfl, hW.below⟩
  · skip
    refine calls_of_wp Try.func20 rfl ?_
    have hW := Ws.nil w
    refine wp_seq ?_
    refine wp_region_list ?_
    obtain ⟨g1, W2, hr, hW, hbb, hge⟩ := hW.mk1 (P := Try.prog) (s := Instr.box 32 (.agg (tv2_c0 t))) (tv2_c0 t) 32 (by kernel_rfl)
    refine se (a' := (tv2_a1 t g1)) (.pointer (some ⟨g1, 0, none⟩)) (Eq.trans (b := (do pure (Next.value (← Instr.box 32 (.agg (tv2_c0 t)))) : Sem Next).run Try.prog w) (by kernel_rfl) (st_val hr)) ?_
    obtain ⟨g3, W4, hr, hW, hbb, hge⟩ := hW.mk1 (P := Try.prog) (s := Instr.alloc 25 true (.tuple #[])) #[.int .i64 0, .int .i64 0, .int .i64 0] 25 (by kernel_rfl)
    refine se (a' := (tv2_a2 t g1 g3)) (.pointer (some ⟨g3, 0, none⟩)) (Eq.trans (b := (do pure (Next.value (← Instr.alloc 25 true (.tuple #[]))) : Sem Next).run Try.prog W2) (by kernel_rfl) (st_val hr)) ?_
    refine wpList_nil ?_
    refine wp_seq ?_
    refine wp_seq ?_
    refine wp_region_list ?_
    refine sk (a' := (tv2_a3 t g1 g3)) (.int .i64 2) ?_
    refine sk (a' := (tv2_a4 t g1 g3)) (.bool false) ?_
    refine sk (a' := (tv2_a5 t g1 g3)) (.bool false) ?_
    refine sk (a' := (tv2_a6 t g1 g3)) (.int .i64 2) ?_
    refine sk (a' := (tv2_a7 t g1 g3)) (.bool false) ?_
    refine sk (a' := (tv2_a8 t g1 g3)) (.bool false) ?_
    refine wpList_nil ?_
    refine wp_cond (t := false) (by kernel_rfl) ?_
    refine wp_skip ?_
    refine wp_seq ?_
    refine wp_region_list ?_
    refine sk (a' := (tv2_a9 t g1 g3)) (.int .i64 2) ?_
    refine sk (a' := (tv2_a10 t g1 g3)) (.pointer (some ⟨g1, 3, none⟩)) ?_
    refine sk (a' := (tv2_a11 t g1 g3)) (.pointer (some ⟨g1, 9, none⟩)) ?_
    refine se (a' := (tv2_a12 t g1 g3)) (.agg #[.int .i64 (t.R 6), .int .i64 (t.R 7), .int .i64 (t.R 8)]) (evA hW 1 9 Try.underlying25) ?_
    obtain ⟨W5, hr, hW, hF⟩ := hW.storeN (P := Try.prog) (o := 0) (cs' := #[.int .i64 (t.R 6), .int .i64 (t.R 7), .int .i64 (t.R 8)]) (L' := [(g3, 25, #[.int .i64 (t.R 6), .int .i64 (t.R 7), .int .i64 (t.R 8)]), (g1, 32, (tv2_c0 t))]) 0 rfl #[.int .i64 (t.R 6), .int .i64 (t.R 7), .int .i64 (t.R 8)] (by kernel_rfl) (Nat.le_of_ble_eq_true rfl) (by kernel_rfl) rfl 25 (by kernel_rfl)
    refine st_none (w' := W5) (a' := (tv2_a12 t g1 g3)) (by kernel_rfl) (Eq.trans (b := (do Instr.storeAt 25 (.pointer (some ⟨g3, 0, none⟩)) (.agg #[.int .i64 (t.R 6), .int .i64 (t.R 7), .int .i64 (t.R 8)]); pure Next.skip : Sem Next).run Try.prog W4) (by kernel_rfl) (st_unit hr)) (by kernel_rfl) ?_
    refine wpList_nil ?_
    refine wp_ret ?_
    (try simp only [Exit.then, Exit.inBlock])
    change bodyPost Try.prog Try.f20 _ .ret _ _
    refine bodyPost_ret (results_single rfl (.cell g3 25 _ (0, 0) _ (by kernel_rfl) (hW.blk 0 _ _ _ rfl).1 Try.underlying25 rfl (by kernel_rfl) .nil)) rfl ?_
    exact ⟨rfl, hW.below⟩
  · skip
    refine calls_of_wp Try.func20 rfl ?_
    have hW := Ws.nil w
    refine wp_seq ?_
    refine wp_region_list ?_
    obtain ⟨g1, W2, hr, hW, hbb, hge⟩ := hW.mk1 (P := Try.prog) (s := Instr.box 32 (.agg (tv3_c0 t))) (tv3_c0 t) 32 (by kernel_rfl)
    refine se (a' := (tv3_a1 t g1)) (.pointer (some ⟨g1, 0, none⟩)) (Eq.trans (b := (do pure (Next.value (← Instr.box 32 (.agg (tv3_c0 t)))) : Sem Next).run Try.prog w) (by kernel_rfl) (st_val hr)) ?_
    obtain ⟨g3, W4, hr, hW, hbb, hge⟩ := hW.mk1 (P := Try.prog) (s := Instr.alloc 25 true (.tuple #[])) #[.int .i64 0, .int .i64 0, .int .i64 0] 25 (by kernel_rfl)
    refine se (a' := (tv3_a2 t g1 g3)) (.pointer (some ⟨g3, 0, none⟩)) (Eq.trans (b := (do pure (Next.value (← Instr.alloc 25 true (.tuple #[]))) : Sem Next).run Try.prog W2) (by kernel_rfl) (st_val hr)) ?_
    refine wpList_nil ?_
    refine wp_seq ?_
    refine wp_seq ?_
    refine wp_region_list ?_
    refine sk (a' := (tv3_a3 t g1 g3)) (.int .i64 3) ?_
    refine sk (a' := (tv3_a4 t g1 g3)) (.bool false) ?_
    refine sk (a' := (tv3_a5 t g1 g3)) (.bool false) ?_
    refine sk (a' := (tv3_a6 t g1 g3)) (.int .i64 3) ?_
    refine sk (a' := (tv3_a7 t g1 g3)) (.bool false) ?_
    refine sk (a' := (tv3_a8 t g1 g3)) (.bool false) ?_
    refine wpList_nil ?_
    refine wp_cond (t := false) (by kernel_rfl) ?_
    refine wp_skip ?_
    refine wp_seq ?_
    refine wp_region_list ?_
    refine sk (a' := (tv3_a9 t g1 g3)) (.int .i64 3) ?_
    refine sk (a' := (tv3_a10 t g1 g3)) (.pointer (some ⟨g1, 3, none⟩)) ?_
    refine sk (a' := (tv3_a11 t g1 g3)) (.pointer (some ⟨g1, 12, none⟩)) ?_
    refine se (a' := (tv3_a12 t g1 g3)) (.agg #[.int .i64 (t.R 9), .int .i64 (t.R 10), .int .i64 (t.R 11)]) (evA hW 1 12 Try.underlying25) ?_
    obtain ⟨W5, hr, hW, hF⟩ := hW.storeN (P := Try.prog) (o := 0) (cs' := #[.int .i64 (t.R 9), .int .i64 (t.R 10), .int .i64 (t.R 11)]) (L' := [(g3, 25, #[.int .i64 (t.R 9), .int .i64 (t.R 10), .int .i64 (t.R 11)]), (g1, 32, (tv3_c0 t))]) 0 rfl #[.int .i64 (t.R 9), .int .i64 (t.R 10), .int .i64 (t.R 11)] (by kernel_rfl) (Nat.le_of_ble_eq_true rfl) (by kernel_rfl) rfl 25 (by kernel_rfl)
    refine st_none (w' := W5) (a' := (tv3_a12 t g1 g3)) (by kernel_rfl) (Eq.trans (b := (do Instr.storeAt 25 (.pointer (some ⟨g3, 0, none⟩)) (.agg #[.int .i64 (t.R 9), .int .i64 (t.R 10), .int .i64 (t.R 11)]); pure Next.skip : Sem Next).run Try.prog W4) (by kernel_rfl) (st_unit hr)) (by kernel_rfl) ?_
    refine wpList_nil ?_
    refine wp_ret ?_
    (try simp only [Exit.then, Exit.inBlock])
    change bodyPost Try.prog Try.f20 _ .ret _ _
    refine bodyPost_ret (results_single rfl (.cell g3 25 _ (0, 0) _ (by kernel_rfl) (hW.blk 0 _ _ _ rfl).1 Try.underlying25 rfl (by kernel_rfl) .nil)) rfl ?_
    exact ⟨rfl, hW.below⟩
def tun_c0 (t : Th) : Array Value := #[.int .i64 t.pc, .int .i64 t.fu, .int .i64 t.st, .int .i64 (t.R 0), .int .i64 (t.R 1), .int .i64 (t.R 2), .int .i64 (t.R 3), .int .i64 (t.R 4), .int .i64 (t.R 5), .int .i64 (t.R 6), .int .i64 (t.R 7), .int .i64 (t.R 8), .int .i64 (t.R 9), .int .i64 (t.R 10), .int .i64 (t.R 11), .int .i64 t.kd, .int .i64 t.mi, .int .i64 t.mn, t.sv, t.bv, t.nv, .int .i64 t.old]
def tun_a1 (t : Th) (r : Int) (n : Int) (c : Int) (g : Int) (g1 : Nat) : Act := ⟨#[.agg (tun_c0 t), .int .i64 r, .agg #[.int .i64 n, .int .i64 c, .int .i64 g], .pointer (some ⟨g1, 0, none⟩), zz, zz, zz, zz, zz, zz, zz, zz, zz, zz, zz, zz, zz, zz, zz, zz], []⟩
def tun_a2 (t : Th) (r : Int) (n : Int) (c : Int) (g : Int) (g1 : Nat) (g3 : Nat) : Act := ⟨#[.agg (tun_c0 t), .int .i64 r, .agg #[.int .i64 n, .int .i64 c, .int .i64 g], .pointer (some ⟨g1, 0, none⟩), zz, .pointer (some ⟨g3, 0, none⟩), zz, zz, zz, zz, zz, zz, zz, zz, zz, zz, zz, zz, zz, zz], []⟩
def tun_c1 : Array Value := #[.int .i64 0, .int .i64 0, .int .i64 0, .int .i64 0, .int .i64 0, .int .i64 0, .int .i64 0, .int .i64 0, .int .i64 0, .int .i64 0, .int .i64 0, .int .i64 0, .int .i64 0, .int .i64 0, .int .i64 0, .int .i64 0, .int .i64 0, .int .i64 0, .slice none 0 0, .slice none 0 0, .slice none 0 0, .int .i64 0]
def tun_a4 (t : Th) (r : Int) (n : Int) (c : Int) (g : Int) (g1 : Nat) (g3 : Nat) (g5 : Nat) : Act := ⟨#[.agg (tun_c0 t), .int .i64 r, .agg #[.int .i64 n, .int .i64 c, .int .i64 g], .pointer (some ⟨g1, 0, none⟩), zz, .pointer (some ⟨g3, 0, none⟩), .pointer (some ⟨g5, 0, none⟩), zz, zz, zz, zz, zz, zz, zz, zz, zz, zz, zz, zz, zz], []⟩
def tun_a5 (t : Th) (r : Int) (n : Int) (c : Int) (g : Int) (g1 : Nat) (g3 : Nat) (g5 : Nat) : Act := ⟨#[.agg (tun_c0 t), .int .i64 r, .agg #[.int .i64 n, .int .i64 c, .int .i64 g], .pointer (some ⟨g1, 0, none⟩), zz, .pointer (some ⟨g3, 0, none⟩), .pointer (some ⟨g5, 0, none⟩), .agg (tun_c0 t), zz, zz, zz, zz, zz, zz, zz, zz, zz, zz, zz, zz], []⟩
def tun_c2 (t : Th) (r7 : Rw) : Array Value := #[.int .i64 t.pc, .int .i64 t.fu, .int .i64 t.st, .int .i64 (t.R 0), .int .i64 (t.R 1), .int .i64 (t.R 2), .int .i64 (t.R 3), .int .i64 (t.R 4), .int .i64 (t.R 5), .int .i64 (t.R 6), .int .i64 (t.R 7), .int .i64 (t.R 8), .int .i64 (t.R 9), .int .i64 (t.R 10), .int .i64 (t.R 11), .int .i64 t.kd, .int .i64 t.mi, .int .i64 t.mn, r7.s, r7.b, r7.n, .int .i64 t.old]
def tun_a7 (t : Th) (r : Int) (n : Int) (c : Int) (g : Int) (g1 : Nat) (g3 : Nat) (g5 : Nat) (r7 : Rw) : Act := ⟨#[.agg (tun_c0 t), .int .i64 r, .agg #[.int .i64 n, .int .i64 c, .int .i64 g], .pointer (some ⟨g1, 0, none⟩), zz, .pointer (some ⟨g3, 0, none⟩), .pointer (some ⟨g5, 0, none⟩), .agg (tun_c0 t), .agg (tun_c2 t r7), zz, zz, zz, zz, zz, zz, zz, zz, zz, zz, zz], []⟩
def tun_a8 (t : Th) (r : Int) (n : Int) (c : Int) (g : Int) (g1 : Nat) (g3 : Nat) (g5 : Nat) (r7 : Rw) : Act := ⟨#[.agg (tun_c0 t), .int .i64 r, .agg #[.int .i64 n, .int .i64 c, .int .i64 g], .pointer (some ⟨g1, 0, none⟩), zz, .pointer (some ⟨g3, 0, none⟩), .pointer (some ⟨g5, 0, none⟩), .agg (tun_c0 t), .agg (tun_c2 t r7), .int .i64 r, zz, zz, zz, zz, zz, zz, zz, zz, zz, zz], []⟩
def tun_a9 (t : Th) (r : Int) (n : Int) (c : Int) (g : Int) (g1 : Nat) (g3 : Nat) (g5 : Nat) (r7 : Rw) : Act := ⟨#[.agg (tun_c0 t), .int .i64 r, .agg #[.int .i64 n, .int .i64 c, .int .i64 g], .pointer (some ⟨g1, 0, none⟩), zz, .pointer (some ⟨g3, 0, none⟩), .pointer (some ⟨g5, 0, none⟩), .agg (tun_c0 t), .agg (tun_c2 t r7), .int .i64 r, .bool false, zz, zz, zz, zz, zz, zz, zz, zz, zz], []⟩
def tun_a10 (t : Th) (r : Int) (n : Int) (c : Int) (g : Int) (g1 : Nat) (g3 : Nat) (g5 : Nat) (r7 : Rw) : Act := ⟨#[.agg (tun_c0 t), .int .i64 r, .agg #[.int .i64 n, .int .i64 c, .int .i64 g], .pointer (some ⟨g1, 0, none⟩), zz, .pointer (some ⟨g3, 0, none⟩), .pointer (some ⟨g5, 0, none⟩), .agg (tun_c0 t), .agg (tun_c2 t r7), .int .i64 r, .bool false, .bool false, zz, zz, zz, zz, zz, zz, zz, zz], []⟩
def tun_a11 (t : Th) (r : Int) (n : Int) (c : Int) (g : Int) (g1 : Nat) (g3 : Nat) (g5 : Nat) (r7 : Rw) : Act := ⟨#[.agg (tun_c0 t), .int .i64 r, .agg #[.int .i64 n, .int .i64 c, .int .i64 g], .pointer (some ⟨g1, 0, none⟩), zz, .pointer (some ⟨g3, 0, none⟩), .pointer (some ⟨g5, 0, none⟩), .agg (tun_c0 t), .agg (tun_c2 t r7), .int .i64 r, .bool false, .bool false, zz, zz, .bool false, zz, zz, zz, zz, zz], []⟩
def tun_a12 (t : Th) (r : Int) (n : Int) (c : Int) (g : Int) (g1 : Nat) (g3 : Nat) (g5 : Nat) (r7 : Rw) : Act := ⟨#[.agg (tun_c0 t), .int .i64 r, .agg #[.int .i64 n, .int .i64 c, .int .i64 g], .pointer (some ⟨g1, 0, none⟩), zz, .pointer (some ⟨g3, 0, none⟩), .pointer (some ⟨g5, 0, none⟩), .agg (tun_c0 t), .agg (tun_c2 t r7), .int .i64 r, .bool false, .bool false, zz, zz, .bool false, zz, zz, zz, zz, .agg (tun_c2 t r7)], []⟩
def tuo_c0 (t : Th) : Array Value := #[.int .i64 t.pc, .int .i64 t.fu, .int .i64 t.st, .int .i64 (t.R 0), .int .i64 (t.R 1), .int .i64 (t.R 2), .int .i64 (t.R 3), .int .i64 (t.R 4), .int .i64 (t.R 5), .int .i64 (t.R 6), .int .i64 (t.R 7), .int .i64 (t.R 8), .int .i64 (t.R 9), .int .i64 (t.R 10), .int .i64 (t.R 11), .int .i64 t.kd, .int .i64 t.mi, .int .i64 t.mn, t.sv, t.bv, t.nv, .int .i64 t.old]
def tuo_a1 (t : Th) (r : Int) (n : Int) (c : Int) (g : Int) (g1 : Nat) : Act := ⟨#[.agg (tuo_c0 t), .int .i64 r, .agg #[.int .i64 n, .int .i64 c, .int .i64 g], .pointer (some ⟨g1, 0, none⟩), zz, zz, zz, zz, zz, zz, zz, zz, zz, zz, zz, zz, zz, zz, zz, zz], []⟩
def tuo_a2 (t : Th) (r : Int) (n : Int) (c : Int) (g : Int) (g1 : Nat) (g3 : Nat) : Act := ⟨#[.agg (tuo_c0 t), .int .i64 r, .agg #[.int .i64 n, .int .i64 c, .int .i64 g], .pointer (some ⟨g1, 0, none⟩), zz, .pointer (some ⟨g3, 0, none⟩), zz, zz, zz, zz, zz, zz, zz, zz, zz, zz, zz, zz, zz, zz], []⟩
def tuo_c1 : Array Value := #[.int .i64 0, .int .i64 0, .int .i64 0, .int .i64 0, .int .i64 0, .int .i64 0, .int .i64 0, .int .i64 0, .int .i64 0, .int .i64 0, .int .i64 0, .int .i64 0, .int .i64 0, .int .i64 0, .int .i64 0, .int .i64 0, .int .i64 0, .int .i64 0, .slice none 0 0, .slice none 0 0, .slice none 0 0, .int .i64 0]
def tuo_a4 (t : Th) (r : Int) (n : Int) (c : Int) (g : Int) (g1 : Nat) (g3 : Nat) (g5 : Nat) : Act := ⟨#[.agg (tuo_c0 t), .int .i64 r, .agg #[.int .i64 n, .int .i64 c, .int .i64 g], .pointer (some ⟨g1, 0, none⟩), zz, .pointer (some ⟨g3, 0, none⟩), .pointer (some ⟨g5, 0, none⟩), zz, zz, zz, zz, zz, zz, zz, zz, zz, zz, zz, zz, zz], []⟩
def tuo_a5 (t : Th) (r : Int) (n : Int) (c : Int) (g : Int) (g1 : Nat) (g3 : Nat) (g5 : Nat) : Act := ⟨#[.agg (tuo_c0 t), .int .i64 r, .agg #[.int .i64 n, .int .i64 c, .int .i64 g], .pointer (some ⟨g1, 0, none⟩), zz, .pointer (some ⟨g3, 0, none⟩), .pointer (some ⟨g5, 0, none⟩), .agg (tuo_c0 t), zz, zz, zz, zz, zz, zz, zz, zz, zz, zz, zz, zz], []⟩
def tuo_c2 (t : Th) (r7 : Rw) : Array Value := #[.int .i64 t.pc, .int .i64 t.fu, .int .i64 t.st, .int .i64 (t.R 0), .int .i64 (t.R 1), .int .i64 (t.R 2), .int .i64 (t.R 3), .int .i64 (t.R 4), .int .i64 (t.R 5), .int .i64 (t.R 6), .int .i64 (t.R 7), .int .i64 (t.R 8), .int .i64 (t.R 9), .int .i64 (t.R 10), .int .i64 (t.R 11), .int .i64 t.kd, .int .i64 t.mi, .int .i64 t.mn, r7.s, r7.b, r7.n, .int .i64 t.old]
def tuo_a7 (t : Th) (r : Int) (n : Int) (c : Int) (g : Int) (g1 : Nat) (g3 : Nat) (g5 : Nat) (r7 : Rw) : Act := ⟨#[.agg (tuo_c0 t), .int .i64 r, .agg #[.int .i64 n, .int .i64 c, .int .i64 g], .pointer (some ⟨g1, 0, none⟩), zz, .pointer (some ⟨g3, 0, none⟩), .pointer (some ⟨g5, 0, none⟩), .agg (tuo_c0 t), .agg (tuo_c2 t r7), zz, zz, zz, zz, zz, zz, zz, zz, zz, zz, zz], []⟩
def tuo_a8 (t : Th) (r : Int) (n : Int) (c : Int) (g : Int) (g1 : Nat) (g3 : Nat) (g5 : Nat) (r7 : Rw) : Act := ⟨#[.agg (tuo_c0 t), .int .i64 r, .agg #[.int .i64 n, .int .i64 c, .int .i64 g], .pointer (some ⟨g1, 0, none⟩), zz, .pointer (some ⟨g3, 0, none⟩), .pointer (some ⟨g5, 0, none⟩), .agg (tuo_c0 t), .agg (tuo_c2 t r7), .int .i64 r, zz, zz, zz, zz, zz, zz, zz, zz, zz, zz], []⟩
def tuo_a9 (t : Th) (r : Int) (n : Int) (c : Int) (g : Int) (g1 : Nat) (g3 : Nat) (g5 : Nat) (r7 : Rw) : Act := ⟨#[.agg (tuo_c0 t), .int .i64 r, .agg #[.int .i64 n, .int .i64 c, .int .i64 g], .pointer (some ⟨g1, 0, none⟩), zz, .pointer (some ⟨g3, 0, none⟩), .pointer (some ⟨g5, 0, none⟩), .agg (tuo_c0 t), .agg (tuo_c2 t r7), .int .i64 r, .bool true, zz, zz, zz, zz, zz, zz, zz, zz, zz], []⟩
def tuo_a10 (t : Th) (r : Int) (n : Int) (c : Int) (g : Int) (g1 : Nat) (g3 : Nat) (g5 : Nat) (r7 : Rw) : Act := ⟨#[.agg (tuo_c0 t), .int .i64 r, .agg #[.int .i64 n, .int .i64 c, .int .i64 g], .pointer (some ⟨g1, 0, none⟩), zz, .pointer (some ⟨g3, 0, none⟩), .pointer (some ⟨g5, 0, none⟩), .agg (tuo_c0 t), .agg (tuo_c2 t r7), .int .i64 r, .bool true, .bool true, zz, zz, zz, zz, zz, zz, zz, zz], []⟩
def tuo_a11 (t : Th) (r : Int) (n : Int) (c : Int) (g : Int) (g1 : Nat) (g3 : Nat) (g5 : Nat) (r7 : Rw) : Act := ⟨#[.agg (tuo_c0 t), .int .i64 r, .agg #[.int .i64 n, .int .i64 c, .int .i64 g], .pointer (some ⟨g1, 0, none⟩), zz, .pointer (some ⟨g3, 0, none⟩), .pointer (some ⟨g5, 0, none⟩), .agg (tuo_c0 t), .agg (tuo_c2 t r7), .int .i64 r, .bool true, .bool true, .int .i64 r, zz, zz, zz, zz, zz, zz, zz], []⟩
def tuo_a12 (t : Th) (r : Int) (n : Int) (c : Int) (g : Int) (g1 : Nat) (g3 : Nat) (g5 : Nat) (r7 : Rw) : Act := ⟨#[.agg (tuo_c0 t), .int .i64 r, .agg #[.int .i64 n, .int .i64 c, .int .i64 g], .pointer (some ⟨g1, 0, none⟩), zz, .pointer (some ⟨g3, 0, none⟩), .pointer (some ⟨g5, 0, none⟩), .agg (tuo_c0 t), .agg (tuo_c2 t r7), .int .i64 r, .bool true, .bool true, .int .i64 r, .bool false, zz, zz, zz, zz, zz, zz], []⟩
def tuo_a13 (t : Th) (r : Int) (n : Int) (c : Int) (g : Int) (g1 : Nat) (g3 : Nat) (g5 : Nat) (r7 : Rw) : Act := ⟨#[.agg (tuo_c0 t), .int .i64 r, .agg #[.int .i64 n, .int .i64 c, .int .i64 g], .pointer (some ⟨g1, 0, none⟩), zz, .pointer (some ⟨g3, 0, none⟩), .pointer (some ⟨g5, 0, none⟩), .agg (tuo_c0 t), .agg (tuo_c2 t r7), .int .i64 r, .bool true, .bool true, .int .i64 r, .bool false, .bool false, zz, zz, zz, zz, zz], []⟩
def tuo_a14 (t : Th) (r : Int) (n : Int) (c : Int) (g : Int) (g1 : Nat) (g3 : Nat) (g5 : Nat) (r7 : Rw) : Act := ⟨#[.agg (tuo_c0 t), .int .i64 r, .agg #[.int .i64 n, .int .i64 c, .int .i64 g], .pointer (some ⟨g1, 0, none⟩), zz, .pointer (some ⟨g3, 0, none⟩), .pointer (some ⟨g5, 0, none⟩), .agg (tuo_c0 t), .agg (tuo_c2 t r7), .int .i64 r, .bool true, .bool true, .int .i64 r, .bool false, .bool false, zz, zz, zz, zz, .agg (tuo_c2 t r7)], []⟩
def tu0_c0 (t : Th) : Array Value := #[.int .i64 t.pc, .int .i64 t.fu, .int .i64 t.st, .int .i64 (t.R 0), .int .i64 (t.R 1), .int .i64 (t.R 2), .int .i64 (t.R 3), .int .i64 (t.R 4), .int .i64 (t.R 5), .int .i64 (t.R 6), .int .i64 (t.R 7), .int .i64 (t.R 8), .int .i64 (t.R 9), .int .i64 (t.R 10), .int .i64 (t.R 11), .int .i64 t.kd, .int .i64 t.mi, .int .i64 t.mn, t.sv, t.bv, t.nv, .int .i64 t.old]
def tu0_a1 (t : Th) (n : Int) (c : Int) (g : Int) (g1 : Nat) : Act := ⟨#[.agg (tu0_c0 t), .int .i64 0, .agg #[.int .i64 n, .int .i64 c, .int .i64 g], .pointer (some ⟨g1, 0, none⟩), zz, zz, zz, zz, zz, zz, zz, zz, zz, zz, zz, zz, zz, zz, zz, zz], []⟩
def tu0_a2 (t : Th) (n : Int) (c : Int) (g : Int) (g1 : Nat) (g3 : Nat) : Act := ⟨#[.agg (tu0_c0 t), .int .i64 0, .agg #[.int .i64 n, .int .i64 c, .int .i64 g], .pointer (some ⟨g1, 0, none⟩), zz, .pointer (some ⟨g3, 0, none⟩), zz, zz, zz, zz, zz, zz, zz, zz, zz, zz, zz, zz, zz, zz], []⟩
def tu0_c1 : Array Value := #[.int .i64 0, .int .i64 0, .int .i64 0, .int .i64 0, .int .i64 0, .int .i64 0, .int .i64 0, .int .i64 0, .int .i64 0, .int .i64 0, .int .i64 0, .int .i64 0, .int .i64 0, .int .i64 0, .int .i64 0, .int .i64 0, .int .i64 0, .int .i64 0, .slice none 0 0, .slice none 0 0, .slice none 0 0, .int .i64 0]
def tu0_a4 (t : Th) (n : Int) (c : Int) (g : Int) (g1 : Nat) (g3 : Nat) (g5 : Nat) : Act := ⟨#[.agg (tu0_c0 t), .int .i64 0, .agg #[.int .i64 n, .int .i64 c, .int .i64 g], .pointer (some ⟨g1, 0, none⟩), zz, .pointer (some ⟨g3, 0, none⟩), .pointer (some ⟨g5, 0, none⟩), zz, zz, zz, zz, zz, zz, zz, zz, zz, zz, zz, zz, zz], []⟩
def tu0_a5 (t : Th) (n : Int) (c : Int) (g : Int) (g1 : Nat) (g3 : Nat) (g5 : Nat) : Act := ⟨#[.agg (tu0_c0 t), .int .i64 0, .agg #[.int .i64 n, .int .i64 c, .int .i64 g], .pointer (some ⟨g1, 0, none⟩), zz, .pointer (some ⟨g3, 0, none⟩), .pointer (some ⟨g5, 0, none⟩), .agg (tu0_c0 t), zz, zz, zz, zz, zz, zz, zz, zz, zz, zz, zz, zz], []⟩
def tu0_c2 (t : Th) (r7 : Rw) : Array Value := #[.int .i64 t.pc, .int .i64 t.fu, .int .i64 t.st, .int .i64 (t.R 0), .int .i64 (t.R 1), .int .i64 (t.R 2), .int .i64 (t.R 3), .int .i64 (t.R 4), .int .i64 (t.R 5), .int .i64 (t.R 6), .int .i64 (t.R 7), .int .i64 (t.R 8), .int .i64 (t.R 9), .int .i64 (t.R 10), .int .i64 (t.R 11), .int .i64 t.kd, .int .i64 t.mi, .int .i64 t.mn, r7.s, r7.b, r7.n, .int .i64 t.old]
def tu0_a7 (t : Th) (n : Int) (c : Int) (g : Int) (g1 : Nat) (g3 : Nat) (g5 : Nat) (r7 : Rw) : Act := ⟨#[.agg (tu0_c0 t), .int .i64 0, .agg #[.int .i64 n, .int .i64 c, .int .i64 g], .pointer (some ⟨g1, 0, none⟩), zz, .pointer (some ⟨g3, 0, none⟩), .pointer (some ⟨g5, 0, none⟩), .agg (tu0_c0 t), .agg (tu0_c2 t r7), zz, zz, zz, zz, zz, zz, zz, zz, zz, zz, zz], []⟩
def tu0_a8 (t : Th) (n : Int) (c : Int) (g : Int) (g1 : Nat) (g3 : Nat) (g5 : Nat) (r7 : Rw) : Act := ⟨#[.agg (tu0_c0 t), .int .i64 0, .agg #[.int .i64 n, .int .i64 c, .int .i64 g], .pointer (some ⟨g1, 0, none⟩), zz, .pointer (some ⟨g3, 0, none⟩), .pointer (some ⟨g5, 0, none⟩), .agg (tu0_c0 t), .agg (tu0_c2 t r7), .int .i64 0, zz, zz, zz, zz, zz, zz, zz, zz, zz, zz], []⟩
def tu0_a9 (t : Th) (n : Int) (c : Int) (g : Int) (g1 : Nat) (g3 : Nat) (g5 : Nat) (r7 : Rw) : Act := ⟨#[.agg (tu0_c0 t), .int .i64 0, .agg #[.int .i64 n, .int .i64 c, .int .i64 g], .pointer (some ⟨g1, 0, none⟩), zz, .pointer (some ⟨g3, 0, none⟩), .pointer (some ⟨g5, 0, none⟩), .agg (tu0_c0 t), .agg (tu0_c2 t r7), .int .i64 0, .bool true, zz, zz, zz, zz, zz, zz, zz, zz, zz], []⟩
def tu0_a10 (t : Th) (n : Int) (c : Int) (g : Int) (g1 : Nat) (g3 : Nat) (g5 : Nat) (r7 : Rw) : Act := ⟨#[.agg (tu0_c0 t), .int .i64 0, .agg #[.int .i64 n, .int .i64 c, .int .i64 g], .pointer (some ⟨g1, 0, none⟩), zz, .pointer (some ⟨g3, 0, none⟩), .pointer (some ⟨g5, 0, none⟩), .agg (tu0_c0 t), .agg (tu0_c2 t r7), .int .i64 0, .bool true, .bool true, zz, zz, zz, zz, zz, zz, zz, zz], []⟩
def tu0_a11 (t : Th) (n : Int) (c : Int) (g : Int) (g1 : Nat) (g3 : Nat) (g5 : Nat) (r7 : Rw) : Act := ⟨#[.agg (tu0_c0 t), .int .i64 0, .agg #[.int .i64 n, .int .i64 c, .int .i64 g], .pointer (some ⟨g1, 0, none⟩), zz, .pointer (some ⟨g3, 0, none⟩), .pointer (some ⟨g5, 0, none⟩), .agg (tu0_c0 t), .agg (tu0_c2 t r7), .int .i64 0, .bool true, .bool true, .int .i64 0, zz, zz, zz, zz, zz, zz, zz], []⟩
def tu0_a12 (t : Th) (n : Int) (c : Int) (g : Int) (g1 : Nat) (g3 : Nat) (g5 : Nat) (r7 : Rw) : Act := ⟨#[.agg (tu0_c0 t), .int .i64 0, .agg #[.int .i64 n, .int .i64 c, .int .i64 g], .pointer (some ⟨g1, 0, none⟩), zz, .pointer (some ⟨g3, 0, none⟩), .pointer (some ⟨g5, 0, none⟩), .agg (tu0_c0 t), .agg (tu0_c2 t r7), .int .i64 0, .bool true, .bool true, .int .i64 0, .bool true, zz, zz, zz, zz, zz, zz], []⟩
def tu0_a13 (t : Th) (n : Int) (c : Int) (g : Int) (g1 : Nat) (g3 : Nat) (g5 : Nat) (r7 : Rw) : Act := ⟨#[.agg (tu0_c0 t), .int .i64 0, .agg #[.int .i64 n, .int .i64 c, .int .i64 g], .pointer (some ⟨g1, 0, none⟩), zz, .pointer (some ⟨g3, 0, none⟩), .pointer (some ⟨g5, 0, none⟩), .agg (tu0_c0 t), .agg (tu0_c2 t r7), .int .i64 0, .bool true, .bool true, .int .i64 0, .bool true, .bool true, zz, zz, zz, zz, zz], []⟩
def tu0_a14 (t : Th) (n : Int) (c : Int) (g : Int) (g1 : Nat) (g3 : Nat) (g5 : Nat) (r7 : Rw) : Act := ⟨#[.agg (tu0_c0 t), .int .i64 0, .agg #[.int .i64 n, .int .i64 c, .int .i64 g], .pointer (some ⟨g1, 0, none⟩), zz, .pointer (some ⟨g3, 0, none⟩), .pointer (some ⟨g5, 0, none⟩), .agg (tu0_c0 t), .agg (tu0_c2 t r7), .int .i64 0, .bool true, .bool true, .int .i64 0, .bool true, .bool true, .int .i64 0, zz, zz, zz, zz], []⟩
def tu0_a15 (t : Th) (n : Int) (c : Int) (g : Int) (g1 : Nat) (g3 : Nat) (g5 : Nat) (r7 : Rw) : Act := ⟨#[.agg (tu0_c0 t), .int .i64 0, .agg #[.int .i64 n, .int .i64 c, .int .i64 g], .pointer (some ⟨g1, 0, none⟩), zz, .pointer (some ⟨g3, 0, none⟩), .pointer (some ⟨g5, 0, none⟩), .agg (tu0_c0 t), .agg (tu0_c2 t r7), .int .i64 0, .bool true, .bool true, .int .i64 0, .bool true, .bool true, .int .i64 0, .agg #[.int .i64 n, .int .i64 c, .int .i64 g], zz, zz, zz], []⟩
def tu0_a16 (t : Th) (n : Int) (c : Int) (g : Int) (g1 : Nat) (g3 : Nat) (g5 : Nat) (r7 : Rw) : Act := ⟨#[.agg (tu0_c0 t), .int .i64 0, .agg #[.int .i64 n, .int .i64 c, .int .i64 g], .pointer (some ⟨g1, 0, none⟩), zz, .pointer (some ⟨g3, 0, none⟩), .pointer (some ⟨g5, 0, none⟩), .agg (tu0_c0 t), .agg (tu0_c2 t r7), .int .i64 0, .bool true, .bool true, .int .i64 0, .bool true, .bool true, .int .i64 0, .agg #[.int .i64 n, .int .i64 c, .int .i64 g], .pointer (some ⟨g1, 3, none⟩), zz, zz], []⟩
def tu0_a17 (t : Th) (n : Int) (c : Int) (g : Int) (g1 : Nat) (g3 : Nat) (g5 : Nat) (r7 : Rw) : Act := ⟨#[.agg (tu0_c0 t), .int .i64 0, .agg #[.int .i64 n, .int .i64 c, .int .i64 g], .pointer (some ⟨g1, 0, none⟩), zz, .pointer (some ⟨g3, 0, none⟩), .pointer (some ⟨g5, 0, none⟩), .agg (tu0_c0 t), .agg (tu0_c2 t r7), .int .i64 0, .bool true, .bool true, .int .i64 0, .bool true, .bool true, .int .i64 0, .agg #[.int .i64 n, .int .i64 c, .int .i64 g], .pointer (some ⟨g1, 3, none⟩), .pointer (some ⟨g1, 3, none⟩), zz], []⟩
def tu0_c3 (t : Th) (n : Int) (c : Int) (g : Int) (r7 : Rw) : Array Value := #[.int .i64 t.pc, .int .i64 t.fu, .int .i64 t.st, .int .i64 n, .int .i64 c, .int .i64 g, .int .i64 (t.R 3), .int .i64 (t.R 4), .int .i64 (t.R 5), .int .i64 (t.R 6), .int .i64 (t.R 7), .int .i64 (t.R 8), .int .i64 (t.R 9), .int .i64 (t.R 10), .int .i64 (t.R 11), .int .i64 t.kd, .int .i64 t.mi, .int .i64 t.mn, r7.s, r7.b, r7.n, .int .i64 t.old]
def tu0_a19 (t : Th) (n : Int) (c : Int) (g : Int) (g1 : Nat) (g3 : Nat) (g5 : Nat) (r7 : Rw) : Act := ⟨#[.agg (tu0_c0 t), .int .i64 0, .agg #[.int .i64 n, .int .i64 c, .int .i64 g], .pointer (some ⟨g1, 0, none⟩), zz, .pointer (some ⟨g3, 0, none⟩), .pointer (some ⟨g5, 0, none⟩), .agg (tu0_c0 t), .agg (tu0_c2 t r7), .int .i64 0, .bool true, .bool true, .int .i64 0, .bool true, .bool true, .int .i64 0, .agg #[.int .i64 n, .int .i64 c, .int .i64 g], .pointer (some ⟨g1, 3, none⟩), .pointer (some ⟨g1, 3, none⟩), .agg (tu0_c3 t n c g r7)], []⟩
def tu1_c0 (t : Th) : Array Value := #[.int .i64 t.pc, .int .i64 t.fu, .int .i64 t.st, .int .i64 (t.R 0), .int .i64 (t.R 1), .int .i64 (t.R 2), .int .i64 (t.R 3), .int .i64 (t.R 4), .int .i64 (t.R 5), .int .i64 (t.R 6), .int .i64 (t.R 7), .int .i64 (t.R 8), .int .i64 (t.R 9), .int .i64 (t.R 10), .int .i64 (t.R 11), .int .i64 t.kd, .int .i64 t.mi, .int .i64 t.mn, t.sv, t.bv, t.nv, .int .i64 t.old]
def tu1_a1 (t : Th) (n : Int) (c : Int) (g : Int) (g1 : Nat) : Act := ⟨#[.agg (tu1_c0 t), .int .i64 1, .agg #[.int .i64 n, .int .i64 c, .int .i64 g], .pointer (some ⟨g1, 0, none⟩), zz, zz, zz, zz, zz, zz, zz, zz, zz, zz, zz, zz, zz, zz, zz, zz], []⟩
def tu1_a2 (t : Th) (n : Int) (c : Int) (g : Int) (g1 : Nat) (g3 : Nat) : Act := ⟨#[.agg (tu1_c0 t), .int .i64 1, .agg #[.int .i64 n, .int .i64 c, .int .i64 g], .pointer (some ⟨g1, 0, none⟩), zz, .pointer (some ⟨g3, 0, none⟩), zz, zz, zz, zz, zz, zz, zz, zz, zz, zz, zz, zz, zz, zz], []⟩
def tu1_c1 : Array Value := #[.int .i64 0, .int .i64 0, .int .i64 0, .int .i64 0, .int .i64 0, .int .i64 0, .int .i64 0, .int .i64 0, .int .i64 0, .int .i64 0, .int .i64 0, .int .i64 0, .int .i64 0, .int .i64 0, .int .i64 0, .int .i64 0, .int .i64 0, .int .i64 0, .slice none 0 0, .slice none 0 0, .slice none 0 0, .int .i64 0]
def tu1_a4 (t : Th) (n : Int) (c : Int) (g : Int) (g1 : Nat) (g3 : Nat) (g5 : Nat) : Act := ⟨#[.agg (tu1_c0 t), .int .i64 1, .agg #[.int .i64 n, .int .i64 c, .int .i64 g], .pointer (some ⟨g1, 0, none⟩), zz, .pointer (some ⟨g3, 0, none⟩), .pointer (some ⟨g5, 0, none⟩), zz, zz, zz, zz, zz, zz, zz, zz, zz, zz, zz, zz, zz], []⟩
def tu1_a5 (t : Th) (n : Int) (c : Int) (g : Int) (g1 : Nat) (g3 : Nat) (g5 : Nat) : Act := ⟨#[.agg (tu1_c0 t), .int .i64 1, .agg #[.int .i64 n, .int .i64 c, .int .i64 g], .pointer (some ⟨g1, 0, none⟩), zz, .pointer (some ⟨g3, 0, none⟩), .pointer (some ⟨g5, 0, none⟩), .agg (tu1_c0 t), zz, zz, zz, zz, zz, zz, zz, zz, zz, zz, zz, zz], []⟩
def tu1_c2 (t : Th) (r7 : Rw) : Array Value := #[.int .i64 t.pc, .int .i64 t.fu, .int .i64 t.st, .int .i64 (t.R 0), .int .i64 (t.R 1), .int .i64 (t.R 2), .int .i64 (t.R 3), .int .i64 (t.R 4), .int .i64 (t.R 5), .int .i64 (t.R 6), .int .i64 (t.R 7), .int .i64 (t.R 8), .int .i64 (t.R 9), .int .i64 (t.R 10), .int .i64 (t.R 11), .int .i64 t.kd, .int .i64 t.mi, .int .i64 t.mn, r7.s, r7.b, r7.n, .int .i64 t.old]
def tu1_a7 (t : Th) (n : Int) (c : Int) (g : Int) (g1 : Nat) (g3 : Nat) (g5 : Nat) (r7 : Rw) : Act := ⟨#[.agg (tu1_c0 t), .int .i64 1, .agg #[.int .i64 n, .int .i64 c, .int .i64 g], .pointer (some ⟨g1, 0, none⟩), zz, .pointer (some ⟨g3, 0, none⟩), .pointer (some ⟨g5, 0, none⟩), .agg (tu1_c0 t), .agg (tu1_c2 t r7), zz, zz, zz, zz, zz, zz, zz, zz, zz, zz, zz], []⟩
def tu1_a8 (t : Th) (n : Int) (c : Int) (g : Int) (g1 : Nat) (g3 : Nat) (g5 : Nat) (r7 : Rw) : Act := ⟨#[.agg (tu1_c0 t), .int .i64 1, .agg #[.int .i64 n, .int .i64 c, .int .i64 g], .pointer (some ⟨g1, 0, none⟩), zz, .pointer (some ⟨g3, 0, none⟩), .pointer (some ⟨g5, 0, none⟩), .agg (tu1_c0 t), .agg (tu1_c2 t r7), .int .i64 1, zz, zz, zz, zz, zz, zz, zz, zz, zz, zz], []⟩
def tu1_a9 (t : Th) (n : Int) (c : Int) (g : Int) (g1 : Nat) (g3 : Nat) (g5 : Nat) (r7 : Rw) : Act := ⟨#[.agg (tu1_c0 t), .int .i64 1, .agg #[.int .i64 n, .int .i64 c, .int .i64 g], .pointer (some ⟨g1, 0, none⟩), zz, .pointer (some ⟨g3, 0, none⟩), .pointer (some ⟨g5, 0, none⟩), .agg (tu1_c0 t), .agg (tu1_c2 t r7), .int .i64 1, .bool true, zz, zz, zz, zz, zz, zz, zz, zz, zz], []⟩
def tu1_a10 (t : Th) (n : Int) (c : Int) (g : Int) (g1 : Nat) (g3 : Nat) (g5 : Nat) (r7 : Rw) : Act := ⟨#[.agg (tu1_c0 t), .int .i64 1, .agg #[.int .i64 n, .int .i64 c, .int .i64 g], .pointer (some ⟨g1, 0, none⟩), zz, .pointer (some ⟨g3, 0, none⟩), .pointer (some ⟨g5, 0, none⟩), .agg (tu1_c0 t), .agg (tu1_c2 t r7), .int .i64 1, .bool true, .bool true, zz, zz, zz, zz, zz, zz, zz, zz], []⟩
def tu1_a11 (t : Th) (n : Int) (c : Int) (g : Int) (g1 : Nat) (g3 : Nat) (g5 : Nat) (r7 : Rw) : Act := ⟨#[.agg (tu1_c0 t), .int .i64 1, .agg #[.int .i64 n, .int .i64 c, .int .i64 g], .pointer (some ⟨g1, 0, none⟩), zz, .pointer (some ⟨g3, 0, none⟩), .pointer (some ⟨g5, 0, none⟩), .agg (tu1_c0 t), .agg (tu1_c2 t r7), .int .i64 1, .bool true, .bool true, .int .i64 1, zz, zz, zz, zz, zz, zz, zz], []⟩
def tu1_a12 (t : Th) (n : Int) (c : Int) (g : Int) (g1 : Nat) (g3 : Nat) (g5 : Nat) (r7 : Rw) : Act := ⟨#[.agg (tu1_c0 t), .int .i64 1, .agg #[.int .i64 n, .int .i64 c, .int .i64 g], .pointer (some ⟨g1, 0, none⟩), zz, .pointer (some ⟨g3, 0, none⟩), .pointer (some ⟨g5, 0, none⟩), .agg (tu1_c0 t), .agg (tu1_c2 t r7), .int .i64 1, .bool true, .bool true, .int .i64 1, .bool true, zz, zz, zz, zz, zz, zz], []⟩
def tu1_a13 (t : Th) (n : Int) (c : Int) (g : Int) (g1 : Nat) (g3 : Nat) (g5 : Nat) (r7 : Rw) : Act := ⟨#[.agg (tu1_c0 t), .int .i64 1, .agg #[.int .i64 n, .int .i64 c, .int .i64 g], .pointer (some ⟨g1, 0, none⟩), zz, .pointer (some ⟨g3, 0, none⟩), .pointer (some ⟨g5, 0, none⟩), .agg (tu1_c0 t), .agg (tu1_c2 t r7), .int .i64 1, .bool true, .bool true, .int .i64 1, .bool true, .bool true, zz, zz, zz, zz, zz], []⟩
def tu1_a14 (t : Th) (n : Int) (c : Int) (g : Int) (g1 : Nat) (g3 : Nat) (g5 : Nat) (r7 : Rw) : Act := ⟨#[.agg (tu1_c0 t), .int .i64 1, .agg #[.int .i64 n, .int .i64 c, .int .i64 g], .pointer (some ⟨g1, 0, none⟩), zz, .pointer (some ⟨g3, 0, none⟩), .pointer (some ⟨g5, 0, none⟩), .agg (tu1_c0 t), .agg (tu1_c2 t r7), .int .i64 1, .bool true, .bool true, .int .i64 1, .bool true, .bool true, .int .i64 1, zz, zz, zz, zz], []⟩
def tu1_a15 (t : Th) (n : Int) (c : Int) (g : Int) (g1 : Nat) (g3 : Nat) (g5 : Nat) (r7 : Rw) : Act := ⟨#[.agg (tu1_c0 t), .int .i64 1, .agg #[.int .i64 n, .int .i64 c, .int .i64 g], .pointer (some ⟨g1, 0, none⟩), zz, .pointer (some ⟨g3, 0, none⟩), .pointer (some ⟨g5, 0, none⟩), .agg (tu1_c0 t), .agg (tu1_c2 t r7), .int .i64 1, .bool true, .bool true, .int .i64 1, .bool true, .bool true, .int .i64 1, .agg #[.int .i64 n, .int .i64 c, .int .i64 g], zz, zz, zz], []⟩
def tu1_a16 (t : Th) (n : Int) (c : Int) (g : Int) (g1 : Nat) (g3 : Nat) (g5 : Nat) (r7 : Rw) : Act := ⟨#[.agg (tu1_c0 t), .int .i64 1, .agg #[.int .i64 n, .int .i64 c, .int .i64 g], .pointer (some ⟨g1, 0, none⟩), zz, .pointer (some ⟨g3, 0, none⟩), .pointer (some ⟨g5, 0, none⟩), .agg (tu1_c0 t), .agg (tu1_c2 t r7), .int .i64 1, .bool true, .bool true, .int .i64 1, .bool true, .bool true, .int .i64 1, .agg #[.int .i64 n, .int .i64 c, .int .i64 g], .pointer (some ⟨g1, 3, none⟩), zz, zz], []⟩
def tu1_a17 (t : Th) (n : Int) (c : Int) (g : Int) (g1 : Nat) (g3 : Nat) (g5 : Nat) (r7 : Rw) : Act := ⟨#[.agg (tu1_c0 t), .int .i64 1, .agg #[.int .i64 n, .int .i64 c, .int .i64 g], .pointer (some ⟨g1, 0, none⟩), zz, .pointer (some ⟨g3, 0, none⟩), .pointer (some ⟨g5, 0, none⟩), .agg (tu1_c0 t), .agg (tu1_c2 t r7), .int .i64 1, .bool true, .bool true, .int .i64 1, .bool true, .bool true, .int .i64 1, .agg #[.int .i64 n, .int .i64 c, .int .i64 g], .pointer (some ⟨g1, 3, none⟩), .pointer (some ⟨g1, 6, none⟩), zz], []⟩
def tu1_c3 (t : Th) (n : Int) (c : Int) (g : Int) (r7 : Rw) : Array Value := #[.int .i64 t.pc, .int .i64 t.fu, .int .i64 t.st, .int .i64 (t.R 0), .int .i64 (t.R 1), .int .i64 (t.R 2), .int .i64 n, .int .i64 c, .int .i64 g, .int .i64 (t.R 6), .int .i64 (t.R 7), .int .i64 (t.R 8), .int .i64 (t.R 9), .int .i64 (t.R 10), .int .i64 (t.R 11), .int .i64 t.kd, .int .i64 t.mi, .int .i64 t.mn, r7.s, r7.b, r7.n, .int .i64 t.old]
def tu1_a19 (t : Th) (n : Int) (c : Int) (g : Int) (g1 : Nat) (g3 : Nat) (g5 : Nat) (r7 : Rw) : Act := ⟨#[.agg (tu1_c0 t), .int .i64 1, .agg #[.int .i64 n, .int .i64 c, .int .i64 g], .pointer (some ⟨g1, 0, none⟩), zz, .pointer (some ⟨g3, 0, none⟩), .pointer (some ⟨g5, 0, none⟩), .agg (tu1_c0 t), .agg (tu1_c2 t r7), .int .i64 1, .bool true, .bool true, .int .i64 1, .bool true, .bool true, .int .i64 1, .agg #[.int .i64 n, .int .i64 c, .int .i64 g], .pointer (some ⟨g1, 3, none⟩), .pointer (some ⟨g1, 6, none⟩), .agg (tu1_c3 t n c g r7)], []⟩
def tu2_c0 (t : Th) : Array Value := #[.int .i64 t.pc, .int .i64 t.fu, .int .i64 t.st, .int .i64 (t.R 0), .int .i64 (t.R 1), .int .i64 (t.R 2), .int .i64 (t.R 3), .int .i64 (t.R 4), .int .i64 (t.R 5), .int .i64 (t.R 6), .int .i64 (t.R 7), .int .i64 (t.R 8), .int .i64 (t.R 9), .int .i64 (t.R 10), .int .i64 (t.R 11), .int .i64 t.kd, .int .i64 t.mi, .int .i64 t.mn, t.sv, t.bv, t.nv, .int .i64 t.old]
def tu2_a1 (t : Th) (n : Int) (c : Int) (g : Int) (g1 : Nat) : Act := ⟨#[.agg (tu2_c0 t), .int .i64 2, .agg #[.int .i64 n, .int .i64 c, .int .i64 g], .pointer (some ⟨g1, 0, none⟩), zz, zz, zz, zz, zz, zz, zz, zz, zz, zz, zz, zz, zz, zz, zz, zz], []⟩
def tu2_a2 (t : Th) (n : Int) (c : Int) (g : Int) (g1 : Nat) (g3 : Nat) : Act := ⟨#[.agg (tu2_c0 t), .int .i64 2, .agg #[.int .i64 n, .int .i64 c, .int .i64 g], .pointer (some ⟨g1, 0, none⟩), zz, .pointer (some ⟨g3, 0, none⟩), zz, zz, zz, zz, zz, zz, zz, zz, zz, zz, zz, zz, zz, zz], []⟩
def tu2_c1 : Array Value := #[.int .i64 0, .int .i64 0, .int .i64 0, .int .i64 0, .int .i64 0, .int .i64 0, .int .i64 0, .int .i64 0, .int .i64 0, .int .i64 0, .int .i64 0, .int .i64 0, .int .i64 0, .int .i64 0, .int .i64 0, .int .i64 0, .int .i64 0, .int .i64 0, .slice none 0 0, .slice none 0 0, .slice none 0 0, .int .i64 0]
def tu2_a4 (t : Th) (n : Int) (c : Int) (g : Int) (g1 : Nat) (g3 : Nat) (g5 : Nat) : Act := ⟨#[.agg (tu2_c0 t), .int .i64 2, .agg #[.int .i64 n, .int .i64 c, .int .i64 g], .pointer (some ⟨g1, 0, none⟩), zz, .pointer (some ⟨g3, 0, none⟩), .pointer (some ⟨g5, 0, none⟩), zz, zz, zz, zz, zz, zz, zz, zz, zz, zz, zz, zz, zz], []⟩
def tu2_a5 (t : Th) (n : Int) (c : Int) (g : Int) (g1 : Nat) (g3 : Nat) (g5 : Nat) : Act := ⟨#[.agg (tu2_c0 t), .int .i64 2, .agg #[.int .i64 n, .int .i64 c, .int .i64 g], .pointer (some ⟨g1, 0, none⟩), zz, .pointer (some ⟨g3, 0, none⟩), .pointer (some ⟨g5, 0, none⟩), .agg (tu2_c0 t), zz, zz, zz, zz, zz, zz, zz, zz, zz, zz, zz, zz], []⟩
def tu2_c2 (t : Th) (r7 : Rw) : Array Value := #[.int .i64 t.pc, .int .i64 t.fu, .int .i64 t.st, .int .i64 (t.R 0), .int .i64 (t.R 1), .int .i64 (t.R 2), .int .i64 (t.R 3), .int .i64 (t.R 4), .int .i64 (t.R 5), .int .i64 (t.R 6), .int .i64 (t.R 7), .int .i64 (t.R 8), .int .i64 (t.R 9), .int .i64 (t.R 10), .int .i64 (t.R 11), .int .i64 t.kd, .int .i64 t.mi, .int .i64 t.mn, r7.s, r7.b, r7.n, .int .i64 t.old]
def tu2_a7 (t : Th) (n : Int) (c : Int) (g : Int) (g1 : Nat) (g3 : Nat) (g5 : Nat) (r7 : Rw) : Act := ⟨#[.agg (tu2_c0 t), .int .i64 2, .agg #[.int .i64 n, .int .i64 c, .int .i64 g], .pointer (some ⟨g1, 0, none⟩), zz, .pointer (some ⟨g3, 0, none⟩), .pointer (some ⟨g5, 0, none⟩), .agg (tu2_c0 t), .agg (tu2_c2 t r7), zz, zz, zz, zz, zz, zz, zz, zz, zz, zz, zz], []⟩
def tu2_a8 (t : Th) (n : Int) (c : Int) (g : Int) (g1 : Nat) (g3 : Nat) (g5 : Nat) (r7 : Rw) : Act := ⟨#[.agg (tu2_c0 t), .int .i64 2, .agg #[.int .i64 n, .int .i64 c, .int .i64 g], .pointer (some ⟨g1, 0, none⟩), zz, .pointer (some ⟨g3, 0, none⟩), .pointer (some ⟨g5, 0, none⟩), .agg (tu2_c0 t), .agg (tu2_c2 t r7), .int .i64 2, zz, zz, zz, zz, zz, zz, zz, zz, zz, zz], []⟩
def tu2_a9 (t : Th) (n : Int) (c : Int) (g : Int) (g1 : Nat) (g3 : Nat) (g5 : Nat) (r7 : Rw) : Act := ⟨#[.agg (tu2_c0 t), .int .i64 2, .agg #[.int .i64 n, .int .i64 c, .int .i64 g], .pointer (some ⟨g1, 0, none⟩), zz, .pointer (some ⟨g3, 0, none⟩), .pointer (some ⟨g5, 0, none⟩), .agg (tu2_c0 t), .agg (tu2_c2 t r7), .int .i64 2, .bool true, zz, zz, zz, zz, zz, zz, zz, zz, zz], []⟩
def tu2_a10 (t : Th) (n : Int) (c : Int) (g : Int) (g1 : Nat) (g3 : Nat) (g5 : Nat) (r7 : Rw) : Act := ⟨#[.agg (tu2_c0 t), .int .i64 2, .agg #[.int .i64 n, .int .i64 c, .int .i64 g], .pointer (some ⟨g1, 0, none⟩), zz, .pointer (some ⟨g3, 0, none⟩), .pointer (some ⟨g5, 0, none⟩), .agg (tu2_c0 t), .agg (tu2_c2 t r7), .int .i64 2, .bool true, .bool true, zz, zz, zz, zz, zz, zz, zz, zz], []⟩
def tu2_a11 (t : Th) (n : Int) (c : Int) (g : Int) (g1 : Nat) (g3 : Nat) (g5 : Nat) (r7 : Rw) : Act := ⟨#[.agg (tu2_c0 t), .int .i64 2, .agg #[.int .i64 n, .int .i64 c, .int .i64 g], .pointer (some ⟨g1, 0, none⟩), zz, .pointer (some ⟨g3, 0, none⟩), .pointer (some ⟨g5, 0, none⟩), .agg (tu2_c0 t), .agg (tu2_c2 t r7), .int .i64 2, .bool true, .bool true, .int .i64 2, zz, zz, zz, zz, zz, zz, zz], []⟩
def tu2_a12 (t : Th) (n : Int) (c : Int) (g : Int) (g1 : Nat) (g3 : Nat) (g5 : Nat) (r7 : Rw) : Act := ⟨#[.agg (tu2_c0 t), .int .i64 2, .agg #[.int .i64 n, .int .i64 c, .int .i64 g], .pointer (some ⟨g1, 0, none⟩), zz, .pointer (some ⟨g3, 0, none⟩), .pointer (some ⟨g5, 0, none⟩), .agg (tu2_c0 t), .agg (tu2_c2 t r7), .int .i64 2, .bool true, .bool true, .int .i64 2, .bool true, zz, zz, zz, zz, zz, zz], []⟩
def tu2_a13 (t : Th) (n : Int) (c : Int) (g : Int) (g1 : Nat) (g3 : Nat) (g5 : Nat) (r7 : Rw) : Act := ⟨#[.agg (tu2_c0 t), .int .i64 2, .agg #[.int .i64 n, .int .i64 c, .int .i64 g], .pointer (some ⟨g1, 0, none⟩), zz, .pointer (some ⟨g3, 0, none⟩), .pointer (some ⟨g5, 0, none⟩), .agg (tu2_c0 t), .agg (tu2_c2 t r7), .int .i64 2, .bool true, .bool true, .int .i64 2, .bool true, .bool true, zz, zz, zz, zz, zz], []⟩
def tu2_a14 (t : Th) (n : Int) (c : Int) (g : Int) (g1 : Nat) (g3 : Nat) (g5 : Nat) (r7 : Rw) : Act := ⟨#[.agg (tu2_c0 t), .int .i64 2, .agg #[.int .i64 n, .int .i64 c, .int .i64 g], .pointer (some ⟨g1, 0, none⟩), zz, .pointer (some ⟨g3, 0, none⟩), .pointer (some ⟨g5, 0, none⟩), .agg (tu2_c0 t), .agg (tu2_c2 t r7), .int .i64 2, .bool true, .bool true, .int .i64 2, .bool true, .bool true, .int .i64 2, zz, zz, zz, zz], []⟩
def tu2_a15 (t : Th) (n : Int) (c : Int) (g : Int) (g1 : Nat) (g3 : Nat) (g5 : Nat) (r7 : Rw) : Act := ⟨#[.agg (tu2_c0 t), .int .i64 2, .agg #[.int .i64 n, .int .i64 c, .int .i64 g], .pointer (some ⟨g1, 0, none⟩), zz, .pointer (some ⟨g3, 0, none⟩), .pointer (some ⟨g5, 0, none⟩), .agg (tu2_c0 t), .agg (tu2_c2 t r7), .int .i64 2, .bool true, .bool true, .int .i64 2, .bool true, .bool true, .int .i64 2, .agg #[.int .i64 n, .int .i64 c, .int .i64 g], zz, zz, zz], []⟩
def tu2_a16 (t : Th) (n : Int) (c : Int) (g : Int) (g1 : Nat) (g3 : Nat) (g5 : Nat) (r7 : Rw) : Act := ⟨#[.agg (tu2_c0 t), .int .i64 2, .agg #[.int .i64 n, .int .i64 c, .int .i64 g], .pointer (some ⟨g1, 0, none⟩), zz, .pointer (some ⟨g3, 0, none⟩), .pointer (some ⟨g5, 0, none⟩), .agg (tu2_c0 t), .agg (tu2_c2 t r7), .int .i64 2, .bool true, .bool true, .int .i64 2, .bool true, .bool true, .int .i64 2, .agg #[.int .i64 n, .int .i64 c, .int .i64 g], .pointer (some ⟨g1, 3, none⟩), zz, zz], []⟩
def tu2_a17 (t : Th) (n : Int) (c : Int) (g : Int) (g1 : Nat) (g3 : Nat) (g5 : Nat) (r7 : Rw) : Act := ⟨#[.agg (tu2_c0 t), .int .i64 2, .agg #[.int .i64 n, .int .i64 c, .int .i64 g], .pointer (some ⟨g1, 0, none⟩), zz, .pointer (some ⟨g3, 0, none⟩), .pointer (some ⟨g5, 0, none⟩), .agg (tu2_c0 t), .agg (tu2_c2 t r7), .int .i64 2, .bool true, .bool true, .int .i64 2, .bool true, .bool true, .int .i64 2, .agg #[.int .i64 n, .int .i64 c, .int .i64 g], .pointer (some ⟨g1, 3, none⟩), .pointer (some ⟨g1, 9, none⟩), zz], []⟩
def tu2_c3 (t : Th) (n : Int) (c : Int) (g : Int) (r7 : Rw) : Array Value := #[.int .i64 t.pc, .int .i64 t.fu, .int .i64 t.st, .int .i64 (t.R 0), .int .i64 (t.R 1), .int .i64 (t.R 2), .int .i64 (t.R 3), .int .i64 (t.R 4), .int .i64 (t.R 5), .int .i64 n, .int .i64 c, .int .i64 g, .int .i64 (t.R 9), .int .i64 (t.R 10), .int .i64 (t.R 11), .int .i64 t.kd, .int .i64 t.mi, .int .i64 t.mn, r7.s, r7.b, r7.n, .int .i64 t.old]
def tu2_a19 (t : Th) (n : Int) (c : Int) (g : Int) (g1 : Nat) (g3 : Nat) (g5 : Nat) (r7 : Rw) : Act := ⟨#[.agg (tu2_c0 t), .int .i64 2, .agg #[.int .i64 n, .int .i64 c, .int .i64 g], .pointer (some ⟨g1, 0, none⟩), zz, .pointer (some ⟨g3, 0, none⟩), .pointer (some ⟨g5, 0, none⟩), .agg (tu2_c0 t), .agg (tu2_c2 t r7), .int .i64 2, .bool true, .bool true, .int .i64 2, .bool true, .bool true, .int .i64 2, .agg #[.int .i64 n, .int .i64 c, .int .i64 g], .pointer (some ⟨g1, 3, none⟩), .pointer (some ⟨g1, 9, none⟩), .agg (tu2_c3 t n c g r7)], []⟩
def tu3_c0 (t : Th) : Array Value := #[.int .i64 t.pc, .int .i64 t.fu, .int .i64 t.st, .int .i64 (t.R 0), .int .i64 (t.R 1), .int .i64 (t.R 2), .int .i64 (t.R 3), .int .i64 (t.R 4), .int .i64 (t.R 5), .int .i64 (t.R 6), .int .i64 (t.R 7), .int .i64 (t.R 8), .int .i64 (t.R 9), .int .i64 (t.R 10), .int .i64 (t.R 11), .int .i64 t.kd, .int .i64 t.mi, .int .i64 t.mn, t.sv, t.bv, t.nv, .int .i64 t.old]
def tu3_a1 (t : Th) (n : Int) (c : Int) (g : Int) (g1 : Nat) : Act := ⟨#[.agg (tu3_c0 t), .int .i64 3, .agg #[.int .i64 n, .int .i64 c, .int .i64 g], .pointer (some ⟨g1, 0, none⟩), zz, zz, zz, zz, zz, zz, zz, zz, zz, zz, zz, zz, zz, zz, zz, zz], []⟩
def tu3_a2 (t : Th) (n : Int) (c : Int) (g : Int) (g1 : Nat) (g3 : Nat) : Act := ⟨#[.agg (tu3_c0 t), .int .i64 3, .agg #[.int .i64 n, .int .i64 c, .int .i64 g], .pointer (some ⟨g1, 0, none⟩), zz, .pointer (some ⟨g3, 0, none⟩), zz, zz, zz, zz, zz, zz, zz, zz, zz, zz, zz, zz, zz, zz], []⟩
def tu3_c1 : Array Value := #[.int .i64 0, .int .i64 0, .int .i64 0, .int .i64 0, .int .i64 0, .int .i64 0, .int .i64 0, .int .i64 0, .int .i64 0, .int .i64 0, .int .i64 0, .int .i64 0, .int .i64 0, .int .i64 0, .int .i64 0, .int .i64 0, .int .i64 0, .int .i64 0, .slice none 0 0, .slice none 0 0, .slice none 0 0, .int .i64 0]
def tu3_a4 (t : Th) (n : Int) (c : Int) (g : Int) (g1 : Nat) (g3 : Nat) (g5 : Nat) : Act := ⟨#[.agg (tu3_c0 t), .int .i64 3, .agg #[.int .i64 n, .int .i64 c, .int .i64 g], .pointer (some ⟨g1, 0, none⟩), zz, .pointer (some ⟨g3, 0, none⟩), .pointer (some ⟨g5, 0, none⟩), zz, zz, zz, zz, zz, zz, zz, zz, zz, zz, zz, zz, zz], []⟩
def tu3_a5 (t : Th) (n : Int) (c : Int) (g : Int) (g1 : Nat) (g3 : Nat) (g5 : Nat) : Act := ⟨#[.agg (tu3_c0 t), .int .i64 3, .agg #[.int .i64 n, .int .i64 c, .int .i64 g], .pointer (some ⟨g1, 0, none⟩), zz, .pointer (some ⟨g3, 0, none⟩), .pointer (some ⟨g5, 0, none⟩), .agg (tu3_c0 t), zz, zz, zz, zz, zz, zz, zz, zz, zz, zz, zz, zz], []⟩
def tu3_c2 (t : Th) (r7 : Rw) : Array Value := #[.int .i64 t.pc, .int .i64 t.fu, .int .i64 t.st, .int .i64 (t.R 0), .int .i64 (t.R 1), .int .i64 (t.R 2), .int .i64 (t.R 3), .int .i64 (t.R 4), .int .i64 (t.R 5), .int .i64 (t.R 6), .int .i64 (t.R 7), .int .i64 (t.R 8), .int .i64 (t.R 9), .int .i64 (t.R 10), .int .i64 (t.R 11), .int .i64 t.kd, .int .i64 t.mi, .int .i64 t.mn, r7.s, r7.b, r7.n, .int .i64 t.old]
def tu3_a7 (t : Th) (n : Int) (c : Int) (g : Int) (g1 : Nat) (g3 : Nat) (g5 : Nat) (r7 : Rw) : Act := ⟨#[.agg (tu3_c0 t), .int .i64 3, .agg #[.int .i64 n, .int .i64 c, .int .i64 g], .pointer (some ⟨g1, 0, none⟩), zz, .pointer (some ⟨g3, 0, none⟩), .pointer (some ⟨g5, 0, none⟩), .agg (tu3_c0 t), .agg (tu3_c2 t r7), zz, zz, zz, zz, zz, zz, zz, zz, zz, zz, zz], []⟩
def tu3_a8 (t : Th) (n : Int) (c : Int) (g : Int) (g1 : Nat) (g3 : Nat) (g5 : Nat) (r7 : Rw) : Act := ⟨#[.agg (tu3_c0 t), .int .i64 3, .agg #[.int .i64 n, .int .i64 c, .int .i64 g], .pointer (some ⟨g1, 0, none⟩), zz, .pointer (some ⟨g3, 0, none⟩), .pointer (some ⟨g5, 0, none⟩), .agg (tu3_c0 t), .agg (tu3_c2 t r7), .int .i64 3, zz, zz, zz, zz, zz, zz, zz, zz, zz, zz], []⟩
def tu3_a9 (t : Th) (n : Int) (c : Int) (g : Int) (g1 : Nat) (g3 : Nat) (g5 : Nat) (r7 : Rw) : Act := ⟨#[.agg (tu3_c0 t), .int .i64 3, .agg #[.int .i64 n, .int .i64 c, .int .i64 g], .pointer (some ⟨g1, 0, none⟩), zz, .pointer (some ⟨g3, 0, none⟩), .pointer (some ⟨g5, 0, none⟩), .agg (tu3_c0 t), .agg (tu3_c2 t r7), .int .i64 3, .bool true, zz, zz, zz, zz, zz, zz, zz, zz, zz], []⟩
def tu3_a10 (t : Th) (n : Int) (c : Int) (g : Int) (g1 : Nat) (g3 : Nat) (g5 : Nat) (r7 : Rw) : Act := ⟨#[.agg (tu3_c0 t), .int .i64 3, .agg #[.int .i64 n, .int .i64 c, .int .i64 g], .pointer (some ⟨g1, 0, none⟩), zz, .pointer (some ⟨g3, 0, none⟩), .pointer (some ⟨g5, 0, none⟩), .agg (tu3_c0 t), .agg (tu3_c2 t r7), .int .i64 3, .bool true, .bool true, zz, zz, zz, zz, zz, zz, zz, zz], []⟩
def tu3_a11 (t : Th) (n : Int) (c : Int) (g : Int) (g1 : Nat) (g3 : Nat) (g5 : Nat) (r7 : Rw) : Act := ⟨#[.agg (tu3_c0 t), .int .i64 3, .agg #[.int .i64 n, .int .i64 c, .int .i64 g], .pointer (some ⟨g1, 0, none⟩), zz, .pointer (some ⟨g3, 0, none⟩), .pointer (some ⟨g5, 0, none⟩), .agg (tu3_c0 t), .agg (tu3_c2 t r7), .int .i64 3, .bool true, .bool true, .int .i64 3, zz, zz, zz, zz, zz, zz, zz], []⟩
def tu3_a12 (t : Th) (n : Int) (c : Int) (g : Int) (g1 : Nat) (g3 : Nat) (g5 : Nat) (r7 : Rw) : Act := ⟨#[.agg (tu3_c0 t), .int .i64 3, .agg #[.int .i64 n, .int .i64 c, .int .i64 g], .pointer (some ⟨g1, 0, none⟩), zz, .pointer (some ⟨g3, 0, none⟩), .pointer (some ⟨g5, 0, none⟩), .agg (tu3_c0 t), .agg (tu3_c2 t r7), .int .i64 3, .bool true, .bool true, .int .i64 3, .bool true, zz, zz, zz, zz, zz, zz], []⟩
def tu3_a13 (t : Th) (n : Int) (c : Int) (g : Int) (g1 : Nat) (g3 : Nat) (g5 : Nat) (r7 : Rw) : Act := ⟨#[.agg (tu3_c0 t), .int .i64 3, .agg #[.int .i64 n, .int .i64 c, .int .i64 g], .pointer (some ⟨g1, 0, none⟩), zz, .pointer (some ⟨g3, 0, none⟩), .pointer (some ⟨g5, 0, none⟩), .agg (tu3_c0 t), .agg (tu3_c2 t r7), .int .i64 3, .bool true, .bool true, .int .i64 3, .bool true, .bool true, zz, zz, zz, zz, zz], []⟩
def tu3_a14 (t : Th) (n : Int) (c : Int) (g : Int) (g1 : Nat) (g3 : Nat) (g5 : Nat) (r7 : Rw) : Act := ⟨#[.agg (tu3_c0 t), .int .i64 3, .agg #[.int .i64 n, .int .i64 c, .int .i64 g], .pointer (some ⟨g1, 0, none⟩), zz, .pointer (some ⟨g3, 0, none⟩), .pointer (some ⟨g5, 0, none⟩), .agg (tu3_c0 t), .agg (tu3_c2 t r7), .int .i64 3, .bool true, .bool true, .int .i64 3, .bool true, .bool true, .int .i64 3, zz, zz, zz, zz], []⟩
def tu3_a15 (t : Th) (n : Int) (c : Int) (g : Int) (g1 : Nat) (g3 : Nat) (g5 : Nat) (r7 : Rw) : Act := ⟨#[.agg (tu3_c0 t), .int .i64 3, .agg #[.int .i64 n, .int .i64 c, .int .i64 g], .pointer (some ⟨g1, 0, none⟩), zz, .pointer (some ⟨g3, 0, none⟩), .pointer (some ⟨g5, 0, none⟩), .agg (tu3_c0 t), .agg (tu3_c2 t r7), .int .i64 3, .bool true, .bool true, .int .i64 3, .bool true, .bool true, .int .i64 3, .agg #[.int .i64 n, .int .i64 c, .int .i64 g], zz, zz, zz], []⟩
def tu3_a16 (t : Th) (n : Int) (c : Int) (g : Int) (g1 : Nat) (g3 : Nat) (g5 : Nat) (r7 : Rw) : Act := ⟨#[.agg (tu3_c0 t), .int .i64 3, .agg #[.int .i64 n, .int .i64 c, .int .i64 g], .pointer (some ⟨g1, 0, none⟩), zz, .pointer (some ⟨g3, 0, none⟩), .pointer (some ⟨g5, 0, none⟩), .agg (tu3_c0 t), .agg (tu3_c2 t r7), .int .i64 3, .bool true, .bool true, .int .i64 3, .bool true, .bool true, .int .i64 3, .agg #[.int .i64 n, .int .i64 c, .int .i64 g], .pointer (some ⟨g1, 3, none⟩), zz, zz], []⟩
def tu3_a17 (t : Th) (n : Int) (c : Int) (g : Int) (g1 : Nat) (g3 : Nat) (g5 : Nat) (r7 : Rw) : Act := ⟨#[.agg (tu3_c0 t), .int .i64 3, .agg #[.int .i64 n, .int .i64 c, .int .i64 g], .pointer (some ⟨g1, 0, none⟩), zz, .pointer (some ⟨g3, 0, none⟩), .pointer (some ⟨g5, 0, none⟩), .agg (tu3_c0 t), .agg (tu3_c2 t r7), .int .i64 3, .bool true, .bool true, .int .i64 3, .bool true, .bool true, .int .i64 3, .agg #[.int .i64 n, .int .i64 c, .int .i64 g], .pointer (some ⟨g1, 3, none⟩), .pointer (some ⟨g1, 12, none⟩), zz], []⟩
def tu3_c3 (t : Th) (n : Int) (c : Int) (g : Int) (r7 : Rw) : Array Value := #[.int .i64 t.pc, .int .i64 t.fu, .int .i64 t.st, .int .i64 (t.R 0), .int .i64 (t.R 1), .int .i64 (t.R 2), .int .i64 (t.R 3), .int .i64 (t.R 4), .int .i64 (t.R 5), .int .i64 (t.R 6), .int .i64 (t.R 7), .int .i64 (t.R 8), .int .i64 n, .int .i64 c, .int .i64 g, .int .i64 t.kd, .int .i64 t.mi, .int .i64 t.mn, r7.s, r7.b, r7.n, .int .i64 t.old]
def tu3_a19 (t : Th) (n : Int) (c : Int) (g : Int) (g1 : Nat) (g3 : Nat) (g5 : Nat) (r7 : Rw) : Act := ⟨#[.agg (tu3_c0 t), .int .i64 3, .agg #[.int .i64 n, .int .i64 c, .int .i64 g], .pointer (some ⟨g1, 0, none⟩), zz, .pointer (some ⟨g3, 0, none⟩), .pointer (some ⟨g5, 0, none⟩), .agg (tu3_c0 t), .agg (tu3_c2 t r7), .int .i64 3, .bool true, .bool true, .int .i64 3, .bool true, .bool true, .int .i64 3, .agg #[.int .i64 n, .int .i64 c, .int .i64 g], .pointer (some ⟨g1, 3, none⟩), .pointer (some ⟨g1, 12, none⟩), .agg (tu3_c3 t n c g r7)], []⟩
set_option maxHeartbeats 8000000 in
set_option maxRecDepth 100000 in
theorem th_rSet {w : World} {t : Th} {xs : List Int} {bs : List S42} {ns : List Int} (h : t.reads w xs bs ns) (hl : xs.length ≤ 1000 ∧ bs.length ≤ 1000 ∧ ns.length ≤ 1000) (r n c g : Int) : Calls Try.prog 18 #[.agg t.cells, .int .i64 r, .agg #[.int .i64 n, .int .i64 c, .int .i64 g]] w fun e w' => ∃ As cs Ab cb An cn, e = .returned (.agg (({ t with R := setR t.R r n c g }).rows (.slice As xs.length cs) (.slice Ab bs.length cb) (.slice An ns.length cn)).cells) ∧ (({ t with R := setR t.R r n c g }).rows (.slice As xs.length cs) (.slice Ab bs.length cb) (.slice An ns.length cn)).owns w' w.heap.size xs bs ns ∧ Below w.heap.size w w' := by
  have hc : r < 0 ∨ (0 ≤ r ∧ 3 < r) ∨ r = 0 ∨ r = 1 ∨ r = 2 ∨ r = 3 := by omega
  rcases hc with hrr | hrr | rfl | rfl | rfl | rfl
  · skip
    refine calls_of_wp Try.func18 rfl ?_
    have hW := Ws.nil w
    refine wp_seq ?_
    refine wp_region_list ?_
    obtain ⟨g1, W2, hr, hW, hbb, hge⟩ := hW.mk1 (P := Try.prog) (s := Instr.box 32 (.agg (tun_c0 t))) (tun_c0 t) 32 (by kernel_rfl)
    refine se (a' := (tun_a1 t r n c g g1)) (.pointer (some ⟨g1, 0, none⟩)) (Eq.trans (b := (do pure (Next.value (← Instr.box 32 (.agg (tun_c0 t)))) : Sem Next).run Try.prog w) (by kernel_rfl) (st_val hr)) ?_
    obtain ⟨g3, W4, hr, hW, hbb, hge⟩ := hW.mk1 (P := Try.prog) (s := Instr.box 25 (.agg #[.int .i64 n, .int .i64 c, .int .i64 g])) #[.int .i64 n, .int .i64 c, .int .i64 g] 25 (by kernel_rfl)
    refine se (a' := (tun_a2 t r n c g g1 g3)) (.pointer (some ⟨g3, 0, none⟩)) (Eq.trans (b := (do pure (Next.value (← Instr.box 25 (.agg #[.int .i64 n, .int .i64 c, .int .i64 g]))) : Sem Next).run Try.prog W2) (by kernel_rfl) (st_val hr)) ?_
    obtain ⟨g5, W6, hr, hW, hbb, hge⟩ := hW.mk1 (P := Try.prog) (s := Instr.alloc 32 true (.tuple #[])) tun_c1 32 (by kernel_rfl)
    refine se (a' := (tun_a4 t r n c g g1 g3 g5)) (.pointer (some ⟨g5, 0, none⟩)) (Eq.trans (b := (do pure (Next.value (← Instr.alloc 32 true (.tuple #[]))) : Sem Next).run Try.prog W4) (by kernel_rfl) (st_val hr)) ?_
    refine wpList_nil ?_
    refine wp_seq ?_
    refine wp_region_list ?_
    refine se (a' := (tun_a5 t r n c g g1 g3 g5)) (.agg (tun_c0 t)) (evA hW 2 0 Try.underlying32) ?_
    have hK7_g5 : g5 < W6.heap.size := blk_lt (hW.blk 0 _ _ _ rfl).1
    have hK7_g3 : g3 < W6.heap.size := blk_lt (hW.blk 1 _ _ _ rfl).1
    have hK7_g1 : g1 < W6.heap.size := blk_lt (hW.blk 2 _ _ _ rfl).1
    have hK7_le : w.heap.size ≤ W6.heap.size := hW.below.size
    refine st_call (th_Copy (t := (⟨t.pc, t.fu, t.st, t.R, t.kd, t.mi, t.mn, t.sv, t.bv, t.nv, t.old⟩ : Th)) (xs := xs) (bs := bs) (ns := ns) ⟨h.s.below hW.below, h.b.below hW.below, h.n.below hW.below⟩ hl) (by kernel_rfl) (by kernel_rfl) ?_
    rintro _ W7 ⟨As7, cs7, Ab7, cb7, An7, cn7, rfl, hO7, hB⟩
    have hW := hW.step hB
    have hK7 := KeepUp.refl W6.heap.size W7
    obtain ⟨r7, e7⟩ : ∃ r : Rw, r = ⟨.slice As7 xs.length cs7, .slice Ab7 bs.length cb7, .slice An7 ns.length cn7⟩ := ⟨_, rfl⟩
    refine ⟨_, (tun_a7 t r n c g g1 g3 g5 r7), rfl, by (try subst e7); kernel_rfl, ?_⟩
    obtain ⟨W8, hr, hW, hF⟩ := hW.storeN (P := Try.prog) (o := 0) (cs' := (tun_c2 t r7)) (L' := [(g5, 32, tun_c1), (g3, 25, #[.int .i64 n, .int .i64 c, .int .i64 g]), (g1, 32, (tun_c2 t r7))]) 2 rfl (tun_c2 t r7) (by (try subst e7); kernel_rfl) (Nat.le_of_ble_eq_true rfl) (by kernel_rfl) rfl 32 (by kernel_rfl)
    have hK7 := hK7.store hF (.inl hK7_g1)
    refine st_none (w' := W8) (a' := (tun_a7 t r n c g g1 g3 g5 r7)) (by kernel_rfl) (Eq.trans (b := (do Instr.storeAt 32 (.pointer (some ⟨g1, 0, none⟩)) (.agg (tun_c2 t r7)); pure Next.skip : Sem Next).run Try.prog W7) (by kernel_rfl) (st_unit hr)) (by kernel_rfl) ?_
    refine wpList_nil ?_
    refine wp_seq ?_
    refine wp_seq ?_
    refine wp_region_list ?_
    refine sk (a' := (tun_a8 t r n c g g1 g3 g5 r7)) (.int .i64 r) ?_
    refine se (a' := (tun_a9 t r n c g g1 g3 g5 r7)) (.bool false) (Eq.trans (b := .ok (.value (.bool (decide ((r : Int) ≥ 0)))) W8) (by kernel_rfl) (st_ok (decide_eq_false (by omega)))) ?_
    refine st_ones (w' := W8) (a' := (tun_a10 t r n c g g1 g3 g5 r7)) (a2 := (tun_a10 t r n c g g1 g3 g5 r7)) 2 (.bool false) (by kernel_rfl) (by kernel_rfl) (by kernel_rfl) (by kernel_rfl) (by kernel_rfl) ?_
    refine sk (a' := (tun_a11 t r n c g g1 g3 g5 r7)) (.bool false) ?_
    refine wpList_nil ?_
    refine wp_cond (t := false) (by kernel_rfl) ?_
    refine wp_skip ?_
    refine wp_seq ?_
    refine wp_region_list ?_
    refine se (a' := (tun_a12 t r n c g g1 g3 g5 r7)) (.agg (tun_c2 t r7)) (evA hW 2 0 Try.underlying32) ?_
    obtain ⟨W9, hr, hW, hF⟩ := hW.storeN (P := Try.prog) (o := 0) (cs' := (tun_c2 t r7)) (L' := [(g5, 32, (tun_c2 t r7)), (g3, 25, #[.int .i64 n, .int .i64 c, .int .i64 g]), (g1, 32, (tun_c2 t r7))]) 0 rfl (tun_c2 t r7) (by (try subst e7); kernel_rfl) (Nat.le_of_ble_eq_true rfl) (by kernel_rfl) rfl 32 (by kernel_rfl)
    have hK7 := hK7.store hF (.inl hK7_g5)
    refine st_none (w' := W9) (a' := (tun_a12 t r n c g g1 g3 g5 r7)) (by kernel_rfl) (Eq.trans (b := (do Instr.storeAt 32 (.pointer (some ⟨g5, 0, none⟩)) (.agg (tun_c2 t r7)); pure Next.skip : Sem Next).run Try.prog W8) (by kernel_rfl) (st_unit hr)) (by kernel_rfl) ?_
    refine wpList_nil ?_
    refine wp_ret ?_
    (try simp only [Exit.then, Exit.inBlock])
    change bodyPost Try.prog Try.f18 _ .ret _ _
    refine bodyPost_ret (results_single rfl (.cell g5 32 _ (0, 0) _ (by kernel_rfl) (hW.blk 0 _ _ _ rfl).1 Try.underlying32 rfl (by kernel_rfl) .nil)) rfl ?_
    subst e7
    refine ⟨As7, cs7, Ab7, cb7, An7, cn7, ?_, ⟨Kd.R_lower (hK7.R hO7.s) hK7_le, Kd.R_lower (hK7.R hO7.b) hK7_le, Kd.R_lower (hK7.R hO7.n) hK7_le⟩, hW.below⟩
    unfold setR
    rw [if_neg (by omega)]
    rfl
  · skip
    refine calls_of_wp Try.func18 rfl ?_
    have hW := Ws.nil w
    refine wp_seq ?_
    refine wp_region_list ?_
    obtain ⟨g1, W2, hr, hW, hbb, hge⟩ := hW.mk1 (P := Try.prog) (s := Instr.box 32 (.agg (tuo_c0 t))) (tuo_c0 t) 32 (by kernel_rfl)
    refine se (a' := (tuo_a1 t r n c g g1)) (.pointer (some ⟨g1, 0, none⟩)) (Eq.trans (b := (do pure (Next.value (← Instr.box 32 (.agg (tuo_c0 t)))) : Sem Next).run Try.prog w) (by kernel_rfl) (st_val hr)) ?_
    obtain ⟨g3, W4, hr, hW, hbb, hge⟩ := hW.mk1 (P := Try.prog) (s := Instr.box 25 (.agg #[.int .i64 n, .int .i64 c, .int .i64 g])) #[.int .i64 n, .int .i64 c, .int .i64 g] 25 (by kernel_rfl)
    refine se (a' := (tuo_a2 t r n c g g1 g3)) (.pointer (some ⟨g3, 0, none⟩)) (Eq.trans (b := (do pure (Next.value (← Instr.box 25 (.agg #[.int .i64 n, .int .i64 c, .int .i64 g]))) : Sem Next).run Try.prog W2) (by kernel_rfl) (st_val hr)) ?_
    obtain ⟨g5, W6, hr, hW, hbb, hge⟩ := hW.mk1 (P := Try.prog) (s := Instr.alloc 32 true (.tuple #[])) tuo_c1 32 (by kernel_rfl)
    refine se (a' := (tuo_a4 t r n c g g1 g3 g5)) (.pointer (some ⟨g5, 0, none⟩)) (Eq.trans (b := (do pure (Next.value (← Instr.alloc 32 true (.tuple #[]))) : Sem Next).run Try.prog W4) (by kernel_rfl) (st_val hr)) ?_
    refine wpList_nil ?_
    refine wp_seq ?_
    refine wp_region_list ?_
    refine se (a' := (tuo_a5 t r n c g g1 g3 g5)) (.agg (tuo_c0 t)) (evA hW 2 0 Try.underlying32) ?_
    have hK7_g5 : g5 < W6.heap.size := blk_lt (hW.blk 0 _ _ _ rfl).1
    have hK7_g3 : g3 < W6.heap.size := blk_lt (hW.blk 1 _ _ _ rfl).1
    have hK7_g1 : g1 < W6.heap.size := blk_lt (hW.blk 2 _ _ _ rfl).1
    have hK7_le : w.heap.size ≤ W6.heap.size := hW.below.size
    refine st_call (th_Copy (t := (⟨t.pc, t.fu, t.st, t.R, t.kd, t.mi, t.mn, t.sv, t.bv, t.nv, t.old⟩ : Th)) (xs := xs) (bs := bs) (ns := ns) ⟨h.s.below hW.below, h.b.below hW.below, h.n.below hW.below⟩ hl) (by kernel_rfl) (by kernel_rfl) ?_
    rintro _ W7 ⟨As7, cs7, Ab7, cb7, An7, cn7, rfl, hO7, hB⟩
    have hW := hW.step hB
    have hK7 := KeepUp.refl W6.heap.size W7
    obtain ⟨r7, e7⟩ : ∃ r : Rw, r = ⟨.slice As7 xs.length cs7, .slice Ab7 bs.length cb7, .slice An7 ns.length cn7⟩ := ⟨_, rfl⟩
    refine ⟨_, (tuo_a7 t r n c g g1 g3 g5 r7), rfl, by (try subst e7); kernel_rfl, ?_⟩
    obtain ⟨W8, hr, hW, hF⟩ := hW.storeN (P := Try.prog) (o := 0) (cs' := (tuo_c2 t r7)) (L' := [(g5, 32, tuo_c1), (g3, 25, #[.int .i64 n, .int .i64 c, .int .i64 g]), (g1, 32, (tuo_c2 t r7))]) 2 rfl (tuo_c2 t r7) (by (try subst e7); kernel_rfl) (Nat.le_of_ble_eq_true rfl) (by kernel_rfl) rfl 32 (by kernel_rfl)
    have hK7 := hK7.store hF (.inl hK7_g1)
    refine st_none (w' := W8) (a' := (tuo_a7 t r n c g g1 g3 g5 r7)) (by kernel_rfl) (Eq.trans (b := (do Instr.storeAt 32 (.pointer (some ⟨g1, 0, none⟩)) (.agg (tuo_c2 t r7)); pure Next.skip : Sem Next).run Try.prog W7) (by kernel_rfl) (st_unit hr)) (by kernel_rfl) ?_
    refine wpList_nil ?_
    refine wp_seq ?_
    refine wp_seq ?_
    refine wp_region_list ?_
    refine sk (a' := (tuo_a8 t r n c g g1 g3 g5 r7)) (.int .i64 r) ?_
    refine se (a' := (tuo_a9 t r n c g g1 g3 g5 r7)) (.bool true) (Eq.trans (b := .ok (.value (.bool (decide ((r : Int) ≥ 0)))) W8) (by kernel_rfl) (st_ok (decide_eq_true (by omega)))) ?_
    refine sk (a' := (tuo_a10 t r n c g g1 g3 g5 r7)) (.bool true) ?_
    refine sk (a' := (tuo_a11 t r n c g g1 g3 g5 r7)) (.int .i64 r) ?_
    refine se (a' := (tuo_a12 t r n c g g1 g3 g5 r7)) (.bool false) (Eq.trans (b := .ok (.value (.bool (decide ((r : Int) ≤ 3)))) W8) (by kernel_rfl) (st_ok (decide_eq_false (by omega)))) ?_
    refine sk (a' := (tuo_a13 t r n c g g1 g3 g5 r7)) (.bool false) ?_
    refine wpList_nil ?_
    refine wp_cond (t := false) (by kernel_rfl) ?_
    refine wp_skip ?_
    refine wp_seq ?_
    refine wp_region_list ?_
    refine se (a' := (tuo_a14 t r n c g g1 g3 g5 r7)) (.agg (tuo_c2 t r7)) (evA hW 2 0 Try.underlying32) ?_
    obtain ⟨W9, hr, hW, hF⟩ := hW.storeN (P := Try.prog) (o := 0) (cs' := (tuo_c2 t r7)) (L' := [(g5, 32, (tuo_c2 t r7)), (g3, 25, #[.int .i64 n, .int .i64 c, .int .i64 g]), (g1, 32, (tuo_c2 t r7))]) 0 rfl (tuo_c2 t r7) (by (try subst e7); kernel_rfl) (Nat.le_of_ble_eq_true rfl) (by kernel_rfl) rfl 32 (by kernel_rfl)
    have hK7 := hK7.store hF (.inl hK7_g5)
    refine st_none (w' := W9) (a' := (tuo_a14 t r n c g g1 g3 g5 r7)) (by kernel_rfl) (Eq.trans (b := (do Instr.storeAt 32 (.pointer (some ⟨g5, 0, none⟩)) (.agg (tuo_c2 t r7)); pure Next.skip : Sem Next).run Try.prog W8) (by kernel_rfl) (st_unit hr)) (by kernel_rfl) ?_
    refine wpList_nil ?_
    refine wp_ret ?_
    (try simp only [Exit.then, Exit.inBlock])
    change bodyPost Try.prog Try.f18 _ .ret _ _
    refine bodyPost_ret (results_single rfl (.cell g5 32 _ (0, 0) _ (by kernel_rfl) (hW.blk 0 _ _ _ rfl).1 Try.underlying32 rfl (by kernel_rfl) .nil)) rfl ?_
    subst e7
    refine ⟨As7, cs7, Ab7, cb7, An7, cn7, ?_, ⟨Kd.R_lower (hK7.R hO7.s) hK7_le, Kd.R_lower (hK7.R hO7.b) hK7_le, Kd.R_lower (hK7.R hO7.n) hK7_le⟩, hW.below⟩
    unfold setR
    rw [if_neg (by omega)]
    rfl
  · skip
    refine calls_of_wp Try.func18 rfl ?_
    have hW := Ws.nil w
    refine wp_seq ?_
    refine wp_region_list ?_
    obtain ⟨g1, W2, hr, hW, hbb, hge⟩ := hW.mk1 (P := Try.prog) (s := Instr.box 32 (.agg (tu0_c0 t))) (tu0_c0 t) 32 (by kernel_rfl)
    refine se (a' := (tu0_a1 t n c g g1)) (.pointer (some ⟨g1, 0, none⟩)) (Eq.trans (b := (do pure (Next.value (← Instr.box 32 (.agg (tu0_c0 t)))) : Sem Next).run Try.prog w) (by kernel_rfl) (st_val hr)) ?_
    obtain ⟨g3, W4, hr, hW, hbb, hge⟩ := hW.mk1 (P := Try.prog) (s := Instr.box 25 (.agg #[.int .i64 n, .int .i64 c, .int .i64 g])) #[.int .i64 n, .int .i64 c, .int .i64 g] 25 (by kernel_rfl)
    refine se (a' := (tu0_a2 t n c g g1 g3)) (.pointer (some ⟨g3, 0, none⟩)) (Eq.trans (b := (do pure (Next.value (← Instr.box 25 (.agg #[.int .i64 n, .int .i64 c, .int .i64 g]))) : Sem Next).run Try.prog W2) (by kernel_rfl) (st_val hr)) ?_
    obtain ⟨g5, W6, hr, hW, hbb, hge⟩ := hW.mk1 (P := Try.prog) (s := Instr.alloc 32 true (.tuple #[])) tu0_c1 32 (by kernel_rfl)
    refine se (a' := (tu0_a4 t n c g g1 g3 g5)) (.pointer (some ⟨g5, 0, none⟩)) (Eq.trans (b := (do pure (Next.value (← Instr.alloc 32 true (.tuple #[]))) : Sem Next).run Try.prog W4) (by kernel_rfl) (st_val hr)) ?_
    refine wpList_nil ?_
    refine wp_seq ?_
    refine wp_region_list ?_
    refine se (a' := (tu0_a5 t n c g g1 g3 g5)) (.agg (tu0_c0 t)) (evA hW 2 0 Try.underlying32) ?_
    have hK7_g5 : g5 < W6.heap.size := blk_lt (hW.blk 0 _ _ _ rfl).1
    have hK7_g3 : g3 < W6.heap.size := blk_lt (hW.blk 1 _ _ _ rfl).1
    have hK7_g1 : g1 < W6.heap.size := blk_lt (hW.blk 2 _ _ _ rfl).1
    have hK7_le : w.heap.size ≤ W6.heap.size := hW.below.size
    refine st_call (th_Copy (t := (⟨t.pc, t.fu, t.st, t.R, t.kd, t.mi, t.mn, t.sv, t.bv, t.nv, t.old⟩ : Th)) (xs := xs) (bs := bs) (ns := ns) ⟨h.s.below hW.below, h.b.below hW.below, h.n.below hW.below⟩ hl) (by kernel_rfl) (by kernel_rfl) ?_
    rintro _ W7 ⟨As7, cs7, Ab7, cb7, An7, cn7, rfl, hO7, hB⟩
    have hW := hW.step hB
    have hK7 := KeepUp.refl W6.heap.size W7
    obtain ⟨r7, e7⟩ : ∃ r : Rw, r = ⟨.slice As7 xs.length cs7, .slice Ab7 bs.length cb7, .slice An7 ns.length cn7⟩ := ⟨_, rfl⟩
    refine ⟨_, (tu0_a7 t n c g g1 g3 g5 r7), rfl, by (try subst e7); kernel_rfl, ?_⟩
    obtain ⟨W8, hr, hW, hF⟩ := hW.storeN (P := Try.prog) (o := 0) (cs' := (tu0_c2 t r7)) (L' := [(g5, 32, tu0_c1), (g3, 25, #[.int .i64 n, .int .i64 c, .int .i64 g]), (g1, 32, (tu0_c2 t r7))]) 2 rfl (tu0_c2 t r7) (by (try subst e7); kernel_rfl) (Nat.le_of_ble_eq_true rfl) (by kernel_rfl) rfl 32 (by kernel_rfl)
    have hK7 := hK7.store hF (.inl hK7_g1)
    refine st_none (w' := W8) (a' := (tu0_a7 t n c g g1 g3 g5 r7)) (by kernel_rfl) (Eq.trans (b := (do Instr.storeAt 32 (.pointer (some ⟨g1, 0, none⟩)) (.agg (tu0_c2 t r7)); pure Next.skip : Sem Next).run Try.prog W7) (by kernel_rfl) (st_unit hr)) (by kernel_rfl) ?_
    refine wpList_nil ?_
    refine wp_seq ?_
    refine wp_seq ?_
    refine wp_region_list ?_
    refine sk (a' := (tu0_a8 t n c g g1 g3 g5 r7)) (.int .i64 0) ?_
    refine sk (a' := (tu0_a9 t n c g g1 g3 g5 r7)) (.bool true) ?_
    refine sk (a' := (tu0_a10 t n c g g1 g3 g5 r7)) (.bool true) ?_
    refine sk (a' := (tu0_a11 t n c g g1 g3 g5 r7)) (.int .i64 0) ?_
    refine sk (a' := (tu0_a12 t n c g g1 g3 g5 r7)) (.bool true) ?_
    refine sk (a' := (tu0_a13 t n c g g1 g3 g5 r7)) (.bool true) ?_
    refine wpList_nil ?_
    refine wp_cond (t := true) (by kernel_rfl) ?_
    refine wp_region_list ?_
    refine sk (a' := (tu0_a14 t n c g g1 g3 g5 r7)) (.int .i64 0) ?_
    refine se (a' := (tu0_a15 t n c g g1 g3 g5 r7)) (.agg #[.int .i64 n, .int .i64 c, .int .i64 g]) (evA hW 1 0 Try.underlying25) ?_
    refine sk (a' := (tu0_a16 t n c g g1 g3 g5 r7)) (.pointer (some ⟨g1, 3, none⟩)) ?_
    refine sk (a' := (tu0_a17 t n c g g1 g3 g5 r7)) (.pointer (some ⟨g1, 3, none⟩)) ?_
    obtain ⟨W9, hr, hW, hF⟩ := hW.storeN (P := Try.prog) (o := 3) (cs' := (tu0_c3 t n c g r7)) (L' := [(g5, 32, tu0_c1), (g3, 25, #[.int .i64 n, .int .i64 c, .int .i64 g]), (g1, 32, (tu0_c3 t n c g r7))]) 2 rfl #[.int .i64 n, .int .i64 c, .int .i64 g] (by (try subst e7); kernel_rfl) (Nat.le_of_ble_eq_true rfl) (by kernel_rfl) rfl 25 (by kernel_rfl)
    have hK7 := hK7.store hF (.inl hK7_g1)
    refine st_none (w' := W9) (a' := (tu0_a17 t n c g g1 g3 g5 r7)) (by kernel_rfl) (Eq.trans (b := (do Instr.storeAt 25 (.pointer (some ⟨g1, 3, none⟩)) (.agg #[.int .i64 n, .int .i64 c, .int .i64 g]); pure Next.skip : Sem Next).run Try.prog W8) (by kernel_rfl) (st_unit hr)) (by kernel_rfl) ?_
    refine wpList_nil ?_
    refine wp_seq ?_
    refine wp_region_list ?_
    refine se (a' := (tu0_a19 t n c g g1 g3 g5 r7)) (.agg (tu0_c3 t n c g r7)) (evA hW 2 0 Try.underlying32) ?_
    obtain ⟨W10, hr, hW, hF⟩ := hW.storeN (P := Try.prog) (o := 0) (cs' := (tu0_c3 t n c g r7)) (L' := [(g5, 32, (tu0_c3 t n c g r7)), (g3, 25, #[.int .i64 n, .int .i64 c, .int .i64 g]), (g1, 32, (tu0_c3 t n c g r7))]) 0 rfl (tu0_c3 t n c g r7) (by (try subst e7); kernel_rfl) (Nat.le_of_ble_eq_true rfl) (by kernel_rfl) rfl 32 (by kernel_rfl)
    have hK7 := hK7.store hF (.inl hK7_g5)
    refine st_none (w' := W10) (a' := (tu0_a19 t n c g g1 g3 g5 r7)) (by kernel_rfl) (Eq.trans (b := (do Instr.storeAt 32 (.pointer (some ⟨g5, 0, none⟩)) (.agg (tu0_c3 t n c g r7)); pure Next.skip : Sem Next).run Try.prog W9) (by kernel_rfl) (st_unit hr)) (by kernel_rfl) ?_
    refine wpList_nil ?_
    refine wp_ret ?_
    (try simp only [Exit.then, Exit.inBlock])
    change bodyPost Try.prog Try.f18 _ .ret _ _
    refine bodyPost_ret (results_single rfl (.cell g5 32 _ (0, 0) _ (by kernel_rfl) (hW.blk 0 _ _ _ rfl).1 Try.underlying32 rfl (by kernel_rfl) .nil)) rfl ?_
    subst e7
    refine ⟨As7, cs7, Ab7, cb7, An7, cn7, ?_, ⟨Kd.R_lower (hK7.R hO7.s) hK7_le, Kd.R_lower (hK7.R hO7.b) hK7_le, Kd.R_lower (hK7.R hO7.n) hK7_le⟩, hW.below⟩
    kernel_rfl
  · skip
    refine calls_of_wp Try.func18 rfl ?_
    have hW := Ws.nil w
    refine wp_seq ?_
    refine wp_region_list ?_
    obtain ⟨g1, W2, hr, hW, hbb, hge⟩ := hW.mk1 (P := Try.prog) (s := Instr.box 32 (.agg (tu1_c0 t))) (tu1_c0 t) 32 (by kernel_rfl)
    refine se (a' := (tu1_a1 t n c g g1)) (.pointer (some ⟨g1, 0, none⟩)) (Eq.trans (b := (do pure (Next.value (← Instr.box 32 (.agg (tu1_c0 t)))) : Sem Next).run Try.prog w) (by kernel_rfl) (st_val hr)) ?_
    obtain ⟨g3, W4, hr, hW, hbb, hge⟩ := hW.mk1 (P := Try.prog) (s := Instr.box 25 (.agg #[.int .i64 n, .int .i64 c, .int .i64 g])) #[.int .i64 n, .int .i64 c, .int .i64 g] 25 (by kernel_rfl)
    refine se (a' := (tu1_a2 t n c g g1 g3)) (.pointer (some ⟨g3, 0, none⟩)) (Eq.trans (b := (do pure (Next.value (← Instr.box 25 (.agg #[.int .i64 n, .int .i64 c, .int .i64 g]))) : Sem Next).run Try.prog W2) (by kernel_rfl) (st_val hr)) ?_
    obtain ⟨g5, W6, hr, hW, hbb, hge⟩ := hW.mk1 (P := Try.prog) (s := Instr.alloc 32 true (.tuple #[])) tu1_c1 32 (by kernel_rfl)
    refine se (a' := (tu1_a4 t n c g g1 g3 g5)) (.pointer (some ⟨g5, 0, none⟩)) (Eq.trans (b := (do pure (Next.value (← Instr.alloc 32 true (.tuple #[]))) : Sem Next).run Try.prog W4) (by kernel_rfl) (st_val hr)) ?_
    refine wpList_nil ?_
    refine wp_seq ?_
    refine wp_region_list ?_
    refine se (a' := (tu1_a5 t n c g g1 g3 g5)) (.agg (tu1_c0 t)) (evA hW 2 0 Try.underlying32) ?_
    have hK7_g5 : g5 < W6.heap.size := blk_lt (hW.blk 0 _ _ _ rfl).1
    have hK7_g3 : g3 < W6.heap.size := blk_lt (hW.blk 1 _ _ _ rfl).1
    have hK7_g1 : g1 < W6.heap.size := blk_lt (hW.blk 2 _ _ _ rfl).1
    have hK7_le : w.heap.size ≤ W6.heap.size := hW.below.size
    refine st_call (th_Copy (t := (⟨t.pc, t.fu, t.st, t.R, t.kd, t.mi, t.mn, t.sv, t.bv, t.nv, t.old⟩ : Th)) (xs := xs) (bs := bs) (ns := ns) ⟨h.s.below hW.below, h.b.below hW.below, h.n.below hW.below⟩ hl) (by kernel_rfl) (by kernel_rfl) ?_
    rintro _ W7 ⟨As7, cs7, Ab7, cb7, An7, cn7, rfl, hO7, hB⟩
    have hW := hW.step hB
    have hK7 := KeepUp.refl W6.heap.size W7
    obtain ⟨r7, e7⟩ : ∃ r : Rw, r = ⟨.slice As7 xs.length cs7, .slice Ab7 bs.length cb7, .slice An7 ns.length cn7⟩ := ⟨_, rfl⟩
    refine ⟨_, (tu1_a7 t n c g g1 g3 g5 r7), rfl, by (try subst e7); kernel_rfl, ?_⟩
    obtain ⟨W8, hr, hW, hF⟩ := hW.storeN (P := Try.prog) (o := 0) (cs' := (tu1_c2 t r7)) (L' := [(g5, 32, tu1_c1), (g3, 25, #[.int .i64 n, .int .i64 c, .int .i64 g]), (g1, 32, (tu1_c2 t r7))]) 2 rfl (tu1_c2 t r7) (by (try subst e7); kernel_rfl) (Nat.le_of_ble_eq_true rfl) (by kernel_rfl) rfl 32 (by kernel_rfl)
    have hK7 := hK7.store hF (.inl hK7_g1)
    refine st_none (w' := W8) (a' := (tu1_a7 t n c g g1 g3 g5 r7)) (by kernel_rfl) (Eq.trans (b := (do Instr.storeAt 32 (.pointer (some ⟨g1, 0, none⟩)) (.agg (tu1_c2 t r7)); pure Next.skip : Sem Next).run Try.prog W7) (by kernel_rfl) (st_unit hr)) (by kernel_rfl) ?_
    refine wpList_nil ?_
    refine wp_seq ?_
    refine wp_seq ?_
    refine wp_region_list ?_
    refine sk (a' := (tu1_a8 t n c g g1 g3 g5 r7)) (.int .i64 1) ?_
    refine sk (a' := (tu1_a9 t n c g g1 g3 g5 r7)) (.bool true) ?_
    refine sk (a' := (tu1_a10 t n c g g1 g3 g5 r7)) (.bool true) ?_
    refine sk (a' := (tu1_a11 t n c g g1 g3 g5 r7)) (.int .i64 1) ?_
    refine sk (a' := (tu1_a12 t n c g g1 g3 g5 r7)) (.bool true) ?_
    refine sk (a' := (tu1_a13 t n c g g1 g3 g5 r7)) (.bool true) ?_
    refine wpList_nil ?_
    refine wp_cond (t := true) (by kernel_rfl) ?_
    refine wp_region_list ?_
    refine sk (a' := (tu1_a14 t n c g g1 g3 g5 r7)) (.int .i64 1) ?_
    refine se (a' := (tu1_a15 t n c g g1 g3 g5 r7)) (.agg #[.int .i64 n, .int .i64 c, .int .i64 g]) (evA hW 1 0 Try.underlying25) ?_
    refine sk (a' := (tu1_a16 t n c g g1 g3 g5 r7)) (.pointer (some ⟨g1, 3, none⟩)) ?_
    refine sk (a' := (tu1_a17 t n c g g1 g3 g5 r7)) (.pointer (some ⟨g1, 6, none⟩)) ?_
    obtain ⟨W9, hr, hW, hF⟩ := hW.storeN (P := Try.prog) (o := 6) (cs' := (tu1_c3 t n c g r7)) (L' := [(g5, 32, tu1_c1), (g3, 25, #[.int .i64 n, .int .i64 c, .int .i64 g]), (g1, 32, (tu1_c3 t n c g r7))]) 2 rfl #[.int .i64 n, .int .i64 c, .int .i64 g] (by (try subst e7); kernel_rfl) (Nat.le_of_ble_eq_true rfl) (by kernel_rfl) rfl 25 (by kernel_rfl)
    have hK7 := hK7.store hF (.inl hK7_g1)
    refine st_none (w' := W9) (a' := (tu1_a17 t n c g g1 g3 g5 r7)) (by kernel_rfl) (Eq.trans (b := (do Instr.storeAt 25 (.pointer (some ⟨g1, 6, none⟩)) (.agg #[.int .i64 n, .int .i64 c, .int .i64 g]); pure Next.skip : Sem Next).run Try.prog W8) (by kernel_rfl) (st_unit hr)) (by kernel_rfl) ?_
    refine wpList_nil ?_
    refine wp_seq ?_
    refine wp_region_list ?_
    refine se (a' := (tu1_a19 t n c g g1 g3 g5 r7)) (.agg (tu1_c3 t n c g r7)) (evA hW 2 0 Try.underlying32) ?_
    obtain ⟨W10, hr, hW, hF⟩ := hW.storeN (P := Try.prog) (o := 0) (cs' := (tu1_c3 t n c g r7)) (L' := [(g5, 32, (tu1_c3 t n c g r7)), (g3, 25, #[.int .i64 n, .int .i64 c, .int .i64 g]), (g1, 32, (tu1_c3 t n c g r7))]) 0 rfl (tu1_c3 t n c g r7) (by (try subst e7); kernel_rfl) (Nat.le_of_ble_eq_true rfl) (by kernel_rfl) rfl 32 (by kernel_rfl)
    have hK7 := hK7.store hF (.inl hK7_g5)
    refine st_none (w' := W10) (a' := (tu1_a19 t n c g g1 g3 g5 r7)) (by kernel_rfl) (Eq.trans (b := (do Instr.storeAt 32 (.pointer (some ⟨g5, 0, none⟩)) (.agg (tu1_c3 t n c g r7)); pure Next.skip : Sem Next).run Try.prog W9) (by kernel_rfl) (st_unit hr)) (by kernel_rfl) ?_
    refine wpList_nil ?_
    refine wp_ret ?_
    (try simp only [Exit.then, Exit.inBlock])
    change bodyPost Try.prog Try.f18 _ .ret _ _
    refine bodyPost_ret (results_single rfl (.cell g5 32 _ (0, 0) _ (by kernel_rfl) (hW.blk 0 _ _ _ rfl).1 Try.underlying32 rfl (by kernel_rfl) .nil)) rfl ?_
    subst e7
    refine ⟨As7, cs7, Ab7, cb7, An7, cn7, ?_, ⟨Kd.R_lower (hK7.R hO7.s) hK7_le, Kd.R_lower (hK7.R hO7.b) hK7_le, Kd.R_lower (hK7.R hO7.n) hK7_le⟩, hW.below⟩
    kernel_rfl
  · skip
    refine calls_of_wp Try.func18 rfl ?_
    have hW := Ws.nil w
    refine wp_seq ?_
    refine wp_region_list ?_
    obtain ⟨g1, W2, hr, hW, hbb, hge⟩ := hW.mk1 (P := Try.prog) (s := Instr.box 32 (.agg (tu2_c0 t))) (tu2_c0 t) 32 (by kernel_rfl)
    refine se (a' := (tu2_a1 t n c g g1)) (.pointer (some ⟨g1, 0, none⟩)) (Eq.trans (b := (do pure (Next.value (← Instr.box 32 (.agg (tu2_c0 t)))) : Sem Next).run Try.prog w) (by kernel_rfl) (st_val hr)) ?_
    obtain ⟨g3, W4, hr, hW, hbb, hge⟩ := hW.mk1 (P := Try.prog) (s := Instr.box 25 (.agg #[.int .i64 n, .int .i64 c, .int .i64 g])) #[.int .i64 n, .int .i64 c, .int .i64 g] 25 (by kernel_rfl)
    refine se (a' := (tu2_a2 t n c g g1 g3)) (.pointer (some ⟨g3, 0, none⟩)) (Eq.trans (b := (do pure (Next.value (← Instr.box 25 (.agg #[.int .i64 n, .int .i64 c, .int .i64 g]))) : Sem Next).run Try.prog W2) (by kernel_rfl) (st_val hr)) ?_
    obtain ⟨g5, W6, hr, hW, hbb, hge⟩ := hW.mk1 (P := Try.prog) (s := Instr.alloc 32 true (.tuple #[])) tu2_c1 32 (by kernel_rfl)
    refine se (a' := (tu2_a4 t n c g g1 g3 g5)) (.pointer (some ⟨g5, 0, none⟩)) (Eq.trans (b := (do pure (Next.value (← Instr.alloc 32 true (.tuple #[]))) : Sem Next).run Try.prog W4) (by kernel_rfl) (st_val hr)) ?_
    refine wpList_nil ?_
    refine wp_seq ?_
    refine wp_region_list ?_
    refine se (a' := (tu2_a5 t n c g g1 g3 g5)) (.agg (tu2_c0 t)) (evA hW 2 0 Try.underlying32) ?_
    have hK7_g5 : g5 < W6.heap.size := blk_lt (hW.blk 0 _ _ _ rfl).1
    have hK7_g3 : g3 < W6.heap.size := blk_lt (hW.blk 1 _ _ _ rfl).1
    have hK7_g1 : g1 < W6.heap.size := blk_lt (hW.blk 2 _ _ _ rfl).1
    have hK7_le : w.heap.size ≤ W6.heap.size := hW.below.size
    refine st_call (th_Copy (t := (⟨t.pc, t.fu, t.st, t.R, t.kd, t.mi, t.mn, t.sv, t.bv, t.nv, t.old⟩ : Th)) (xs := xs) (bs := bs) (ns := ns) ⟨h.s.below hW.below, h.b.below hW.below, h.n.below hW.below⟩ hl) (by kernel_rfl) (by kernel_rfl) ?_
    rintro _ W7 ⟨As7, cs7, Ab7, cb7, An7, cn7, rfl, hO7, hB⟩
    have hW := hW.step hB
    have hK7 := KeepUp.refl W6.heap.size W7
    obtain ⟨r7, e7⟩ : ∃ r : Rw, r = ⟨.slice As7 xs.length cs7, .slice Ab7 bs.length cb7, .slice An7 ns.length cn7⟩ := ⟨_, rfl⟩
    refine ⟨_, (tu2_a7 t n c g g1 g3 g5 r7), rfl, by (try subst e7); kernel_rfl, ?_⟩
    obtain ⟨W8, hr, hW, hF⟩ := hW.storeN (P := Try.prog) (o := 0) (cs' := (tu2_c2 t r7)) (L' := [(g5, 32, tu2_c1), (g3, 25, #[.int .i64 n, .int .i64 c, .int .i64 g]), (g1, 32, (tu2_c2 t r7))]) 2 rfl (tu2_c2 t r7) (by (try subst e7); kernel_rfl) (Nat.le_of_ble_eq_true rfl) (by kernel_rfl) rfl 32 (by kernel_rfl)
    have hK7 := hK7.store hF (.inl hK7_g1)
    refine st_none (w' := W8) (a' := (tu2_a7 t n c g g1 g3 g5 r7)) (by kernel_rfl) (Eq.trans (b := (do Instr.storeAt 32 (.pointer (some ⟨g1, 0, none⟩)) (.agg (tu2_c2 t r7)); pure Next.skip : Sem Next).run Try.prog W7) (by kernel_rfl) (st_unit hr)) (by kernel_rfl) ?_
    refine wpList_nil ?_
    refine wp_seq ?_
    refine wp_seq ?_
    refine wp_region_list ?_
    refine sk (a' := (tu2_a8 t n c g g1 g3 g5 r7)) (.int .i64 2) ?_
    refine sk (a' := (tu2_a9 t n c g g1 g3 g5 r7)) (.bool true) ?_
    refine sk (a' := (tu2_a10 t n c g g1 g3 g5 r7)) (.bool true) ?_
    refine sk (a' := (tu2_a11 t n c g g1 g3 g5 r7)) (.int .i64 2) ?_
    refine sk (a' := (tu2_a12 t n c g g1 g3 g5 r7)) (.bool true) ?_
    refine sk (a' := (tu2_a13 t n c g g1 g3 g5 r7)) (.bool true) ?_
    refine wpList_nil ?_
    refine wp_cond (t := true) (by kernel_rfl) ?_
    refine wp_region_list ?_
    refine sk (a' := (tu2_a14 t n c g g1 g3 g5 r7)) (.int .i64 2) ?_
    refine se (a' := (tu2_a15 t n c g g1 g3 g5 r7)) (.agg #[.int .i64 n, .int .i64 c, .int .i64 g]) (evA hW 1 0 Try.underlying25) ?_
    refine sk (a' := (tu2_a16 t n c g g1 g3 g5 r7)) (.pointer (some ⟨g1, 3, none⟩)) ?_
    refine sk (a' := (tu2_a17 t n c g g1 g3 g5 r7)) (.pointer (some ⟨g1, 9, none⟩)) ?_
    obtain ⟨W9, hr, hW, hF⟩ := hW.storeN (P := Try.prog) (o := 9) (cs' := (tu2_c3 t n c g r7)) (L' := [(g5, 32, tu2_c1), (g3, 25, #[.int .i64 n, .int .i64 c, .int .i64 g]), (g1, 32, (tu2_c3 t n c g r7))]) 2 rfl #[.int .i64 n, .int .i64 c, .int .i64 g] (by (try subst e7); kernel_rfl) (Nat.le_of_ble_eq_true rfl) (by kernel_rfl) rfl 25 (by kernel_rfl)
    have hK7 := hK7.store hF (.inl hK7_g1)
    refine st_none (w' := W9) (a' := (tu2_a17 t n c g g1 g3 g5 r7)) (by kernel_rfl) (Eq.trans (b := (do Instr.storeAt 25 (.pointer (some ⟨g1, 9, none⟩)) (.agg #[.int .i64 n, .int .i64 c, .int .i64 g]); pure Next.skip : Sem Next).run Try.prog W8) (by kernel_rfl) (st_unit hr)) (by kernel_rfl) ?_
    refine wpList_nil ?_
    refine wp_seq ?_
    refine wp_region_list ?_
    refine se (a' := (tu2_a19 t n c g g1 g3 g5 r7)) (.agg (tu2_c3 t n c g r7)) (evA hW 2 0 Try.underlying32) ?_
    obtain ⟨W10, hr, hW, hF⟩ := hW.storeN (P := Try.prog) (o := 0) (cs' := (tu2_c3 t n c g r7)) (L' := [(g5, 32, (tu2_c3 t n c g r7)), (g3, 25, #[.int .i64 n, .int .i64 c, .int .i64 g]), (g1, 32, (tu2_c3 t n c g r7))]) 0 rfl (tu2_c3 t n c g r7) (by (try subst e7); kernel_rfl) (Nat.le_of_ble_eq_true rfl) (by kernel_rfl) rfl 32 (by kernel_rfl)
    have hK7 := hK7.store hF (.inl hK7_g5)
    refine st_none (w' := W10) (a' := (tu2_a19 t n c g g1 g3 g5 r7)) (by kernel_rfl) (Eq.trans (b := (do Instr.storeAt 32 (.pointer (some ⟨g5, 0, none⟩)) (.agg (tu2_c3 t n c g r7)); pure Next.skip : Sem Next).run Try.prog W9) (by kernel_rfl) (st_unit hr)) (by kernel_rfl) ?_
    refine wpList_nil ?_
    refine wp_ret ?_
    (try simp only [Exit.then, Exit.inBlock])
    change bodyPost Try.prog Try.f18 _ .ret _ _
    refine bodyPost_ret (results_single rfl (.cell g5 32 _ (0, 0) _ (by kernel_rfl) (hW.blk 0 _ _ _ rfl).1 Try.underlying32 rfl (by kernel_rfl) .nil)) rfl ?_
    subst e7
    refine ⟨As7, cs7, Ab7, cb7, An7, cn7, ?_, ⟨Kd.R_lower (hK7.R hO7.s) hK7_le, Kd.R_lower (hK7.R hO7.b) hK7_le, Kd.R_lower (hK7.R hO7.n) hK7_le⟩, hW.below⟩
    kernel_rfl
  · skip
    refine calls_of_wp Try.func18 rfl ?_
    have hW := Ws.nil w
    refine wp_seq ?_
    refine wp_region_list ?_
    obtain ⟨g1, W2, hr, hW, hbb, hge⟩ := hW.mk1 (P := Try.prog) (s := Instr.box 32 (.agg (tu3_c0 t))) (tu3_c0 t) 32 (by kernel_rfl)
    refine se (a' := (tu3_a1 t n c g g1)) (.pointer (some ⟨g1, 0, none⟩)) (Eq.trans (b := (do pure (Next.value (← Instr.box 32 (.agg (tu3_c0 t)))) : Sem Next).run Try.prog w) (by kernel_rfl) (st_val hr)) ?_
    obtain ⟨g3, W4, hr, hW, hbb, hge⟩ := hW.mk1 (P := Try.prog) (s := Instr.box 25 (.agg #[.int .i64 n, .int .i64 c, .int .i64 g])) #[.int .i64 n, .int .i64 c, .int .i64 g] 25 (by kernel_rfl)
    refine se (a' := (tu3_a2 t n c g g1 g3)) (.pointer (some ⟨g3, 0, none⟩)) (Eq.trans (b := (do pure (Next.value (← Instr.box 25 (.agg #[.int .i64 n, .int .i64 c, .int .i64 g]))) : Sem Next).run Try.prog W2) (by kernel_rfl) (st_val hr)) ?_
    obtain ⟨g5, W6, hr, hW, hbb, hge⟩ := hW.mk1 (P := Try.prog) (s := Instr.alloc 32 true (.tuple #[])) tu3_c1 32 (by kernel_rfl)
    refine se (a' := (tu3_a4 t n c g g1 g3 g5)) (.pointer (some ⟨g5, 0, none⟩)) (Eq.trans (b := (do pure (Next.value (← Instr.alloc 32 true (.tuple #[]))) : Sem Next).run Try.prog W4) (by kernel_rfl) (st_val hr)) ?_
    refine wpList_nil ?_
    refine wp_seq ?_
    refine wp_region_list ?_
    refine se (a' := (tu3_a5 t n c g g1 g3 g5)) (.agg (tu3_c0 t)) (evA hW 2 0 Try.underlying32) ?_
    have hK7_g5 : g5 < W6.heap.size := blk_lt (hW.blk 0 _ _ _ rfl).1
    have hK7_g3 : g3 < W6.heap.size := blk_lt (hW.blk 1 _ _ _ rfl).1
    have hK7_g1 : g1 < W6.heap.size := blk_lt (hW.blk 2 _ _ _ rfl).1
    have hK7_le : w.heap.size ≤ W6.heap.size := hW.below.size
    refine st_call (th_Copy (t := (⟨t.pc, t.fu, t.st, t.R, t.kd, t.mi, t.mn, t.sv, t.bv, t.nv, t.old⟩ : Th)) (xs := xs) (bs := bs) (ns := ns) ⟨h.s.below hW.below, h.b.below hW.below, h.n.below hW.below⟩ hl) (by kernel_rfl) (by kernel_rfl) ?_
    rintro _ W7 ⟨As7, cs7, Ab7, cb7, An7, cn7, rfl, hO7, hB⟩
    have hW := hW.step hB
    have hK7 := KeepUp.refl W6.heap.size W7
    obtain ⟨r7, e7⟩ : ∃ r : Rw, r = ⟨.slice As7 xs.length cs7, .slice Ab7 bs.length cb7, .slice An7 ns.length cn7⟩ := ⟨_, rfl⟩
    refine ⟨_, (tu3_a7 t n c g g1 g3 g5 r7), rfl, by (try subst e7); kernel_rfl, ?_⟩
    obtain ⟨W8, hr, hW, hF⟩ := hW.storeN (P := Try.prog) (o := 0) (cs' := (tu3_c2 t r7)) (L' := [(g5, 32, tu3_c1), (g3, 25, #[.int .i64 n, .int .i64 c, .int .i64 g]), (g1, 32, (tu3_c2 t r7))]) 2 rfl (tu3_c2 t r7) (by (try subst e7); kernel_rfl) (Nat.le_of_ble_eq_true rfl) (by kernel_rfl) rfl 32 (by kernel_rfl)
    have hK7 := hK7.store hF (.inl hK7_g1)
    refine st_none (w' := W8) (a' := (tu3_a7 t n c g g1 g3 g5 r7)) (by kernel_rfl) (Eq.trans (b := (do Instr.storeAt 32 (.pointer (some ⟨g1, 0, none⟩)) (.agg (tu3_c2 t r7)); pure Next.skip : Sem Next).run Try.prog W7) (by kernel_rfl) (st_unit hr)) (by kernel_rfl) ?_
    refine wpList_nil ?_
    refine wp_seq ?_
    refine wp_seq ?_
    refine wp_region_list ?_
    refine sk (a' := (tu3_a8 t n c g g1 g3 g5 r7)) (.int .i64 3) ?_
    refine sk (a' := (tu3_a9 t n c g g1 g3 g5 r7)) (.bool true) ?_
    refine sk (a' := (tu3_a10 t n c g g1 g3 g5 r7)) (.bool true) ?_
    refine sk (a' := (tu3_a11 t n c g g1 g3 g5 r7)) (.int .i64 3) ?_
    refine sk (a' := (tu3_a12 t n c g g1 g3 g5 r7)) (.bool true) ?_
    refine sk (a' := (tu3_a13 t n c g g1 g3 g5 r7)) (.bool true) ?_
    refine wpList_nil ?_
    refine wp_cond (t := true) (by kernel_rfl) ?_
    refine wp_region_list ?_
    refine sk (a' := (tu3_a14 t n c g g1 g3 g5 r7)) (.int .i64 3) ?_
    refine se (a' := (tu3_a15 t n c g g1 g3 g5 r7)) (.agg #[.int .i64 n, .int .i64 c, .int .i64 g]) (evA hW 1 0 Try.underlying25) ?_
    refine sk (a' := (tu3_a16 t n c g g1 g3 g5 r7)) (.pointer (some ⟨g1, 3, none⟩)) ?_
    refine sk (a' := (tu3_a17 t n c g g1 g3 g5 r7)) (.pointer (some ⟨g1, 12, none⟩)) ?_
    obtain ⟨W9, hr, hW, hF⟩ := hW.storeN (P := Try.prog) (o := 12) (cs' := (tu3_c3 t n c g r7)) (L' := [(g5, 32, tu3_c1), (g3, 25, #[.int .i64 n, .int .i64 c, .int .i64 g]), (g1, 32, (tu3_c3 t n c g r7))]) 2 rfl #[.int .i64 n, .int .i64 c, .int .i64 g] (by (try subst e7); kernel_rfl) (Nat.le_of_ble_eq_true rfl) (by kernel_rfl) rfl 25 (by kernel_rfl)
    have hK7 := hK7.store hF (.inl hK7_g1)
    refine st_none (w' := W9) (a' := (tu3_a17 t n c g g1 g3 g5 r7)) (by kernel_rfl) (Eq.trans (b := (do Instr.storeAt 25 (.pointer (some ⟨g1, 12, none⟩)) (.agg #[.int .i64 n, .int .i64 c, .int .i64 g]); pure Next.skip : Sem Next).run Try.prog W8) (by kernel_rfl) (st_unit hr)) (by kernel_rfl) ?_
    refine wpList_nil ?_
    refine wp_seq ?_
    refine wp_region_list ?_
    refine se (a' := (tu3_a19 t n c g g1 g3 g5 r7)) (.agg (tu3_c3 t n c g r7)) (evA hW 2 0 Try.underlying32) ?_
    obtain ⟨W10, hr, hW, hF⟩ := hW.storeN (P := Try.prog) (o := 0) (cs' := (tu3_c3 t n c g r7)) (L' := [(g5, 32, (tu3_c3 t n c g r7)), (g3, 25, #[.int .i64 n, .int .i64 c, .int .i64 g]), (g1, 32, (tu3_c3 t n c g r7))]) 0 rfl (tu3_c3 t n c g r7) (by (try subst e7); kernel_rfl) (Nat.le_of_ble_eq_true rfl) (by kernel_rfl) rfl 32 (by kernel_rfl)
    have hK7 := hK7.store hF (.inl hK7_g5)
    refine st_none (w' := W10) (a' := (tu3_a19 t n c g g1 g3 g5 r7)) (by kernel_rfl) (Eq.trans (b := (do Instr.storeAt 32 (.pointer (some ⟨g5, 0, none⟩)) (.agg (tu3_c3 t n c g r7)); pure Next.skip : Sem Next).run Try.prog W9) (by kernel_rfl) (st_unit hr)) (by kernel_rfl) ?_
    refine wpList_nil ?_
    refine wp_ret ?_
    (try simp only [Exit.then, Exit.inBlock])
    change bodyPost Try.prog Try.f18 _ .ret _ _
    refine bodyPost_ret (results_single rfl (.cell g5 32 _ (0, 0) _ (by kernel_rfl) (hW.blk 0 _ _ _ rfl).1 Try.underlying32 rfl (by kernel_rfl) .nil)) rfl ?_
    subst e7
    refine ⟨As7, cs7, Ab7, cb7, An7, cn7, ?_, ⟨Kd.R_lower (hK7.R hO7.s) hK7_le, Kd.R_lower (hK7.R hO7.b) hK7_le, Kd.R_lower (hK7.R hO7.n) hK7_le⟩, hW.below⟩
    kernel_rfl
end Go.Proofs.Ythcmcekjgecnhaa.Th
