/- What Copy, Few and the comparing of two threads answer. No condition beside those that each theorem names. -/
import Derived.Test.YthcmcekjgecnhaaThA
namespace Go.Proofs.Ythcmcekjgecnhaa.Th
open Go.RowKit Go.Proofs.YthcmcekjgecnhaaW.PrintWords Go.Proofs.YthcmcekjgecnhaaW.PrintLast Go.Proofs.YthcmcekjgecnhaaW.PrintMore
open Go.Proofs.YthcmcekjgecnhaaW.HWords Go.Proofs.Ythcmcekjgecnhaa.QThreadLocals
set_option linter.unusedVariables false
set_option linter.unusedSimpArgs false
def tp_c0 (t : Th) : Array Value := #[.int .i64 t.pc, .int .i64 t.fu, .int .i64 t.st, .int .i64 (t.R 0), .int .i64 (t.R 1), .int .i64 (t.R 2), .int .i64 (t.R 3), .int .i64 (t.R 4), .int .i64 (t.R 5), .int .i64 (t.R 6), .int .i64 (t.R 7), .int .i64 (t.R 8), .int .i64 (t.R 9), .int .i64 (t.R 10), .int .i64 (t.R 11), .int .i64 t.kd, .int .i64 t.mi, .int .i64 t.mn, t.sv, t.bv, t.nv, .int .i64 t.old]
def tp_a1 (t : Th) (g1 : Nat) : Act := ⟨#[.agg (tp_c0 t), .pointer (some ⟨g1, 0, none⟩), zz, zz, zz, zz, zz, zz, zz, zz, zz, zz, zz, zz, zz, zz, zz, zz, zz, zz, zz, zz, zz, zz, zz, zz, zz], []⟩
def tp_c1 : Array Value := #[.int .i64 0, .int .i64 0, .int .i64 0, .int .i64 0, .int .i64 0, .int .i64 0, .int .i64 0, .int .i64 0, .int .i64 0, .int .i64 0, .int .i64 0, .int .i64 0, .int .i64 0, .int .i64 0, .int .i64 0, .int .i64 0, .int .i64 0, .int .i64 0, .slice none 0 0, .slice none 0 0, .slice none 0 0, .int .i64 0]
def tp_a3 (t : Th) (g1 : Nat) (g3 : Nat) : Act := ⟨#[.agg (tp_c0 t), .pointer (some ⟨g1, 0, none⟩), .pointer (some ⟨g3, 0, none⟩), zz, zz, zz, zz, zz, zz, zz, zz, zz, zz, zz, zz, zz, zz, zz, zz, zz, zz, zz, zz, zz, zz, zz, zz], []⟩
def tp_a4 (t : Th) (g1 : Nat) (g3 : Nat) : Act := ⟨#[.agg (tp_c0 t), .pointer (some ⟨g1, 0, none⟩), .pointer (some ⟨g3, 0, none⟩), .slice none 0 0, zz, zz, zz, zz, zz, zz, zz, zz, zz, zz, zz, zz, zz, zz, zz, zz, zz, zz, zz, zz, zz, zz, zz], []⟩
def tp_a5 (t : Th) (g1 : Nat) (g3 : Nat) : Act := ⟨#[.agg (tp_c0 t), .pointer (some ⟨g1, 0, none⟩), .pointer (some ⟨g3, 0, none⟩), .slice none 0 0, .slice none 0 0, zz, zz, zz, zz, zz, zz, zz, zz, zz, zz, zz, zz, zz, zz, zz, zz, zz, zz, zz, zz, zz, zz], []⟩
def tp_a6 (t : Th) (g1 : Nat) (g3 : Nat) : Act := ⟨#[.agg (tp_c0 t), .pointer (some ⟨g1, 0, none⟩), .pointer (some ⟨g3, 0, none⟩), .slice none 0 0, .slice none 0 0, .slice none 0 0, zz, zz, zz, zz, zz, zz, zz, zz, zz, zz, zz, zz, zz, zz, zz, zz, zz, zz, zz, zz, zz], []⟩
def tp_a7 (t : Th) (g1 : Nat) (g3 : Nat) : Act := ⟨#[.agg (tp_c0 t), .pointer (some ⟨g1, 0, none⟩), .pointer (some ⟨g3, 0, none⟩), .slice none 0 0, .slice none 0 0, .slice none 0 0, .slice none 0 0, zz, zz, zz, zz, zz, zz, zz, zz, zz, zz, zz, zz, zz, zz, zz, zz, zz, zz, zz, zz], []⟩
def tp_a8 (t : Th) (g1 : Nat) (g3 : Nat) : Act := ⟨#[.agg (tp_c0 t), .pointer (some ⟨g1, 0, none⟩), .pointer (some ⟨g3, 0, none⟩), .slice none 0 0, .slice none 0 0, .slice none 0 0, .slice none 0 0, .pointer (some ⟨g1, 15, none⟩), zz, zz, zz, zz, zz, zz, zz, zz, zz, zz, zz, zz, zz, zz, zz, zz, zz, zz, zz], []⟩
def tp_a9 (t : Th) (g1 : Nat) (g3 : Nat) : Act := ⟨#[.agg (tp_c0 t), .pointer (some ⟨g1, 0, none⟩), .pointer (some ⟨g3, 0, none⟩), .slice none 0 0, .slice none 0 0, .slice none 0 0, .slice none 0 0, .pointer (some ⟨g1, 15, none⟩), .pointer (some ⟨g1, 18, none⟩), zz, zz, zz, zz, zz, zz, zz, zz, zz, zz, zz, zz, zz, zz, zz, zz, zz, zz], []⟩
def tp_a10 (t : Th) (g1 : Nat) (g3 : Nat) : Act := ⟨#[.agg (tp_c0 t), .pointer (some ⟨g1, 0, none⟩), .pointer (some ⟨g3, 0, none⟩), .slice none 0 0, .slice none 0 0, .slice none 0 0, .slice none 0 0, .pointer (some ⟨g1, 15, none⟩), .pointer (some ⟨g1, 18, none⟩), t.sv, zz, zz, zz, zz, zz, zz, zz, zz, zz, zz, zz, zz, zz, zz, zz, zz, zz], []⟩
def tp_a11 (t : Th) (xs : List Int) (g1 : Nat) (g3 : Nat) (A5 : Option Addr) (c5 : Nat) : Act := ⟨#[.agg (tp_c0 t), .pointer (some ⟨g1, 0, none⟩), .pointer (some ⟨g3, 0, none⟩), .slice none 0 0, .slice none 0 0, .slice none 0 0, .slice none 0 0, .pointer (some ⟨g1, 15, none⟩), .pointer (some ⟨g1, 18, none⟩), t.sv, .slice A5 xs.length c5, zz, zz, zz, zz, zz, zz, zz, zz, zz, zz, zz, zz, zz, zz, zz, zz], []⟩
def tp_a12 (t : Th) (xs : List Int) (g1 : Nat) (g3 : Nat) (A5 : Option Addr) (c5 : Nat) : Act := ⟨#[.agg (tp_c0 t), .pointer (some ⟨g1, 0, none⟩), .pointer (some ⟨g3, 0, none⟩), .slice A5 xs.length c5, .slice none 0 0, .slice none 0 0, .slice none 0 0, .pointer (some ⟨g1, 15, none⟩), .pointer (some ⟨g1, 18, none⟩), t.sv, .slice A5 xs.length c5, zz, zz, zz, zz, zz, zz, zz, zz, zz, zz, zz, zz, zz, zz, zz, zz], []⟩
def tp_a13 (t : Th) (xs : List Int) (g1 : Nat) (g3 : Nat) (A5 : Option Addr) (c5 : Nat) : Act := ⟨#[.agg (tp_c0 t), .pointer (some ⟨g1, 0, none⟩), .pointer (some ⟨g3, 0, none⟩), .slice A5 xs.length c5, .slice none 0 0, .slice none 0 0, .slice none 0 0, .pointer (some ⟨g1, 15, none⟩), .pointer (some ⟨g1, 18, none⟩), t.sv, .slice A5 xs.length c5, .slice none 0 0, zz, zz, zz, zz, zz, zz, zz, zz, zz, zz, zz, zz, zz, zz, zz], []⟩
def tp_a14 (t : Th) (xs : List Int) (g1 : Nat) (g3 : Nat) (A5 : Option Addr) (c5 : Nat) : Act := ⟨#[.agg (tp_c0 t), .pointer (some ⟨g1, 0, none⟩), .pointer (some ⟨g3, 0, none⟩), .slice A5 xs.length c5, .slice none 0 0, .slice none 0 0, .slice none 0 0, .pointer (some ⟨g1, 15, none⟩), .pointer (some ⟨g1, 18, none⟩), t.sv, .slice A5 xs.length c5, .slice none 0 0, .pointer (some ⟨g1, 19, none⟩), zz, zz, zz, zz, zz, zz, zz, zz, zz, zz, zz, zz, zz, zz], []⟩
def tp_a15 (t : Th) (xs : List Int) (g1 : Nat) (g3 : Nat) (A5 : Option Addr) (c5 : Nat) : Act := ⟨#[.agg (tp_c0 t), .pointer (some ⟨g1, 0, none⟩), .pointer (some ⟨g3, 0, none⟩), .slice A5 xs.length c5, .slice none 0 0, .slice none 0 0, .slice none 0 0, .pointer (some ⟨g1, 15, none⟩), .pointer (some ⟨g1, 18, none⟩), t.sv, .slice A5 xs.length c5, .slice none 0 0, .pointer (some ⟨g1, 19, none⟩), t.bv, zz, zz, zz, zz, zz, zz, zz, zz, zz, zz, zz, zz, zz], []⟩
def tp_a16 (t : Th) (xs : List Int) (bs : List S42) (g1 : Nat) (g3 : Nat) (A5 : Option Addr) (c5 : Nat) (A6 : Option Addr) (c6 : Nat) : Act := ⟨#[.agg (tp_c0 t), .pointer (some ⟨g1, 0, none⟩), .pointer (some ⟨g3, 0, none⟩), .slice A5 xs.length c5, .slice none 0 0, .slice none 0 0, .slice none 0 0, .pointer (some ⟨g1, 15, none⟩), .pointer (some ⟨g1, 18, none⟩), t.sv, .slice A5 xs.length c5, .slice none 0 0, .pointer (some ⟨g1, 19, none⟩), t.bv, .slice A6 bs.length c6, zz, zz, zz, zz, zz, zz, zz, zz, zz, zz, zz, zz], []⟩
def tp_a17 (t : Th) (xs : List Int) (bs : List S42) (g1 : Nat) (g3 : Nat) (A5 : Option Addr) (c5 : Nat) (A6 : Option Addr) (c6 : Nat) : Act := ⟨#[.agg (tp_c0 t), .pointer (some ⟨g1, 0, none⟩), .pointer (some ⟨g3, 0, none⟩), .slice A5 xs.length c5, .slice A6 bs.length c6, .slice none 0 0, .slice none 0 0, .pointer (some ⟨g1, 15, none⟩), .pointer (some ⟨g1, 18, none⟩), t.sv, .slice A5 xs.length c5, .slice none 0 0, .pointer (some ⟨g1, 19, none⟩), t.bv, .slice A6 bs.length c6, zz, zz, zz, zz, zz, zz, zz, zz, zz, zz, zz, zz], []⟩
def tp_a18 (t : Th) (xs : List Int) (bs : List S42) (g1 : Nat) (g3 : Nat) (A5 : Option Addr) (c5 : Nat) (A6 : Option Addr) (c6 : Nat) : Act := ⟨#[.agg (tp_c0 t), .pointer (some ⟨g1, 0, none⟩), .pointer (some ⟨g3, 0, none⟩), .slice A5 xs.length c5, .slice A6 bs.length c6, .slice none 0 0, .slice none 0 0, .pointer (some ⟨g1, 15, none⟩), .pointer (some ⟨g1, 18, none⟩), t.sv, .slice A5 xs.length c5, .slice none 0 0, .pointer (some ⟨g1, 19, none⟩), t.bv, .slice A6 bs.length c6, .slice none 0 0, zz, zz, zz, zz, zz, zz, zz, zz, zz, zz, zz], []⟩
def tp_a19 (t : Th) (xs : List Int) (bs : List S42) (g1 : Nat) (g3 : Nat) (A5 : Option Addr) (c5 : Nat) (A6 : Option Addr) (c6 : Nat) : Act := ⟨#[.agg (tp_c0 t), .pointer (some ⟨g1, 0, none⟩), .pointer (some ⟨g3, 0, none⟩), .slice A5 xs.length c5, .slice A6 bs.length c6, .slice none 0 0, .slice none 0 0, .pointer (some ⟨g1, 15, none⟩), .pointer (some ⟨g1, 18, none⟩), t.sv, .slice A5 xs.length c5, .slice none 0 0, .pointer (some ⟨g1, 19, none⟩), t.bv, .slice A6 bs.length c6, .slice none 0 0, .pointer (some ⟨g1, 20, none⟩), zz, zz, zz, zz, zz, zz, zz, zz, zz, zz], []⟩
def tp_a20 (t : Th) (xs : List Int) (bs : List S42) (g1 : Nat) (g3 : Nat) (A5 : Option Addr) (c5 : Nat) (A6 : Option Addr) (c6 : Nat) : Act := ⟨#[.agg (tp_c0 t), .pointer (some ⟨g1, 0, none⟩), .pointer (some ⟨g3, 0, none⟩), .slice A5 xs.length c5, .slice A6 bs.length c6, .slice none 0 0, .slice none 0 0, .pointer (some ⟨g1, 15, none⟩), .pointer (some ⟨g1, 18, none⟩), t.sv, .slice A5 xs.length c5, .slice none 0 0, .pointer (some ⟨g1, 19, none⟩), t.bv, .slice A6 bs.length c6, .slice none 0 0, .pointer (some ⟨g1, 20, none⟩), t.nv, zz, zz, zz, zz, zz, zz, zz, zz, zz], []⟩
def tp_a21 (t : Th) (xs : List Int) (bs : List S42) (ns : List Int) (g1 : Nat) (g3 : Nat) (A5 : Option Addr) (c5 : Nat) (A6 : Option Addr) (c6 : Nat) (A7 : Option Addr) (c7 : Nat) : Act := ⟨#[.agg (tp_c0 t), .pointer (some ⟨g1, 0, none⟩), .pointer (some ⟨g3, 0, none⟩), .slice A5 xs.length c5, .slice A6 bs.length c6, .slice none 0 0, .slice none 0 0, .pointer (some ⟨g1, 15, none⟩), .pointer (some ⟨g1, 18, none⟩), t.sv, .slice A5 xs.length c5, .slice none 0 0, .pointer (some ⟨g1, 19, none⟩), t.bv, .slice A6 bs.length c6, .slice none 0 0, .pointer (some ⟨g1, 20, none⟩), t.nv, .slice A7 ns.length c7, zz, zz, zz, zz, zz, zz, zz, zz], []⟩
def tp_a22 (t : Th) (xs : List Int) (bs : List S42) (ns : List Int) (g1 : Nat) (g3 : Nat) (A5 : Option Addr) (c5 : Nat) (A6 : Option Addr) (c6 : Nat) (A7 : Option Addr) (c7 : Nat) : Act := ⟨#[.agg (tp_c0 t), .pointer (some ⟨g1, 0, none⟩), .pointer (some ⟨g3, 0, none⟩), .slice A5 xs.length c5, .slice A6 bs.length c6, .slice A7 ns.length c7, .slice none 0 0, .pointer (some ⟨g1, 15, none⟩), .pointer (some ⟨g1, 18, none⟩), t.sv, .slice A5 xs.length c5, .slice none 0 0, .pointer (some ⟨g1, 19, none⟩), t.bv, .slice A6 bs.length c6, .slice none 0 0, .pointer (some ⟨g1, 20, none⟩), t.nv, .slice A7 ns.length c7, zz, zz, zz, zz, zz, zz, zz, zz], []⟩
def tp_a23 (t : Th) (xs : List Int) (bs : List S42) (ns : List Int) (g1 : Nat) (g3 : Nat) (A5 : Option Addr) (c5 : Nat) (A6 : Option Addr) (c6 : Nat) (A7 : Option Addr) (c7 : Nat) : Act := ⟨#[.agg (tp_c0 t), .pointer (some ⟨g1, 0, none⟩), .pointer (some ⟨g3, 0, none⟩), .slice A5 xs.length c5, .slice A6 bs.length c6, .slice A7 ns.length c7, .slice none 0 0, .pointer (some ⟨g1, 15, none⟩), .pointer (some ⟨g1, 18, none⟩), t.sv, .slice A5 xs.length c5, .slice none 0 0, .pointer (some ⟨g1, 19, none⟩), t.bv, .slice A6 bs.length c6, .slice none 0 0, .pointer (some ⟨g1, 20, none⟩), t.nv, .slice A7 ns.length c7, .slice A5 xs.length c5, zz, zz, zz, zz, zz, zz, zz], []⟩
def tp_a24 (t : Th) (xs : List Int) (bs : List S42) (ns : List Int) (g1 : Nat) (g3 : Nat) (A5 : Option Addr) (c5 : Nat) (A6 : Option Addr) (c6 : Nat) (A7 : Option Addr) (c7 : Nat) : Act := ⟨#[.agg (tp_c0 t), .pointer (some ⟨g1, 0, none⟩), .pointer (some ⟨g3, 0, none⟩), .slice A5 xs.length c5, .slice A6 bs.length c6, .slice A7 ns.length c7, .slice none 0 0, .pointer (some ⟨g1, 15, none⟩), .pointer (some ⟨g1, 18, none⟩), t.sv, .slice A5 xs.length c5, .slice none 0 0, .pointer (some ⟨g1, 19, none⟩), t.bv, .slice A6 bs.length c6, .slice none 0 0, .pointer (some ⟨g1, 20, none⟩), t.nv, .slice A7 ns.length c7, .slice A5 xs.length c5, .pointer (some ⟨g1, 15, none⟩), zz, zz, zz, zz, zz, zz], []⟩
def tp_a25 (t : Th) (xs : List Int) (bs : List S42) (ns : List Int) (g1 : Nat) (g3 : Nat) (A5 : Option Addr) (c5 : Nat) (A6 : Option Addr) (c6 : Nat) (A7 : Option Addr) (c7 : Nat) : Act := ⟨#[.agg (tp_c0 t), .pointer (some ⟨g1, 0, none⟩), .pointer (some ⟨g3, 0, none⟩), .slice A5 xs.length c5, .slice A6 bs.length c6, .slice A7 ns.length c7, .slice none 0 0, .pointer (some ⟨g1, 15, none⟩), .pointer (some ⟨g1, 18, none⟩), t.sv, .slice A5 xs.length c5, .slice none 0 0, .pointer (some ⟨g1, 19, none⟩), t.bv, .slice A6 bs.length c6, .slice none 0 0, .pointer (some ⟨g1, 20, none⟩), t.nv, .slice A7 ns.length c7, .slice A5 xs.length c5, .pointer (some ⟨g1, 15, none⟩), .pointer (some ⟨g1, 18, none⟩), zz, zz, zz, zz, zz], []⟩
def tp_c2 (t : Th) (xs : List Int) (A5 : Option Addr) (c5 : Nat) : Array Value := #[.int .i64 t.pc, .int .i64 t.fu, .int .i64 t.st, .int .i64 (t.R 0), .int .i64 (t.R 1), .int .i64 (t.R 2), .int .i64 (t.R 3), .int .i64 (t.R 4), .int .i64 (t.R 5), .int .i64 (t.R 6), .int .i64 (t.R 7), .int .i64 (t.R 8), .int .i64 (t.R 9), .int .i64 (t.R 10), .int .i64 (t.R 11), .int .i64 t.kd, .int .i64 t.mi, .int .i64 t.mn, .slice A5 xs.length c5, t.bv, t.nv, .int .i64 t.old]
def tp_a27 (t : Th) (xs : List Int) (bs : List S42) (ns : List Int) (g1 : Nat) (g3 : Nat) (A5 : Option Addr) (c5 : Nat) (A6 : Option Addr) (c6 : Nat) (A7 : Option Addr) (c7 : Nat) : Act := ⟨#[.agg (tp_c0 t), .pointer (some ⟨g1, 0, none⟩), .pointer (some ⟨g3, 0, none⟩), .slice A5 xs.length c5, .slice A6 bs.length c6, .slice A7 ns.length c7, .slice none 0 0, .pointer (some ⟨g1, 15, none⟩), .pointer (some ⟨g1, 18, none⟩), t.sv, .slice A5 xs.length c5, .slice none 0 0, .pointer (some ⟨g1, 19, none⟩), t.bv, .slice A6 bs.length c6, .slice none 0 0, .pointer (some ⟨g1, 20, none⟩), t.nv, .slice A7 ns.length c7, .slice A5 xs.length c5, .pointer (some ⟨g1, 15, none⟩), .pointer (some ⟨g1, 18, none⟩), .slice A6 bs.length c6, zz, zz, zz, zz], []⟩
def tp_a28 (t : Th) (xs : List Int) (bs : List S42) (ns : List Int) (g1 : Nat) (g3 : Nat) (A5 : Option Addr) (c5 : Nat) (A6 : Option Addr) (c6 : Nat) (A7 : Option Addr) (c7 : Nat) : Act := ⟨#[.agg (tp_c0 t), .pointer (some ⟨g1, 0, none⟩), .pointer (some ⟨g3, 0, none⟩), .slice A5 xs.length c5, .slice A6 bs.length c6, .slice A7 ns.length c7, .slice none 0 0, .pointer (some ⟨g1, 15, none⟩), .pointer (some ⟨g1, 18, none⟩), t.sv, .slice A5 xs.length c5, .slice none 0 0, .pointer (some ⟨g1, 19, none⟩), t.bv, .slice A6 bs.length c6, .slice none 0 0, .pointer (some ⟨g1, 20, none⟩), t.nv, .slice A7 ns.length c7, .slice A5 xs.length c5, .pointer (some ⟨g1, 15, none⟩), .pointer (some ⟨g1, 18, none⟩), .slice A6 bs.length c6, .pointer (some ⟨g1, 19, none⟩), zz, zz, zz], []⟩
def tp_c3 (t : Th) (xs : List Int) (bs : List S42) (A5 : Option Addr) (c5 : Nat) (A6 : Option Addr) (c6 : Nat) : Array Value := #[.int .i64 t.pc, .int .i64 t.fu, .int .i64 t.st, .int .i64 (t.R 0), .int .i64 (t.R 1), .int .i64 (t.R 2), .int .i64 (t.R 3), .int .i64 (t.R 4), .int .i64 (t.R 5), .int .i64 (t.R 6), .int .i64 (t.R 7), .int .i64 (t.R 8), .int .i64 (t.R 9), .int .i64 (t.R 10), .int .i64 (t.R 11), .int .i64 t.kd, .int .i64 t.mi, .int .i64 t.mn, .slice A5 xs.length c5, .slice A6 bs.length c6, t.nv, .int .i64 t.old]
def tp_a30 (t : Th) (xs : List Int) (bs : List S42) (ns : List Int) (g1 : Nat) (g3 : Nat) (A5 : Option Addr) (c5 : Nat) (A6 : Option Addr) (c6 : Nat) (A7 : Option Addr) (c7 : Nat) : Act := ⟨#[.agg (tp_c0 t), .pointer (some ⟨g1, 0, none⟩), .pointer (some ⟨g3, 0, none⟩), .slice A5 xs.length c5, .slice A6 bs.length c6, .slice A7 ns.length c7, .slice none 0 0, .pointer (some ⟨g1, 15, none⟩), .pointer (some ⟨g1, 18, none⟩), t.sv, .slice A5 xs.length c5, .slice none 0 0, .pointer (some ⟨g1, 19, none⟩), t.bv, .slice A6 bs.length c6, .slice none 0 0, .pointer (some ⟨g1, 20, none⟩), t.nv, .slice A7 ns.length c7, .slice A5 xs.length c5, .pointer (some ⟨g1, 15, none⟩), .pointer (some ⟨g1, 18, none⟩), .slice A6 bs.length c6, .pointer (some ⟨g1, 19, none⟩), .slice A7 ns.length c7, zz, zz], []⟩
def tp_a31 (t : Th) (xs : List Int) (bs : List S42) (ns : List Int) (g1 : Nat) (g3 : Nat) (A5 : Option Addr) (c5 : Nat) (A6 : Option Addr) (c6 : Nat) (A7 : Option Addr) (c7 : Nat) : Act := ⟨#[.agg (tp_c0 t), .pointer (some ⟨g1, 0, none⟩), .pointer (some ⟨g3, 0, none⟩), .slice A5 xs.length c5, .slice A6 bs.length c6, .slice A7 ns.length c7, .slice none 0 0, .pointer (some ⟨g1, 15, none⟩), .pointer (some ⟨g1, 18, none⟩), t.sv, .slice A5 xs.length c5, .slice none 0 0, .pointer (some ⟨g1, 19, none⟩), t.bv, .slice A6 bs.length c6, .slice none 0 0, .pointer (some ⟨g1, 20, none⟩), t.nv, .slice A7 ns.length c7, .slice A5 xs.length c5, .pointer (some ⟨g1, 15, none⟩), .pointer (some ⟨g1, 18, none⟩), .slice A6 bs.length c6, .pointer (some ⟨g1, 19, none⟩), .slice A7 ns.length c7, .pointer (some ⟨g1, 20, none⟩), zz], []⟩
def tp_c4 (t : Th) (xs : List Int) (bs : List S42) (ns : List Int) (A5 : Option Addr) (c5 : Nat) (A6 : Option Addr) (c6 : Nat) (A7 : Option Addr) (c7 : Nat) : Array Value := #[.int .i64 t.pc, .int .i64 t.fu, .int .i64 t.st, .int .i64 (t.R 0), .int .i64 (t.R 1), .int .i64 (t.R 2), .int .i64 (t.R 3), .int .i64 (t.R 4), .int .i64 (t.R 5), .int .i64 (t.R 6), .int .i64 (t.R 7), .int .i64 (t.R 8), .int .i64 (t.R 9), .int .i64 (t.R 10), .int .i64 (t.R 11), .int .i64 t.kd, .int .i64 t.mi, .int .i64 t.mn, .slice A5 xs.length c5, .slice A6 bs.length c6, .slice A7 ns.length c7, .int .i64 t.old]
def tp_a33 (t : Th) (xs : List Int) (bs : List S42) (ns : List Int) (g1 : Nat) (g3 : Nat) (A5 : Option Addr) (c5 : Nat) (A6 : Option Addr) (c6 : Nat) (A7 : Option Addr) (c7 : Nat) : Act := ⟨#[.agg (tp_c0 t), .pointer (some ⟨g1, 0, none⟩), .pointer (some ⟨g3, 0, none⟩), .slice A5 xs.length c5, .slice A6 bs.length c6, .slice A7 ns.length c7, .slice none 0 0, .pointer (some ⟨g1, 15, none⟩), .pointer (some ⟨g1, 18, none⟩), t.sv, .slice A5 xs.length c5, .slice none 0 0, .pointer (some ⟨g1, 19, none⟩), t.bv, .slice A6 bs.length c6, .slice none 0 0, .pointer (some ⟨g1, 20, none⟩), t.nv, .slice A7 ns.length c7, .slice A5 xs.length c5, .pointer (some ⟨g1, 15, none⟩), .pointer (some ⟨g1, 18, none⟩), .slice A6 bs.length c6, .pointer (some ⟨g1, 19, none⟩), .slice A7 ns.length c7, .pointer (some ⟨g1, 20, none⟩), .agg (tp_c4 t xs bs ns A5 c5 A6 c6 A7 c7)], []⟩
set_option maxHeartbeats 8000000 in
set_option maxRecDepth 100000 in
theorem th_Copy {w : World} {t : Th} {xs : List Int} {bs : List S42} {ns : List Int} (h : t.reads w xs bs ns) (hl : xs.length ≤ 1000 ∧ bs.length ≤ 1000 ∧ ns.length ≤ 1000) : Calls Try.prog 11 #[.agg t.cells] w fun e w' => ∃ As cs Ab cb An cn, e = .returned (.agg ((t).rows (.slice As xs.length cs) (.slice Ab bs.length cb) (.slice An ns.length cn)).cells) ∧ ((t).rows (.slice As xs.length cs) (.slice Ab bs.length cb) (.slice An ns.length cn)).owns w' w.heap.size xs bs ns ∧ Below w.heap.size w w' := by
  refine calls_of_wp Try.func11 rfl ?_
  have hW := Ws.nil w
  refine wp_seq ?_
  refine wp_region_list ?_
  obtain ⟨g1, W2, hr, hW, hbb, hge⟩ := hW.mk1 (P := Try.prog) (s := Instr.box 32 (.agg (tp_c0 t))) (tp_c0 t) 32 (by kernel_rfl)
  refine se (a' := (tp_a1 t g1)) (.pointer (some ⟨g1, 0, none⟩)) (Eq.trans (b := (do pure (Next.value (← Instr.box 32 (.agg (tp_c0 t)))) : Sem Next).run Try.prog w) (by kernel_rfl) (st_val hr)) ?_
  obtain ⟨g3, W4, hr, hW, hbb, hge⟩ := hW.mk1 (P := Try.prog) (s := Instr.alloc 32 true (.tuple #[])) tp_c1 32 (by kernel_rfl)
  refine se (a' := (tp_a3 t g1 g3)) (.pointer (some ⟨g3, 0, none⟩)) (Eq.trans (b := (do pure (Next.value (← Instr.alloc 32 true (.tuple #[]))) : Sem Next).run Try.prog W2) (by kernel_rfl) (st_val hr)) ?_
  refine wpList_nil ?_
  refine wp_seq ?_
  refine wp_region_list ?_
  refine sk (a' := (tp_a4 t g1 g3)) (.slice none 0 0) ?_
  refine wpList_nil ?_
  refine wp_seq ?_
  refine wp_region_list ?_
  refine sk (a' := (tp_a5 t g1 g3)) (.slice none 0 0) ?_
  refine wpList_nil ?_
  refine wp_seq ?_
  refine wp_region_list ?_
  refine sk (a' := (tp_a6 t g1 g3)) (.slice none 0 0) ?_
  refine wpList_nil ?_
  refine wp_seq ?_
  refine wp_region_list ?_
  refine sk (a' := (tp_a7 t g1 g3)) (.slice none 0 0) ?_
  refine sk (a' := (tp_a8 t g1 g3)) (.pointer (some ⟨g1, 15, none⟩)) ?_
  refine sk (a' := (tp_a9 t g1 g3)) (.pointer (some ⟨g1, 18, none⟩)) ?_
  refine se (a' := (tp_a10 t g1 g3)) (t.sv) (ev1 hW 1 18 Try.underlying27) ?_
  have hK5_g3 : g3 < W4.heap.size := blk_lt (hW.blk 0 _ _ _ rfl).1
  have hK5_g1 : g1 < W4.heap.size := blk_lt (hW.blk 1 _ _ _ rfl).1
  have hK5_le : w.heap.size ≤ W4.heap.size := hW.below.size
  obtain ⟨Ax5, cx5, ex5, hcx5, hCx5⟩ := h.s.below hW.below
  refine Kd.R_append_rows (Kd.int .i64) (Rr := Kd.K (Kd.int .i64) W4) (w0 := W4) W4.heap.size rfl (.tmp 6) (.tmp 9) 27 2 (.int .i64 0) 8 rfl Try.underlying27 info2 rfl (by decide) (by decide) (.slice none 0 0) [] xs Ax5 xs.length cx5 (fun _ => True) (fun _ => False) (by kernel_rfl) ((show _ = t.sv from by kernel_rfl).trans ex5) (Kd.R_nil _ _ _ _ _) hCx5 (fun _ _ hk => (Flat.int .i64).up hk) (fun _ hk => hk.elim) (fun _ _ => trivial) (Below.refl _ _) (Nat.le_refl _) (by simp only [List.length_nil]; omega) ?_
  intro v5 W5 hR5 hB _ _
  obtain ⟨A5, c5, rfl⟩ := Kd.R_slice hR5
  rw [List.nil_append] at hR5 ⊢
  have hW := hW.step hB
  have hK5 := KeepUp.refl W4.heap.size W5
  refine st_put (a' := (tp_a11 t xs g1 g3 A5 c5)) (by kernel_rfl) ?_
  refine sk (a' := (tp_a12 t xs g1 g3 A5 c5)) (.slice A5 xs.length c5) ?_
  refine wpList_nil ?_
  refine wp_seq ?_
  refine wp_region_list ?_
  refine sk (a' := (tp_a13 t xs g1 g3 A5 c5)) (.slice none 0 0) ?_
  refine sk (a' := (tp_a14 t xs g1 g3 A5 c5)) (.pointer (some ⟨g1, 19, none⟩)) ?_
  refine se (a' := (tp_a15 t xs g1 g3 A5 c5)) (t.bv) (ev1 hW 1 19 Try.underlying30) ?_
  have hK6_g3 : g3 < W5.heap.size := blk_lt (hW.blk 0 _ _ _ rfl).1
  have hK6_g1 : g1 < W5.heap.size := blk_lt (hW.blk 1 _ _ _ rfl).1
  have hK6_le : w.heap.size ≤ W5.heap.size := hW.below.size
  obtain ⟨Ax6, cx6, ex6, hcx6, hCx6⟩ := h.b.below hW.below
  refine Kd.R_append_rows k42 (Rr := Kd.K k42 W5) (w0 := W5) W5.heap.size rfl (.tmp 11) (.tmp 13) 30 42 (.agg #[.int .i64 0, .int .i64 0, .int .i64 0]) 24 rfl Try.underlying30 info42 rfl (by decide) (by decide) (.slice none 0 0) [] bs Ax6 bs.length cx6 (fun _ => True) (fun _ => False) (by kernel_rfl) ((show _ = t.bv from by kernel_rfl).trans ex6) (Kd.R_nil _ _ _ _ _) hCx6 (fun _ _ hk => (Flat.iso (Flat.pair (Flat.int .i64) (Flat.pair (Flat.int .i64) (Flat.int .i64))) _).up hk) (fun _ hk => hk.elim) (fun _ _ => trivial) (Below.refl _ _) (Nat.le_refl _) (by simp only [List.length_nil]; omega) ?_
  intro v6 W6 hR6 hB _ _
  obtain ⟨A6, c6, rfl⟩ := Kd.R_slice hR6
  rw [List.nil_append] at hR6 ⊢
  have hW := hW.step hB
  have hK5 := hK5.below hB
  have hK6 := KeepUp.refl W5.heap.size W6
  refine st_put (a' := (tp_a16 t xs bs g1 g3 A5 c5 A6 c6)) (by kernel_rfl) ?_
  refine sk (a' := (tp_a17 t xs bs g1 g3 A5 c5 A6 c6)) (.slice A6 bs.length c6) ?_
  refine wpList_nil ?_
  refine wp_seq ?_
  refine wp_region_list ?_
  refine sk (a' := (tp_a18 t xs bs g1 g3 A5 c5 A6 c6)) (.slice none 0 0) ?_
  refine sk (a' := (tp_a19 t xs bs g1 g3 A5 c5 A6 c6)) (.pointer (some ⟨g1, 20, none⟩)) ?_
  refine se (a' := (tp_a20 t xs bs g1 g3 A5 c5 A6 c6)) (t.nv) (ev1 hW 1 20 Try.underlying27) ?_
  have hK7_g3 : g3 < W6.heap.size := blk_lt (hW.blk 0 _ _ _ rfl).1
  have hK7_g1 : g1 < W6.heap.size := blk_lt (hW.blk 1 _ _ _ rfl).1
  have hK7_le : w.heap.size ≤ W6.heap.size := hW.below.size
  obtain ⟨Ax7, cx7, ex7, hcx7, hCx7⟩ := h.n.below hW.below
  refine Kd.R_append_rows (Kd.int .i64) (Rr := Kd.K (Kd.int .i64) W6) (w0 := W6) W6.heap.size rfl (.tmp 15) (.tmp 17) 27 2 (.int .i64 0) 8 rfl Try.underlying27 info2 rfl (by decide) (by decide) (.slice none 0 0) [] ns Ax7 ns.length cx7 (fun _ => True) (fun _ => False) (by kernel_rfl) ((show _ = t.nv from by kernel_rfl).trans ex7) (Kd.R_nil _ _ _ _ _) hCx7 (fun _ _ hk => (Flat.int .i64).up hk) (fun _ hk => hk.elim) (fun _ _ => trivial) (Below.refl _ _) (Nat.le_refl _) (by simp only [List.length_nil]; omega) ?_
  intro v7 W7 hR7 hB _ _
  obtain ⟨A7, c7, rfl⟩ := Kd.R_slice hR7
  rw [List.nil_append] at hR7 ⊢
  have hW := hW.step hB
  have hK5 := hK5.below hB
  have hK6 := hK6.below hB
  have hK7 := KeepUp.refl W6.heap.size W7
  refine st_put (a' := (tp_a21 t xs bs ns g1 g3 A5 c5 A6 c6 A7 c7)) (by kernel_rfl) ?_
  refine sk (a' := (tp_a22 t xs bs ns g1 g3 A5 c5 A6 c6 A7 c7)) (.slice A7 ns.length c7) ?_
  refine wpList_nil ?_
  refine wp_seq ?_
  refine wp_region_list ?_
  refine sk (a' := (tp_a23 t xs bs ns g1 g3 A5 c5 A6 c6 A7 c7)) (.slice A5 xs.length c5) ?_
  refine sk (a' := (tp_a24 t xs bs ns g1 g3 A5 c5 A6 c6 A7 c7)) (.pointer (some ⟨g1, 15, none⟩)) ?_
  refine sk (a' := (tp_a25 t xs bs ns g1 g3 A5 c5 A6 c6 A7 c7)) (.pointer (some ⟨g1, 18, none⟩)) ?_
  obtain ⟨W8, hr, hW, hF⟩ := hW.store1 (P := Try.prog) (o := 18) (cs' := (tp_c2 t xs A5 c5)) (L' := [(g3, 32, tp_c1), (g1, 32, (tp_c2 t xs A5 c5))]) 1 rfl (.slice A5 xs.length c5) rfl (Nat.le_of_ble_eq_true rfl) (by rfl) rfl 27 (by kernel_rfl)
  have hK5 := hK5.store hF (.inl hK5_g1)
  have hK6 := hK6.store hF (.inl hK6_g1)
  have hK7 := hK7.store hF (.inl hK7_g1)
  refine st_none (w' := W8) (a' := (tp_a25 t xs bs ns g1 g3 A5 c5 A6 c6 A7 c7)) (by kernel_rfl) (Eq.trans (b := (do Instr.storeAt 27 (.pointer (some ⟨g1, 18, none⟩)) (.slice A5 xs.length c5); pure Next.skip : Sem Next).run Try.prog W7) (by kernel_rfl) (st_unit hr)) (by kernel_rfl) ?_
  refine wpList_nil ?_
  refine wp_seq ?_
  refine wp_region_list ?_
  refine sk (a' := (tp_a27 t xs bs ns g1 g3 A5 c5 A6 c6 A7 c7)) (.slice A6 bs.length c6) ?_
  refine sk (a' := (tp_a28 t xs bs ns g1 g3 A5 c5 A6 c6 A7 c7)) (.pointer (some ⟨g1, 19, none⟩)) ?_
  obtain ⟨W9, hr, hW, hF⟩ := hW.store1 (P := Try.prog) (o := 19) (cs' := (tp_c3 t xs bs A5 c5 A6 c6)) (L' := [(g3, 32, tp_c1), (g1, 32, (tp_c3 t xs bs A5 c5 A6 c6))]) 1 rfl (.slice A6 bs.length c6) rfl (Nat.le_of_ble_eq_true rfl) (by rfl) rfl 30 (by kernel_rfl)
  have hK5 := hK5.store hF (.inl hK5_g1)
  have hK6 := hK6.store hF (.inl hK6_g1)
  have hK7 := hK7.store hF (.inl hK7_g1)
  refine st_none (w' := W9) (a' := (tp_a28 t xs bs ns g1 g3 A5 c5 A6 c6 A7 c7)) (by kernel_rfl) (Eq.trans (b := (do Instr.storeAt 30 (.pointer (some ⟨g1, 19, none⟩)) (.slice A6 bs.length c6); pure Next.skip : Sem Next).run Try.prog W8) (by kernel_rfl) (st_unit hr)) (by kernel_rfl) ?_
  refine wpList_nil ?_
  refine wp_seq ?_
  refine wp_region_list ?_
  refine sk (a' := (tp_a30 t xs bs ns g1 g3 A5 c5 A6 c6 A7 c7)) (.slice A7 ns.length c7) ?_
  refine sk (a' := (tp_a31 t xs bs ns g1 g3 A5 c5 A6 c6 A7 c7)) (.pointer (some ⟨g1, 20, none⟩)) ?_
  obtain ⟨W10, hr, hW, hF⟩ := hW.store1 (P := Try.prog) (o := 20) (cs' := (tp_c4 t xs bs ns A5 c5 A6 c6 A7 c7)) (L' := [(g3, 32, tp_c1), (g1, 32, (tp_c4 t xs bs ns A5 c5 A6 c6 A7 c7))]) 1 rfl (.slice A7 ns.length c7) rfl (Nat.le_of_ble_eq_true rfl) (by rfl) rfl 27 (by kernel_rfl)
  have hK5 := hK5.store hF (.inl hK5_g1)
  have hK6 := hK6.store hF (.inl hK6_g1)
  have hK7 := hK7.store hF (.inl hK7_g1)
  refine st_none (w' := W10) (a' := (tp_a31 t xs bs ns g1 g3 A5 c5 A6 c6 A7 c7)) (by kernel_rfl) (Eq.trans (b := (do Instr.storeAt 27 (.pointer (some ⟨g1, 20, none⟩)) (.slice A7 ns.length c7); pure Next.skip : Sem Next).run Try.prog W9) (by kernel_rfl) (st_unit hr)) (by kernel_rfl) ?_
  refine wpList_nil ?_
  refine wp_seq ?_
  refine wp_region_list ?_
  refine se (a' := (tp_a33 t xs bs ns g1 g3 A5 c5 A6 c6 A7 c7)) (.agg (tp_c4 t xs bs ns A5 c5 A6 c6 A7 c7)) (evA hW 1 0 Try.underlying32) ?_
  obtain ⟨W11, hr, hW, hF⟩ := hW.storeN (P := Try.prog) (o := 0) (cs' := (tp_c4 t xs bs ns A5 c5 A6 c6 A7 c7)) (L' := [(g3, 32, (tp_c4 t xs bs ns A5 c5 A6 c6 A7 c7)), (g1, 32, (tp_c4 t xs bs ns A5 c5 A6 c6 A7 c7))]) 0 rfl (tp_c4 t xs bs ns A5 c5 A6 c6 A7 c7) (by kernel_rfl) (Nat.le_of_ble_eq_true rfl) (by kernel_rfl) rfl 32 (by kernel_rfl)
  have hK5 := hK5.store hF (.inl hK5_g3)
  have hK6 := hK6.store hF (.inl hK6_g3)
  have hK7 := hK7.store hF (.inl hK7_g3)
  refine st_none (w' := W11) (a' := (tp_a33 t xs bs ns g1 g3 A5 c5 A6 c6 A7 c7)) (by kernel_rfl) (Eq.trans (b := (do Instr.storeAt 32 (.pointer (some ⟨g3, 0, none⟩)) (.agg (tp_c4 t xs bs ns A5 c5 A6 c6 A7 c7)); pure Next.skip : Sem Next).run Try.prog W10) (by kernel_rfl) (st_unit hr)) (by kernel_rfl) ?_
  refine wpList_nil ?_
  refine wp_ret ?_
  (try simp only [Exit.then, Exit.inBlock])
  change bodyPost Try.prog Try.f11 _ .ret _ _
  refine bodyPost_ret (results_single rfl (.cell g3 32 _ (0, 0) _ (by kernel_rfl) (hW.blk 0 _ _ _ rfl).1 Try.underlying32 rfl (by kernel_rfl) .nil)) rfl ?_
  exact ⟨A5, c5, A6, c6, A7, c7, rfl, ⟨Kd.R_lower (hK5.R hR5) hK5_le, Kd.R_lower (hK6.R hR6) hK6_le, Kd.R_lower (hK7.R hR7) hK7_le⟩, hW.below⟩
def tw_c0 (t : Th) (xs : List Int) (bs : List S42) (ns : List Int) (As : Option Addr) (cs : Nat) (Ab : Option Addr) (cb : Nat) (An : Option Addr) (cn : Nat) : Array Value := #[.int .i64 t.pc, .int .i64 t.fu, .int .i64 t.st, .int .i64 (t.R 0), .int .i64 (t.R 1), .int .i64 (t.R 2), .int .i64 (t.R 3), .int .i64 (t.R 4), .int .i64 (t.R 5), .int .i64 (t.R 6), .int .i64 (t.R 7), .int .i64 (t.R 8), .int .i64 (t.R 9), .int .i64 (t.R 10), .int .i64 (t.R 11), .int .i64 t.kd, .int .i64 t.mi, .int .i64 t.mn, .slice As xs.length cs, .slice Ab bs.length cb, .slice An ns.length cn, .int .i64 t.old]
def tw_l1 (t : Th) (xs : List Int) (bs : List S42) (ns : List Int) (As : Option Addr) (cs : Nat) (Ab : Option Addr) (cb : Nat) (An : Option Addr) (cn : Nat) (g1 : Nat) : List Value := [.agg (tw_c0 t xs bs ns As cs Ab cb An cn), .pointer (some ⟨g1, 0, none⟩), zz, zz, zz, zz, zz, zz, zz, zz, zz, zz, zz, zz, zz, zz]
def tw_l2 : List Value := [zz, zz, zz, zz, zz, zz, zz, zz, zz, zz, zz, zz, zz, zz, zz]
def tw_a1 (t : Th) (xs : List Int) (bs : List S42) (ns : List Int) (As : Option Addr) (cs : Nat) (Ab : Option Addr) (cb : Nat) (An : Option Addr) (cn : Nat) (g1 : Nat) : Act := ⟨((tw_l1 t xs bs ns As cs Ab cb An cn g1) ++ (tw_l2)).toArray, []⟩
def tw_c1 : Array Value := #[.int .i64 0, .int .i64 0, .int .i64 0, .int .i64 0, .int .i64 0, .int .i64 0, .int .i64 0, .int .i64 0, .int .i64 0, .int .i64 0, .int .i64 0, .int .i64 0, .int .i64 0, .int .i64 0, .int .i64 0, .int .i64 0, .int .i64 0, .int .i64 0, .slice none 0 0, .slice none 0 0, .slice none 0 0, .int .i64 0]
def tw_l5 (t : Th) (xs : List Int) (bs : List S42) (ns : List Int) (As : Option Addr) (cs : Nat) (Ab : Option Addr) (cb : Nat) (An : Option Addr) (cn : Nat) (g1 : Nat) (g3 : Nat) : List Value := [.agg (tw_c0 t xs bs ns As cs Ab cb An cn), .pointer (some ⟨g1, 0, none⟩), .pointer (some ⟨g3, 0, none⟩), zz, zz, zz, zz, zz, zz, zz, zz, zz, zz, zz, zz, zz]
def tw_a5 (t : Th) (xs : List Int) (bs : List S42) (ns : List Int) (As : Option Addr) (cs : Nat) (Ab : Option Addr) (cb : Nat) (An : Option Addr) (cn : Nat) (g1 : Nat) (g3 : Nat) : Act := ⟨((tw_l5 t xs bs ns As cs Ab cb An cn g1 g3) ++ (tw_l2)).toArray, []⟩
def tw_l7 (t : Th) (xs : List Int) (bs : List S42) (ns : List Int) (As : Option Addr) (cs : Nat) (Ab : Option Addr) (cb : Nat) (An : Option Addr) (cn : Nat) (g1 : Nat) (g3 : Nat) : List Value := [.agg (tw_c0 t xs bs ns As cs Ab cb An cn), .pointer (some ⟨g1, 0, none⟩), .pointer (some ⟨g3, 0, none⟩), .pointer (some ⟨g1, 19, none⟩), zz, zz, zz, zz, zz, zz, zz, zz, zz, zz, zz, zz]
def tw_a7 (t : Th) (xs : List Int) (bs : List S42) (ns : List Int) (As : Option Addr) (cs : Nat) (Ab : Option Addr) (cb : Nat) (An : Option Addr) (cn : Nat) (g1 : Nat) (g3 : Nat) : Act := ⟨((tw_l7 t xs bs ns As cs Ab cb An cn g1 g3) ++ (tw_l2)).toArray, []⟩
def tw_l9 (t : Th) (xs : List Int) (bs : List S42) (ns : List Int) (As : Option Addr) (cs : Nat) (Ab : Option Addr) (cb : Nat) (An : Option Addr) (cn : Nat) (g1 : Nat) (g3 : Nat) : List Value := [.agg (tw_c0 t xs bs ns As cs Ab cb An cn), .pointer (some ⟨g1, 0, none⟩), .pointer (some ⟨g3, 0, none⟩), .pointer (some ⟨g1, 19, none⟩), .slice Ab bs.length cb, zz, zz, zz, zz, zz, zz, zz, zz, zz, zz, zz]
def tw_a9 (t : Th) (xs : List Int) (bs : List S42) (ns : List Int) (As : Option Addr) (cs : Nat) (Ab : Option Addr) (cb : Nat) (An : Option Addr) (cn : Nat) (g1 : Nat) (g3 : Nat) : Act := ⟨((tw_l9 t xs bs ns As cs Ab cb An cn g1 g3) ++ (tw_l2)).toArray, []⟩
def tw_l11 (t : Th) (xs : List Int) (bs : List S42) (ns : List Int) (As : Option Addr) (cs : Nat) (Ab : Option Addr) (cb : Nat) (An : Option Addr) (cn : Nat) (g1 : Nat) (g3 : Nat) : List Value := [.agg (tw_c0 t xs bs ns As cs Ab cb An cn), .pointer (some ⟨g1, 0, none⟩), .pointer (some ⟨g3, 0, none⟩), .pointer (some ⟨g1, 19, none⟩), .slice Ab bs.length cb, .int .i64 (bs.length : Int), zz, zz, zz, zz, zz, zz, zz, zz, zz, zz]
def tw_a11 (t : Th) (xs : List Int) (bs : List S42) (ns : List Int) (As : Option Addr) (cs : Nat) (Ab : Option Addr) (cb : Nat) (An : Option Addr) (cn : Nat) (g1 : Nat) (g3 : Nat) : Act := ⟨((tw_l11 t xs bs ns As cs Ab cb An cn g1 g3) ++ (tw_l2)).toArray, []⟩
def tw_l13 (t : Th) (xs : List Int) (bs : List S42) (ns : List Int) (As : Option Addr) (cs : Nat) (Ab : Option Addr) (cb : Nat) (An : Option Addr) (cn : Nat) (g1 : Nat) (g3 : Nat) : List Value := [.agg (tw_c0 t xs bs ns As cs Ab cb An cn), .pointer (some ⟨g1, 0, none⟩), .pointer (some ⟨g3, 0, none⟩), .pointer (some ⟨g1, 19, none⟩), .slice Ab bs.length cb, .int .i64 (bs.length : Int), .bool true, zz, zz, zz, zz, zz, zz, zz, zz, zz]
def tw_a13 (t : Th) (xs : List Int) (bs : List S42) (ns : List Int) (As : Option Addr) (cs : Nat) (Ab : Option Addr) (cb : Nat) (An : Option Addr) (cn : Nat) (g1 : Nat) (g3 : Nat) : Act := ⟨((tw_l13 t xs bs ns As cs Ab cb An cn g1 g3) ++ (tw_l2)).toArray, []⟩
def tw_l15 (t : Th) (xs : List Int) (bs : List S42) (ns : List Int) (As : Option Addr) (cs : Nat) (Ab : Option Addr) (cb : Nat) (An : Option Addr) (cn : Nat) (g1 : Nat) (g3 : Nat) : List Value := [.agg (tw_c0 t xs bs ns As cs Ab cb An cn), .pointer (some ⟨g1, 0, none⟩), .pointer (some ⟨g3, 0, none⟩), .pointer (some ⟨g1, 19, none⟩), .slice Ab bs.length cb, .int .i64 (bs.length : Int), .bool true, .pointer (some ⟨g1, 19, none⟩), zz, zz, zz, zz, zz, zz, zz, zz]
def tw_a15 (t : Th) (xs : List Int) (bs : List S42) (ns : List Int) (As : Option Addr) (cs : Nat) (Ab : Option Addr) (cb : Nat) (An : Option Addr) (cn : Nat) (g1 : Nat) (g3 : Nat) : Act := ⟨((tw_l15 t xs bs ns As cs Ab cb An cn g1 g3) ++ (tw_l2)).toArray, []⟩
def tw_l17 (t : Th) (xs : List Int) (bs : List S42) (ns : List Int) (As : Option Addr) (cs : Nat) (Ab : Option Addr) (cb : Nat) (An : Option Addr) (cn : Nat) (g1 : Nat) (g3 : Nat) : List Value := [.agg (tw_c0 t xs bs ns As cs Ab cb An cn), .pointer (some ⟨g1, 0, none⟩), .pointer (some ⟨g3, 0, none⟩), .pointer (some ⟨g1, 19, none⟩), .slice Ab bs.length cb, .int .i64 (bs.length : Int), .bool true, .pointer (some ⟨g1, 19, none⟩), .slice Ab bs.length cb, zz, zz, zz, zz, zz, zz, zz]
def tw_a17 (t : Th) (xs : List Int) (bs : List S42) (ns : List Int) (As : Option Addr) (cs : Nat) (Ab : Option Addr) (cb : Nat) (An : Option Addr) (cn : Nat) (g1 : Nat) (g3 : Nat) : Act := ⟨((tw_l17 t xs bs ns As cs Ab cb An cn g1 g3) ++ (tw_l2)).toArray, []⟩
def tw_l19 (t : Th) (xs : List Int) (bs : List S42) (ns : List Int) (As : Option Addr) (cs : Nat) (Ab : Option Addr) (cb : Nat) (An : Option Addr) (cn : Nat) (g1 : Nat) (g3 : Nat) : List Value := [.agg (tw_c0 t xs bs ns As cs Ab cb An cn), .pointer (some ⟨g1, 0, none⟩), .pointer (some ⟨g3, 0, none⟩), .pointer (some ⟨g1, 19, none⟩), .slice Ab bs.length cb, .int .i64 (bs.length : Int), .bool true, .pointer (some ⟨g1, 19, none⟩), .slice Ab bs.length cb, .slice Ab 12 cb, zz, zz, zz, zz, zz, zz]
def tw_a19 (t : Th) (xs : List Int) (bs : List S42) (ns : List Int) (As : Option Addr) (cs : Nat) (Ab : Option Addr) (cb : Nat) (An : Option Addr) (cn : Nat) (g1 : Nat) (g3 : Nat) : Act := ⟨((tw_l19 t xs bs ns As cs Ab cb An cn g1 g3) ++ (tw_l2)).toArray, []⟩
def tw_l21 (t : Th) (xs : List Int) (bs : List S42) (ns : List Int) (As : Option Addr) (cs : Nat) (Ab : Option Addr) (cb : Nat) (An : Option Addr) (cn : Nat) (g1 : Nat) (g3 : Nat) : List Value := [.agg (tw_c0 t xs bs ns As cs Ab cb An cn), .pointer (some ⟨g1, 0, none⟩), .pointer (some ⟨g3, 0, none⟩), .pointer (some ⟨g1, 19, none⟩), .slice Ab bs.length cb, .int .i64 (bs.length : Int), .bool true, .pointer (some ⟨g1, 19, none⟩), .slice Ab bs.length cb, .slice Ab 12 cb, .pointer (some ⟨g1, 19, none⟩), zz, zz, zz, zz, zz]
def tw_a21 (t : Th) (xs : List Int) (bs : List S42) (ns : List Int) (As : Option Addr) (cs : Nat) (Ab : Option Addr) (cb : Nat) (An : Option Addr) (cn : Nat) (g1 : Nat) (g3 : Nat) : Act := ⟨((tw_l21 t xs bs ns As cs Ab cb An cn g1 g3) ++ (tw_l2)).toArray, []⟩
def tw_c2 (t : Th) (xs : List Int) (ns : List Int) (As : Option Addr) (cs : Nat) (Ab : Option Addr) (cb : Nat) (An : Option Addr) (cn : Nat) : Array Value := #[.int .i64 t.pc, .int .i64 t.fu, .int .i64 t.st, .int .i64 (t.R 0), .int .i64 (t.R 1), .int .i64 (t.R 2), .int .i64 (t.R 3), .int .i64 (t.R 4), .int .i64 (t.R 5), .int .i64 (t.R 6), .int .i64 (t.R 7), .int .i64 (t.R 8), .int .i64 (t.R 9), .int .i64 (t.R 10), .int .i64 (t.R 11), .int .i64 t.kd, .int .i64 t.mi, .int .i64 t.mn, .slice As xs.length cs, .slice Ab 12 cb, .slice An ns.length cn, .int .i64 t.old]
def tw_l24 (t : Th) (xs : List Int) (bs : List S42) (ns : List Int) (As : Option Addr) (cs : Nat) (Ab : Option Addr) (cb : Nat) (An : Option Addr) (cn : Nat) (g1 : Nat) (g3 : Nat) : List Value := [.agg (tw_c0 t xs bs ns As cs Ab cb An cn), .pointer (some ⟨g1, 0, none⟩), .pointer (some ⟨g3, 0, none⟩), .pointer (some ⟨g1, 19, none⟩), .slice Ab bs.length cb, .int .i64 (bs.length : Int), .bool true, .pointer (some ⟨g1, 19, none⟩), .slice Ab bs.length cb, .slice Ab 12 cb, .pointer (some ⟨g1, 19, none⟩), .pointer (some ⟨g1, 20, none⟩), zz, zz, zz, zz]
def tw_a24 (t : Th) (xs : List Int) (bs : List S42) (ns : List Int) (As : Option Addr) (cs : Nat) (Ab : Option Addr) (cb : Nat) (An : Option Addr) (cn : Nat) (g1 : Nat) (g3 : Nat) : Act := ⟨((tw_l24 t xs bs ns As cs Ab cb An cn g1 g3) ++ (tw_l2)).toArray, []⟩
def tw_l26 (t : Th) (xs : List Int) (bs : List S42) (ns : List Int) (As : Option Addr) (cs : Nat) (Ab : Option Addr) (cb : Nat) (An : Option Addr) (cn : Nat) (g1 : Nat) (g3 : Nat) : List Value := [.agg (tw_c0 t xs bs ns As cs Ab cb An cn), .pointer (some ⟨g1, 0, none⟩), .pointer (some ⟨g3, 0, none⟩), .pointer (some ⟨g1, 19, none⟩), .slice Ab bs.length cb, .int .i64 (bs.length : Int), .bool true, .pointer (some ⟨g1, 19, none⟩), .slice Ab bs.length cb, .slice Ab 12 cb, .pointer (some ⟨g1, 19, none⟩), .pointer (some ⟨g1, 20, none⟩), .slice An ns.length cn, zz, zz, zz]
def tw_a26 (t : Th) (xs : List Int) (bs : List S42) (ns : List Int) (As : Option Addr) (cs : Nat) (Ab : Option Addr) (cb : Nat) (An : Option Addr) (cn : Nat) (g1 : Nat) (g3 : Nat) : Act := ⟨((tw_l26 t xs bs ns As cs Ab cb An cn g1 g3) ++ (tw_l2)).toArray, []⟩
def tw_l28 (t : Th) (xs : List Int) (bs : List S42) (ns : List Int) (As : Option Addr) (cs : Nat) (Ab : Option Addr) (cb : Nat) (An : Option Addr) (cn : Nat) (g1 : Nat) (g3 : Nat) : List Value := [.agg (tw_c0 t xs bs ns As cs Ab cb An cn), .pointer (some ⟨g1, 0, none⟩), .pointer (some ⟨g3, 0, none⟩), .pointer (some ⟨g1, 19, none⟩), .slice Ab bs.length cb, .int .i64 (bs.length : Int), .bool true, .pointer (some ⟨g1, 19, none⟩), .slice Ab bs.length cb, .slice Ab 12 cb, .pointer (some ⟨g1, 19, none⟩), .pointer (some ⟨g1, 20, none⟩), .slice An ns.length cn, .int .i64 (ns.length : Int), zz, zz]
def tw_a28 (t : Th) (xs : List Int) (bs : List S42) (ns : List Int) (As : Option Addr) (cs : Nat) (Ab : Option Addr) (cb : Nat) (An : Option Addr) (cn : Nat) (g1 : Nat) (g3 : Nat) : Act := ⟨((tw_l28 t xs bs ns As cs Ab cb An cn g1 g3) ++ (tw_l2)).toArray, []⟩
def tw_l30 (t : Th) (xs : List Int) (bs : List S42) (ns : List Int) (As : Option Addr) (cs : Nat) (Ab : Option Addr) (cb : Nat) (An : Option Addr) (cn : Nat) (g1 : Nat) (g3 : Nat) : List Value := [.agg (tw_c0 t xs bs ns As cs Ab cb An cn), .pointer (some ⟨g1, 0, none⟩), .pointer (some ⟨g3, 0, none⟩), .pointer (some ⟨g1, 19, none⟩), .slice Ab bs.length cb, .int .i64 (bs.length : Int), .bool true, .pointer (some ⟨g1, 19, none⟩), .slice Ab bs.length cb, .slice Ab 12 cb, .pointer (some ⟨g1, 19, none⟩), .pointer (some ⟨g1, 20, none⟩), .slice An ns.length cn, .int .i64 (ns.length : Int), .bool true, zz]
def tw_a30 (t : Th) (xs : List Int) (bs : List S42) (ns : List Int) (As : Option Addr) (cs : Nat) (Ab : Option Addr) (cb : Nat) (An : Option Addr) (cn : Nat) (g1 : Nat) (g3 : Nat) : Act := ⟨((tw_l30 t xs bs ns As cs Ab cb An cn g1 g3) ++ (tw_l2)).toArray, []⟩
def tw_l32 (t : Th) (xs : List Int) (bs : List S42) (ns : List Int) (As : Option Addr) (cs : Nat) (Ab : Option Addr) (cb : Nat) (An : Option Addr) (cn : Nat) (g1 : Nat) (g3 : Nat) : List Value := [.agg (tw_c0 t xs bs ns As cs Ab cb An cn), .pointer (some ⟨g1, 0, none⟩), .pointer (some ⟨g3, 0, none⟩), .pointer (some ⟨g1, 19, none⟩), .slice Ab bs.length cb, .int .i64 (bs.length : Int), .bool true, .pointer (some ⟨g1, 19, none⟩), .slice Ab bs.length cb, .slice Ab 12 cb, .pointer (some ⟨g1, 19, none⟩), .pointer (some ⟨g1, 20, none⟩), .slice An ns.length cn, .int .i64 (ns.length : Int), .bool true, .pointer (some ⟨g1, 20, none⟩)]
def tw_a32 (t : Th) (xs : List Int) (bs : List S42) (ns : List Int) (As : Option Addr) (cs : Nat) (Ab : Option Addr) (cb : Nat) (An : Option Addr) (cn : Nat) (g1 : Nat) (g3 : Nat) : Act := ⟨((tw_l32 t xs bs ns As cs Ab cb An cn g1 g3) ++ (tw_l2)).toArray, []⟩
def tw_l34 (ns : List Int) (An : Option Addr) (cn : Nat) : List Value := [.slice An ns.length cn, zz, zz, zz, zz, zz, zz, zz, zz, zz, zz, zz, zz, zz, zz]
def tw_a34 (t : Th) (xs : List Int) (bs : List S42) (ns : List Int) (As : Option Addr) (cs : Nat) (Ab : Option Addr) (cb : Nat) (An : Option Addr) (cn : Nat) (g1 : Nat) (g3 : Nat) : Act := ⟨((tw_l32 t xs bs ns As cs Ab cb An cn g1 g3) ++ ((tw_l34 ns An cn))).toArray, []⟩
def tw_l36 (ns : List Int) (An : Option Addr) (cn : Nat) : List Value := [.slice An ns.length cn, .slice An 8 cn, zz, zz, zz, zz, zz, zz, zz, zz, zz, zz, zz, zz, zz]
def tw_a36 (t : Th) (xs : List Int) (bs : List S42) (ns : List Int) (As : Option Addr) (cs : Nat) (Ab : Option Addr) (cb : Nat) (An : Option Addr) (cn : Nat) (g1 : Nat) (g3 : Nat) : Act := ⟨((tw_l32 t xs bs ns As cs Ab cb An cn g1 g3) ++ ((tw_l36 ns An cn))).toArray, []⟩
def tw_l38 (ns : List Int) (An : Option Addr) (cn : Nat) (g1 : Nat) : List Value := [.slice An ns.length cn, .slice An 8 cn, .pointer (some ⟨g1, 20, none⟩), zz, zz, zz, zz, zz, zz, zz, zz, zz, zz, zz, zz]
def tw_a38 (t : Th) (xs : List Int) (bs : List S42) (ns : List Int) (As : Option Addr) (cs : Nat) (Ab : Option Addr) (cb : Nat) (An : Option Addr) (cn : Nat) (g1 : Nat) (g3 : Nat) : Act := ⟨((tw_l32 t xs bs ns As cs Ab cb An cn g1 g3) ++ ((tw_l38 ns An cn g1))).toArray, []⟩
def tw_c3 (t : Th) (xs : List Int) (As : Option Addr) (cs : Nat) (Ab : Option Addr) (cb : Nat) (An : Option Addr) (cn : Nat) : Array Value := #[.int .i64 t.pc, .int .i64 t.fu, .int .i64 t.st, .int .i64 (t.R 0), .int .i64 (t.R 1), .int .i64 (t.R 2), .int .i64 (t.R 3), .int .i64 (t.R 4), .int .i64 (t.R 5), .int .i64 (t.R 6), .int .i64 (t.R 7), .int .i64 (t.R 8), .int .i64 (t.R 9), .int .i64 (t.R 10), .int .i64 (t.R 11), .int .i64 t.kd, .int .i64 t.mi, .int .i64 t.mn, .slice As xs.length cs, .slice Ab 12 cb, .slice An 8 cn, .int .i64 t.old]
def tw_l41 (ns : List Int) (An : Option Addr) (cn : Nat) (g1 : Nat) : List Value := [.slice An ns.length cn, .slice An 8 cn, .pointer (some ⟨g1, 20, none⟩), .pointer (some ⟨g1, 15, none⟩), zz, zz, zz, zz, zz, zz, zz, zz, zz, zz, zz]
def tw_a41 (t : Th) (xs : List Int) (bs : List S42) (ns : List Int) (As : Option Addr) (cs : Nat) (Ab : Option Addr) (cb : Nat) (An : Option Addr) (cn : Nat) (g1 : Nat) (g3 : Nat) : Act := ⟨((tw_l32 t xs bs ns As cs Ab cb An cn g1 g3) ++ ((tw_l41 ns An cn g1))).toArray, []⟩
def tw_l43 (ns : List Int) (An : Option Addr) (cn : Nat) (g1 : Nat) : List Value := [.slice An ns.length cn, .slice An 8 cn, .pointer (some ⟨g1, 20, none⟩), .pointer (some ⟨g1, 15, none⟩), .pointer (some ⟨g1, 18, none⟩), zz, zz, zz, zz, zz, zz, zz, zz, zz, zz]
def tw_a43 (t : Th) (xs : List Int) (bs : List S42) (ns : List Int) (As : Option Addr) (cs : Nat) (Ab : Option Addr) (cb : Nat) (An : Option Addr) (cn : Nat) (g1 : Nat) (g3 : Nat) : Act := ⟨((tw_l32 t xs bs ns As cs Ab cb An cn g1 g3) ++ ((tw_l43 ns An cn g1))).toArray, []⟩
def tw_l45 (xs : List Int) (ns : List Int) (As : Option Addr) (cs : Nat) (An : Option Addr) (cn : Nat) (g1 : Nat) : List Value := [.slice An ns.length cn, .slice An 8 cn, .pointer (some ⟨g1, 20, none⟩), .pointer (some ⟨g1, 15, none⟩), .pointer (some ⟨g1, 18, none⟩), .slice As xs.length cs, zz, zz, zz, zz, zz, zz, zz, zz, zz]
def tw_a45 (t : Th) (xs : List Int) (bs : List S42) (ns : List Int) (As : Option Addr) (cs : Nat) (Ab : Option Addr) (cb : Nat) (An : Option Addr) (cn : Nat) (g1 : Nat) (g3 : Nat) : Act := ⟨((tw_l32 t xs bs ns As cs Ab cb An cn g1 g3) ++ ((tw_l45 xs ns As cs An cn g1))).toArray, []⟩
def tw_l47 (xs : List Int) (ns : List Int) (As : Option Addr) (cs : Nat) (An : Option Addr) (cn : Nat) (g1 : Nat) : List Value := [.slice An ns.length cn, .slice An 8 cn, .pointer (some ⟨g1, 20, none⟩), .pointer (some ⟨g1, 15, none⟩), .pointer (some ⟨g1, 18, none⟩), .slice As xs.length cs, .int .i64 (xs.length : Int), zz, zz, zz, zz, zz, zz, zz, zz]
def tw_a47 (t : Th) (xs : List Int) (bs : List S42) (ns : List Int) (As : Option Addr) (cs : Nat) (Ab : Option Addr) (cb : Nat) (An : Option Addr) (cn : Nat) (g1 : Nat) (g3 : Nat) : Act := ⟨((tw_l32 t xs bs ns As cs Ab cb An cn g1 g3) ++ ((tw_l47 xs ns As cs An cn g1))).toArray, []⟩
def tw_l49 (xs : List Int) (ns : List Int) (As : Option Addr) (cs : Nat) (An : Option Addr) (cn : Nat) (g1 : Nat) : List Value := [.slice An ns.length cn, .slice An 8 cn, .pointer (some ⟨g1, 20, none⟩), .pointer (some ⟨g1, 15, none⟩), .pointer (some ⟨g1, 18, none⟩), .slice As xs.length cs, .int .i64 (xs.length : Int), .bool true, zz, zz, zz, zz, zz, zz, zz]
def tw_a49 (t : Th) (xs : List Int) (bs : List S42) (ns : List Int) (As : Option Addr) (cs : Nat) (Ab : Option Addr) (cb : Nat) (An : Option Addr) (cn : Nat) (g1 : Nat) (g3 : Nat) : Act := ⟨((tw_l32 t xs bs ns As cs Ab cb An cn g1 g3) ++ ((tw_l49 xs ns As cs An cn g1))).toArray, []⟩
def tw_l51 (xs : List Int) (ns : List Int) (As : Option Addr) (cs : Nat) (An : Option Addr) (cn : Nat) (g1 : Nat) : List Value := [.slice An ns.length cn, .slice An 8 cn, .pointer (some ⟨g1, 20, none⟩), .pointer (some ⟨g1, 15, none⟩), .pointer (some ⟨g1, 18, none⟩), .slice As xs.length cs, .int .i64 (xs.length : Int), .bool true, .pointer (some ⟨g1, 15, none⟩), zz, zz, zz, zz, zz, zz]
def tw_a51 (t : Th) (xs : List Int) (bs : List S42) (ns : List Int) (As : Option Addr) (cs : Nat) (Ab : Option Addr) (cb : Nat) (An : Option Addr) (cn : Nat) (g1 : Nat) (g3 : Nat) : Act := ⟨((tw_l32 t xs bs ns As cs Ab cb An cn g1 g3) ++ ((tw_l51 xs ns As cs An cn g1))).toArray, []⟩
def tw_l53 (xs : List Int) (ns : List Int) (As : Option Addr) (cs : Nat) (An : Option Addr) (cn : Nat) (g1 : Nat) : List Value := [.slice An ns.length cn, .slice An 8 cn, .pointer (some ⟨g1, 20, none⟩), .pointer (some ⟨g1, 15, none⟩), .pointer (some ⟨g1, 18, none⟩), .slice As xs.length cs, .int .i64 (xs.length : Int), .bool true, .pointer (some ⟨g1, 15, none⟩), .pointer (some ⟨g1, 18, none⟩), zz, zz, zz, zz, zz]
def tw_a53 (t : Th) (xs : List Int) (bs : List S42) (ns : List Int) (As : Option Addr) (cs : Nat) (Ab : Option Addr) (cb : Nat) (An : Option Addr) (cn : Nat) (g1 : Nat) (g3 : Nat) : Act := ⟨((tw_l32 t xs bs ns As cs Ab cb An cn g1 g3) ++ ((tw_l53 xs ns As cs An cn g1))).toArray, []⟩
def tw_l55 (xs : List Int) (ns : List Int) (As : Option Addr) (cs : Nat) (An : Option Addr) (cn : Nat) (g1 : Nat) : List Value := [.slice An ns.length cn, .slice An 8 cn, .pointer (some ⟨g1, 20, none⟩), .pointer (some ⟨g1, 15, none⟩), .pointer (some ⟨g1, 18, none⟩), .slice As xs.length cs, .int .i64 (xs.length : Int), .bool true, .pointer (some ⟨g1, 15, none⟩), .pointer (some ⟨g1, 18, none⟩), .slice As xs.length cs, zz, zz, zz, zz]
def tw_a55 (t : Th) (xs : List Int) (bs : List S42) (ns : List Int) (As : Option Addr) (cs : Nat) (Ab : Option Addr) (cb : Nat) (An : Option Addr) (cn : Nat) (g1 : Nat) (g3 : Nat) : Act := ⟨((tw_l32 t xs bs ns As cs Ab cb An cn g1 g3) ++ ((tw_l55 xs ns As cs An cn g1))).toArray, []⟩
def tw_l57 (xs : List Int) (ns : List Int) (As : Option Addr) (cs : Nat) (An : Option Addr) (cn : Nat) (g1 : Nat) : List Value := [.slice An ns.length cn, .slice An 8 cn, .pointer (some ⟨g1, 20, none⟩), .pointer (some ⟨g1, 15, none⟩), .pointer (some ⟨g1, 18, none⟩), .slice As xs.length cs, .int .i64 (xs.length : Int), .bool true, .pointer (some ⟨g1, 15, none⟩), .pointer (some ⟨g1, 18, none⟩), .slice As xs.length cs, .slice As 12 cs, zz, zz, zz]
def tw_a57 (t : Th) (xs : List Int) (bs : List S42) (ns : List Int) (As : Option Addr) (cs : Nat) (Ab : Option Addr) (cb : Nat) (An : Option Addr) (cn : Nat) (g1 : Nat) (g3 : Nat) : Act := ⟨((tw_l32 t xs bs ns As cs Ab cb An cn g1 g3) ++ ((tw_l57 xs ns As cs An cn g1))).toArray, []⟩
def tw_l59 (xs : List Int) (ns : List Int) (As : Option Addr) (cs : Nat) (An : Option Addr) (cn : Nat) (g1 : Nat) : List Value := [.slice An ns.length cn, .slice An 8 cn, .pointer (some ⟨g1, 20, none⟩), .pointer (some ⟨g1, 15, none⟩), .pointer (some ⟨g1, 18, none⟩), .slice As xs.length cs, .int .i64 (xs.length : Int), .bool true, .pointer (some ⟨g1, 15, none⟩), .pointer (some ⟨g1, 18, none⟩), .slice As xs.length cs, .slice As 12 cs, .pointer (some ⟨g1, 15, none⟩), zz, zz]
def tw_a59 (t : Th) (xs : List Int) (bs : List S42) (ns : List Int) (As : Option Addr) (cs : Nat) (Ab : Option Addr) (cb : Nat) (An : Option Addr) (cn : Nat) (g1 : Nat) (g3 : Nat) : Act := ⟨((tw_l32 t xs bs ns As cs Ab cb An cn g1 g3) ++ ((tw_l59 xs ns As cs An cn g1))).toArray, []⟩
def tw_l61 (xs : List Int) (ns : List Int) (As : Option Addr) (cs : Nat) (An : Option Addr) (cn : Nat) (g1 : Nat) : List Value := [.slice An ns.length cn, .slice An 8 cn, .pointer (some ⟨g1, 20, none⟩), .pointer (some ⟨g1, 15, none⟩), .pointer (some ⟨g1, 18, none⟩), .slice As xs.length cs, .int .i64 (xs.length : Int), .bool true, .pointer (some ⟨g1, 15, none⟩), .pointer (some ⟨g1, 18, none⟩), .slice As xs.length cs, .slice As 12 cs, .pointer (some ⟨g1, 15, none⟩), .pointer (some ⟨g1, 18, none⟩), zz]
def tw_a61 (t : Th) (xs : List Int) (bs : List S42) (ns : List Int) (As : Option Addr) (cs : Nat) (Ab : Option Addr) (cb : Nat) (An : Option Addr) (cn : Nat) (g1 : Nat) (g3 : Nat) : Act := ⟨((tw_l32 t xs bs ns As cs Ab cb An cn g1 g3) ++ ((tw_l61 xs ns As cs An cn g1))).toArray, []⟩
def tw_c4 (t : Th) (As : Option Addr) (cs : Nat) (Ab : Option Addr) (cb : Nat) (An : Option Addr) (cn : Nat) : Array Value := #[.int .i64 t.pc, .int .i64 t.fu, .int .i64 t.st, .int .i64 (t.R 0), .int .i64 (t.R 1), .int .i64 (t.R 2), .int .i64 (t.R 3), .int .i64 (t.R 4), .int .i64 (t.R 5), .int .i64 (t.R 6), .int .i64 (t.R 7), .int .i64 (t.R 8), .int .i64 (t.R 9), .int .i64 (t.R 10), .int .i64 (t.R 11), .int .i64 t.kd, .int .i64 t.mi, .int .i64 t.mn, .slice As 12 cs, .slice Ab 12 cb, .slice An 8 cn, .int .i64 t.old]
def tw_l64 (t : Th) (xs : List Int) (ns : List Int) (As : Option Addr) (cs : Nat) (Ab : Option Addr) (cb : Nat) (An : Option Addr) (cn : Nat) (g1 : Nat) : List Value := [.slice An ns.length cn, .slice An 8 cn, .pointer (some ⟨g1, 20, none⟩), .pointer (some ⟨g1, 15, none⟩), .pointer (some ⟨g1, 18, none⟩), .slice As xs.length cs, .int .i64 (xs.length : Int), .bool true, .pointer (some ⟨g1, 15, none⟩), .pointer (some ⟨g1, 18, none⟩), .slice As xs.length cs, .slice As 12 cs, .pointer (some ⟨g1, 15, none⟩), .pointer (some ⟨g1, 18, none⟩), .agg (tw_c4 t As cs Ab cb An cn)]
def tw_a64 (t : Th) (xs : List Int) (bs : List S42) (ns : List Int) (As : Option Addr) (cs : Nat) (Ab : Option Addr) (cb : Nat) (An : Option Addr) (cn : Nat) (g1 : Nat) (g3 : Nat) : Act := ⟨((tw_l32 t xs bs ns As cs Ab cb An cn g1 g3) ++ ((tw_l64 t xs ns As cs Ab cb An cn g1))).toArray, []⟩
def tw_l66 (xs : List Int) (ns : List Int) (As : Option Addr) (cs : Nat) (An : Option Addr) (cn : Nat) (g1 : Nat) : List Value := [.slice An ns.length cn, .slice An 8 cn, .pointer (some ⟨g1, 20, none⟩), .pointer (some ⟨g1, 15, none⟩), .pointer (some ⟨g1, 18, none⟩), .slice As xs.length cs, .int .i64 (xs.length : Int), .bool false, zz, zz, zz, zz, zz, zz, zz]
def tw_a66 (t : Th) (xs : List Int) (bs : List S42) (ns : List Int) (As : Option Addr) (cs : Nat) (Ab : Option Addr) (cb : Nat) (An : Option Addr) (cn : Nat) (g1 : Nat) (g3 : Nat) : Act := ⟨((tw_l32 t xs bs ns As cs Ab cb An cn g1 g3) ++ ((tw_l66 xs ns As cs An cn g1))).toArray, []⟩
def tw_l68 (t : Th) (xs : List Int) (ns : List Int) (As : Option Addr) (cs : Nat) (Ab : Option Addr) (cb : Nat) (An : Option Addr) (cn : Nat) (g1 : Nat) : List Value := [.slice An ns.length cn, .slice An 8 cn, .pointer (some ⟨g1, 20, none⟩), .pointer (some ⟨g1, 15, none⟩), .pointer (some ⟨g1, 18, none⟩), .slice As xs.length cs, .int .i64 (xs.length : Int), .bool false, zz, zz, zz, zz, zz, zz, .agg (tw_c3 t xs As cs Ab cb An cn)]
def tw_a68 (t : Th) (xs : List Int) (bs : List S42) (ns : List Int) (As : Option Addr) (cs : Nat) (Ab : Option Addr) (cb : Nat) (An : Option Addr) (cn : Nat) (g1 : Nat) (g3 : Nat) : Act := ⟨((tw_l32 t xs bs ns As cs Ab cb An cn g1 g3) ++ ((tw_l68 t xs ns As cs Ab cb An cn g1))).toArray, []⟩
def tw_l70 (t : Th) (xs : List Int) (bs : List S42) (ns : List Int) (As : Option Addr) (cs : Nat) (Ab : Option Addr) (cb : Nat) (An : Option Addr) (cn : Nat) (g1 : Nat) (g3 : Nat) : List Value := [.agg (tw_c0 t xs bs ns As cs Ab cb An cn), .pointer (some ⟨g1, 0, none⟩), .pointer (some ⟨g3, 0, none⟩), .pointer (some ⟨g1, 19, none⟩), .slice Ab bs.length cb, .int .i64 (bs.length : Int), .bool true, .pointer (some ⟨g1, 19, none⟩), .slice Ab bs.length cb, .slice Ab 12 cb, .pointer (some ⟨g1, 19, none⟩), .pointer (some ⟨g1, 20, none⟩), .slice An ns.length cn, .int .i64 (ns.length : Int), .bool false, zz]
def tw_a70 (t : Th) (xs : List Int) (bs : List S42) (ns : List Int) (As : Option Addr) (cs : Nat) (Ab : Option Addr) (cb : Nat) (An : Option Addr) (cn : Nat) (g1 : Nat) (g3 : Nat) : Act := ⟨((tw_l70 t xs bs ns As cs Ab cb An cn g1 g3) ++ (tw_l2)).toArray, []⟩
def tw_l72 (g1 : Nat) : List Value := [zz, zz, zz, .pointer (some ⟨g1, 15, none⟩), zz, zz, zz, zz, zz, zz, zz, zz, zz, zz, zz]
def tw_a72 (t : Th) (xs : List Int) (bs : List S42) (ns : List Int) (As : Option Addr) (cs : Nat) (Ab : Option Addr) (cb : Nat) (An : Option Addr) (cn : Nat) (g1 : Nat) (g3 : Nat) : Act := ⟨((tw_l70 t xs bs ns As cs Ab cb An cn g1 g3) ++ ((tw_l72 g1))).toArray, []⟩
def tw_l74 (g1 : Nat) : List Value := [zz, zz, zz, .pointer (some ⟨g1, 15, none⟩), .pointer (some ⟨g1, 18, none⟩), zz, zz, zz, zz, zz, zz, zz, zz, zz, zz]
def tw_a74 (t : Th) (xs : List Int) (bs : List S42) (ns : List Int) (As : Option Addr) (cs : Nat) (Ab : Option Addr) (cb : Nat) (An : Option Addr) (cn : Nat) (g1 : Nat) (g3 : Nat) : Act := ⟨((tw_l70 t xs bs ns As cs Ab cb An cn g1 g3) ++ ((tw_l74 g1))).toArray, []⟩
def tw_l76 (xs : List Int) (As : Option Addr) (cs : Nat) (g1 : Nat) : List Value := [zz, zz, zz, .pointer (some ⟨g1, 15, none⟩), .pointer (some ⟨g1, 18, none⟩), .slice As xs.length cs, zz, zz, zz, zz, zz, zz, zz, zz, zz]
def tw_a76 (t : Th) (xs : List Int) (bs : List S42) (ns : List Int) (As : Option Addr) (cs : Nat) (Ab : Option Addr) (cb : Nat) (An : Option Addr) (cn : Nat) (g1 : Nat) (g3 : Nat) : Act := ⟨((tw_l70 t xs bs ns As cs Ab cb An cn g1 g3) ++ ((tw_l76 xs As cs g1))).toArray, []⟩
def tw_l78 (xs : List Int) (As : Option Addr) (cs : Nat) (g1 : Nat) : List Value := [zz, zz, zz, .pointer (some ⟨g1, 15, none⟩), .pointer (some ⟨g1, 18, none⟩), .slice As xs.length cs, .int .i64 (xs.length : Int), zz, zz, zz, zz, zz, zz, zz, zz]
def tw_a78 (t : Th) (xs : List Int) (bs : List S42) (ns : List Int) (As : Option Addr) (cs : Nat) (Ab : Option Addr) (cb : Nat) (An : Option Addr) (cn : Nat) (g1 : Nat) (g3 : Nat) : Act := ⟨((tw_l70 t xs bs ns As cs Ab cb An cn g1 g3) ++ ((tw_l78 xs As cs g1))).toArray, []⟩
def tw_l80 (xs : List Int) (As : Option Addr) (cs : Nat) (g1 : Nat) : List Value := [zz, zz, zz, .pointer (some ⟨g1, 15, none⟩), .pointer (some ⟨g1, 18, none⟩), .slice As xs.length cs, .int .i64 (xs.length : Int), .bool true, zz, zz, zz, zz, zz, zz, zz]
def tw_a80 (t : Th) (xs : List Int) (bs : List S42) (ns : List Int) (As : Option Addr) (cs : Nat) (Ab : Option Addr) (cb : Nat) (An : Option Addr) (cn : Nat) (g1 : Nat) (g3 : Nat) : Act := ⟨((tw_l70 t xs bs ns As cs Ab cb An cn g1 g3) ++ ((tw_l80 xs As cs g1))).toArray, []⟩
def tw_l82 (xs : List Int) (As : Option Addr) (cs : Nat) (g1 : Nat) : List Value := [zz, zz, zz, .pointer (some ⟨g1, 15, none⟩), .pointer (some ⟨g1, 18, none⟩), .slice As xs.length cs, .int .i64 (xs.length : Int), .bool true, .pointer (some ⟨g1, 15, none⟩), zz, zz, zz, zz, zz, zz]
def tw_a82 (t : Th) (xs : List Int) (bs : List S42) (ns : List Int) (As : Option Addr) (cs : Nat) (Ab : Option Addr) (cb : Nat) (An : Option Addr) (cn : Nat) (g1 : Nat) (g3 : Nat) : Act := ⟨((tw_l70 t xs bs ns As cs Ab cb An cn g1 g3) ++ ((tw_l82 xs As cs g1))).toArray, []⟩
def tw_l84 (xs : List Int) (As : Option Addr) (cs : Nat) (g1 : Nat) : List Value := [zz, zz, zz, .pointer (some ⟨g1, 15, none⟩), .pointer (some ⟨g1, 18, none⟩), .slice As xs.length cs, .int .i64 (xs.length : Int), .bool true, .pointer (some ⟨g1, 15, none⟩), .pointer (some ⟨g1, 18, none⟩), zz, zz, zz, zz, zz]
def tw_a84 (t : Th) (xs : List Int) (bs : List S42) (ns : List Int) (As : Option Addr) (cs : Nat) (Ab : Option Addr) (cb : Nat) (An : Option Addr) (cn : Nat) (g1 : Nat) (g3 : Nat) : Act := ⟨((tw_l70 t xs bs ns As cs Ab cb An cn g1 g3) ++ ((tw_l84 xs As cs g1))).toArray, []⟩
def tw_l86 (xs : List Int) (As : Option Addr) (cs : Nat) (g1 : Nat) : List Value := [zz, zz, zz, .pointer (some ⟨g1, 15, none⟩), .pointer (some ⟨g1, 18, none⟩), .slice As xs.length cs, .int .i64 (xs.length : Int), .bool true, .pointer (some ⟨g1, 15, none⟩), .pointer (some ⟨g1, 18, none⟩), .slice As xs.length cs, zz, zz, zz, zz]
def tw_a86 (t : Th) (xs : List Int) (bs : List S42) (ns : List Int) (As : Option Addr) (cs : Nat) (Ab : Option Addr) (cb : Nat) (An : Option Addr) (cn : Nat) (g1 : Nat) (g3 : Nat) : Act := ⟨((tw_l70 t xs bs ns As cs Ab cb An cn g1 g3) ++ ((tw_l86 xs As cs g1))).toArray, []⟩
def tw_l88 (xs : List Int) (As : Option Addr) (cs : Nat) (g1 : Nat) : List Value := [zz, zz, zz, .pointer (some ⟨g1, 15, none⟩), .pointer (some ⟨g1, 18, none⟩), .slice As xs.length cs, .int .i64 (xs.length : Int), .bool true, .pointer (some ⟨g1, 15, none⟩), .pointer (some ⟨g1, 18, none⟩), .slice As xs.length cs, .slice As 12 cs, zz, zz, zz]
def tw_a88 (t : Th) (xs : List Int) (bs : List S42) (ns : List Int) (As : Option Addr) (cs : Nat) (Ab : Option Addr) (cb : Nat) (An : Option Addr) (cn : Nat) (g1 : Nat) (g3 : Nat) : Act := ⟨((tw_l70 t xs bs ns As cs Ab cb An cn g1 g3) ++ ((tw_l88 xs As cs g1))).toArray, []⟩
def tw_l90 (xs : List Int) (As : Option Addr) (cs : Nat) (g1 : Nat) : List Value := [zz, zz, zz, .pointer (some ⟨g1, 15, none⟩), .pointer (some ⟨g1, 18, none⟩), .slice As xs.length cs, .int .i64 (xs.length : Int), .bool true, .pointer (some ⟨g1, 15, none⟩), .pointer (some ⟨g1, 18, none⟩), .slice As xs.length cs, .slice As 12 cs, .pointer (some ⟨g1, 15, none⟩), zz, zz]
def tw_a90 (t : Th) (xs : List Int) (bs : List S42) (ns : List Int) (As : Option Addr) (cs : Nat) (Ab : Option Addr) (cb : Nat) (An : Option Addr) (cn : Nat) (g1 : Nat) (g3 : Nat) : Act := ⟨((tw_l70 t xs bs ns As cs Ab cb An cn g1 g3) ++ ((tw_l90 xs As cs g1))).toArray, []⟩
def tw_l92 (xs : List Int) (As : Option Addr) (cs : Nat) (g1 : Nat) : List Value := [zz, zz, zz, .pointer (some ⟨g1, 15, none⟩), .pointer (some ⟨g1, 18, none⟩), .slice As xs.length cs, .int .i64 (xs.length : Int), .bool true, .pointer (some ⟨g1, 15, none⟩), .pointer (some ⟨g1, 18, none⟩), .slice As xs.length cs, .slice As 12 cs, .pointer (some ⟨g1, 15, none⟩), .pointer (some ⟨g1, 18, none⟩), zz]
def tw_a92 (t : Th) (xs : List Int) (bs : List S42) (ns : List Int) (As : Option Addr) (cs : Nat) (Ab : Option Addr) (cb : Nat) (An : Option Addr) (cn : Nat) (g1 : Nat) (g3 : Nat) : Act := ⟨((tw_l70 t xs bs ns As cs Ab cb An cn g1 g3) ++ ((tw_l92 xs As cs g1))).toArray, []⟩
def tw_c5 (t : Th) (ns : List Int) (As : Option Addr) (cs : Nat) (Ab : Option Addr) (cb : Nat) (An : Option Addr) (cn : Nat) : Array Value := #[.int .i64 t.pc, .int .i64 t.fu, .int .i64 t.st, .int .i64 (t.R 0), .int .i64 (t.R 1), .int .i64 (t.R 2), .int .i64 (t.R 3), .int .i64 (t.R 4), .int .i64 (t.R 5), .int .i64 (t.R 6), .int .i64 (t.R 7), .int .i64 (t.R 8), .int .i64 (t.R 9), .int .i64 (t.R 10), .int .i64 (t.R 11), .int .i64 t.kd, .int .i64 t.mi, .int .i64 t.mn, .slice As 12 cs, .slice Ab 12 cb, .slice An ns.length cn, .int .i64 t.old]
def tw_l95 (t : Th) (xs : List Int) (ns : List Int) (As : Option Addr) (cs : Nat) (Ab : Option Addr) (cb : Nat) (An : Option Addr) (cn : Nat) (g1 : Nat) : List Value := [zz, zz, zz, .pointer (some ⟨g1, 15, none⟩), .pointer (some ⟨g1, 18, none⟩), .slice As xs.length cs, .int .i64 (xs.length : Int), .bool true, .pointer (some ⟨g1, 15, none⟩), .pointer (some ⟨g1, 18, none⟩), .slice As xs.length cs, .slice As 12 cs, .pointer (some ⟨g1, 15, none⟩), .pointer (some ⟨g1, 18, none⟩), .agg (tw_c5 t ns As cs Ab cb An cn)]
def tw_a95 (t : Th) (xs : List Int) (bs : List S42) (ns : List Int) (As : Option Addr) (cs : Nat) (Ab : Option Addr) (cb : Nat) (An : Option Addr) (cn : Nat) (g1 : Nat) (g3 : Nat) : Act := ⟨((tw_l70 t xs bs ns As cs Ab cb An cn g1 g3) ++ ((tw_l95 t xs ns As cs Ab cb An cn g1))).toArray, []⟩
def tw_l97 (xs : List Int) (As : Option Addr) (cs : Nat) (g1 : Nat) : List Value := [zz, zz, zz, .pointer (some ⟨g1, 15, none⟩), .pointer (some ⟨g1, 18, none⟩), .slice As xs.length cs, .int .i64 (xs.length : Int), .bool false, zz, zz, zz, zz, zz, zz, zz]
def tw_a97 (t : Th) (xs : List Int) (bs : List S42) (ns : List Int) (As : Option Addr) (cs : Nat) (Ab : Option Addr) (cb : Nat) (An : Option Addr) (cn : Nat) (g1 : Nat) (g3 : Nat) : Act := ⟨((tw_l70 t xs bs ns As cs Ab cb An cn g1 g3) ++ ((tw_l97 xs As cs g1))).toArray, []⟩
def tw_l99 (t : Th) (xs : List Int) (ns : List Int) (As : Option Addr) (cs : Nat) (Ab : Option Addr) (cb : Nat) (An : Option Addr) (cn : Nat) (g1 : Nat) : List Value := [zz, zz, zz, .pointer (some ⟨g1, 15, none⟩), .pointer (some ⟨g1, 18, none⟩), .slice As xs.length cs, .int .i64 (xs.length : Int), .bool false, zz, zz, zz, zz, zz, zz, .agg (tw_c2 t xs ns As cs Ab cb An cn)]
def tw_a99 (t : Th) (xs : List Int) (bs : List S42) (ns : List Int) (As : Option Addr) (cs : Nat) (Ab : Option Addr) (cb : Nat) (An : Option Addr) (cn : Nat) (g1 : Nat) (g3 : Nat) : Act := ⟨((tw_l70 t xs bs ns As cs Ab cb An cn g1 g3) ++ ((tw_l99 t xs ns As cs Ab cb An cn g1))).toArray, []⟩
def tw_l101 (t : Th) (xs : List Int) (bs : List S42) (ns : List Int) (As : Option Addr) (cs : Nat) (Ab : Option Addr) (cb : Nat) (An : Option Addr) (cn : Nat) (g1 : Nat) (g3 : Nat) : List Value := [.agg (tw_c0 t xs bs ns As cs Ab cb An cn), .pointer (some ⟨g1, 0, none⟩), .pointer (some ⟨g3, 0, none⟩), .pointer (some ⟨g1, 19, none⟩), .slice Ab bs.length cb, .int .i64 (bs.length : Int), .bool false, zz, zz, zz, zz, zz, zz, zz, zz, zz]
def tw_a101 (t : Th) (xs : List Int) (bs : List S42) (ns : List Int) (As : Option Addr) (cs : Nat) (Ab : Option Addr) (cb : Nat) (An : Option Addr) (cn : Nat) (g1 : Nat) (g3 : Nat) : Act := ⟨((tw_l101 t xs bs ns As cs Ab cb An cn g1 g3) ++ (tw_l2)).toArray, []⟩
def tw_l103 (t : Th) (xs : List Int) (bs : List S42) (ns : List Int) (As : Option Addr) (cs : Nat) (Ab : Option Addr) (cb : Nat) (An : Option Addr) (cn : Nat) (g1 : Nat) (g3 : Nat) : List Value := [.agg (tw_c0 t xs bs ns As cs Ab cb An cn), .pointer (some ⟨g1, 0, none⟩), .pointer (some ⟨g3, 0, none⟩), .pointer (some ⟨g1, 19, none⟩), .slice Ab bs.length cb, .int .i64 (bs.length : Int), .bool false, zz, zz, zz, zz, .pointer (some ⟨g1, 20, none⟩), zz, zz, zz, zz]
def tw_a103 (t : Th) (xs : List Int) (bs : List S42) (ns : List Int) (As : Option Addr) (cs : Nat) (Ab : Option Addr) (cb : Nat) (An : Option Addr) (cn : Nat) (g1 : Nat) (g3 : Nat) : Act := ⟨((tw_l103 t xs bs ns As cs Ab cb An cn g1 g3) ++ (tw_l2)).toArray, []⟩
def tw_l105 (t : Th) (xs : List Int) (bs : List S42) (ns : List Int) (As : Option Addr) (cs : Nat) (Ab : Option Addr) (cb : Nat) (An : Option Addr) (cn : Nat) (g1 : Nat) (g3 : Nat) : List Value := [.agg (tw_c0 t xs bs ns As cs Ab cb An cn), .pointer (some ⟨g1, 0, none⟩), .pointer (some ⟨g3, 0, none⟩), .pointer (some ⟨g1, 19, none⟩), .slice Ab bs.length cb, .int .i64 (bs.length : Int), .bool false, zz, zz, zz, zz, .pointer (some ⟨g1, 20, none⟩), .slice An ns.length cn, zz, zz, zz]
def tw_a105 (t : Th) (xs : List Int) (bs : List S42) (ns : List Int) (As : Option Addr) (cs : Nat) (Ab : Option Addr) (cb : Nat) (An : Option Addr) (cn : Nat) (g1 : Nat) (g3 : Nat) : Act := ⟨((tw_l105 t xs bs ns As cs Ab cb An cn g1 g3) ++ (tw_l2)).toArray, []⟩
def tw_l107 (t : Th) (xs : List Int) (bs : List S42) (ns : List Int) (As : Option Addr) (cs : Nat) (Ab : Option Addr) (cb : Nat) (An : Option Addr) (cn : Nat) (g1 : Nat) (g3 : Nat) : List Value := [.agg (tw_c0 t xs bs ns As cs Ab cb An cn), .pointer (some ⟨g1, 0, none⟩), .pointer (some ⟨g3, 0, none⟩), .pointer (some ⟨g1, 19, none⟩), .slice Ab bs.length cb, .int .i64 (bs.length : Int), .bool false, zz, zz, zz, zz, .pointer (some ⟨g1, 20, none⟩), .slice An ns.length cn, .int .i64 (ns.length : Int), zz, zz]
def tw_a107 (t : Th) (xs : List Int) (bs : List S42) (ns : List Int) (As : Option Addr) (cs : Nat) (Ab : Option Addr) (cb : Nat) (An : Option Addr) (cn : Nat) (g1 : Nat) (g3 : Nat) : Act := ⟨((tw_l107 t xs bs ns As cs Ab cb An cn g1 g3) ++ (tw_l2)).toArray, []⟩
def tw_l109 (t : Th) (xs : List Int) (bs : List S42) (ns : List Int) (As : Option Addr) (cs : Nat) (Ab : Option Addr) (cb : Nat) (An : Option Addr) (cn : Nat) (g1 : Nat) (g3 : Nat) : List Value := [.agg (tw_c0 t xs bs ns As cs Ab cb An cn), .pointer (some ⟨g1, 0, none⟩), .pointer (some ⟨g3, 0, none⟩), .pointer (some ⟨g1, 19, none⟩), .slice Ab bs.length cb, .int .i64 (bs.length : Int), .bool false, zz, zz, zz, zz, .pointer (some ⟨g1, 20, none⟩), .slice An ns.length cn, .int .i64 (ns.length : Int), .bool true, zz]
def tw_a109 (t : Th) (xs : List Int) (bs : List S42) (ns : List Int) (As : Option Addr) (cs : Nat) (Ab : Option Addr) (cb : Nat) (An : Option Addr) (cn : Nat) (g1 : Nat) (g3 : Nat) : Act := ⟨((tw_l109 t xs bs ns As cs Ab cb An cn g1 g3) ++ (tw_l2)).toArray, []⟩
def tw_l111 (t : Th) (xs : List Int) (bs : List S42) (ns : List Int) (As : Option Addr) (cs : Nat) (Ab : Option Addr) (cb : Nat) (An : Option Addr) (cn : Nat) (g1 : Nat) (g3 : Nat) : List Value := [.agg (tw_c0 t xs bs ns As cs Ab cb An cn), .pointer (some ⟨g1, 0, none⟩), .pointer (some ⟨g3, 0, none⟩), .pointer (some ⟨g1, 19, none⟩), .slice Ab bs.length cb, .int .i64 (bs.length : Int), .bool false, zz, zz, zz, zz, .pointer (some ⟨g1, 20, none⟩), .slice An ns.length cn, .int .i64 (ns.length : Int), .bool true, .pointer (some ⟨g1, 20, none⟩)]
def tw_a111 (t : Th) (xs : List Int) (bs : List S42) (ns : List Int) (As : Option Addr) (cs : Nat) (Ab : Option Addr) (cb : Nat) (An : Option Addr) (cn : Nat) (g1 : Nat) (g3 : Nat) : Act := ⟨((tw_l111 t xs bs ns As cs Ab cb An cn g1 g3) ++ (tw_l2)).toArray, []⟩
def tw_a113 (t : Th) (xs : List Int) (bs : List S42) (ns : List Int) (As : Option Addr) (cs : Nat) (Ab : Option Addr) (cb : Nat) (An : Option Addr) (cn : Nat) (g1 : Nat) (g3 : Nat) : Act := ⟨((tw_l111 t xs bs ns As cs Ab cb An cn g1 g3) ++ ((tw_l34 ns An cn))).toArray, []⟩
def tw_a114 (t : Th) (xs : List Int) (bs : List S42) (ns : List Int) (As : Option Addr) (cs : Nat) (Ab : Option Addr) (cb : Nat) (An : Option Addr) (cn : Nat) (g1 : Nat) (g3 : Nat) : Act := ⟨((tw_l111 t xs bs ns As cs Ab cb An cn g1 g3) ++ ((tw_l36 ns An cn))).toArray, []⟩
def tw_a115 (t : Th) (xs : List Int) (bs : List S42) (ns : List Int) (As : Option Addr) (cs : Nat) (Ab : Option Addr) (cb : Nat) (An : Option Addr) (cn : Nat) (g1 : Nat) (g3 : Nat) : Act := ⟨((tw_l111 t xs bs ns As cs Ab cb An cn g1 g3) ++ ((tw_l38 ns An cn g1))).toArray, []⟩
def tw_c6 (t : Th) (xs : List Int) (bs : List S42) (As : Option Addr) (cs : Nat) (Ab : Option Addr) (cb : Nat) (An : Option Addr) (cn : Nat) : Array Value := #[.int .i64 t.pc, .int .i64 t.fu, .int .i64 t.st, .int .i64 (t.R 0), .int .i64 (t.R 1), .int .i64 (t.R 2), .int .i64 (t.R 3), .int .i64 (t.R 4), .int .i64 (t.R 5), .int .i64 (t.R 6), .int .i64 (t.R 7), .int .i64 (t.R 8), .int .i64 (t.R 9), .int .i64 (t.R 10), .int .i64 (t.R 11), .int .i64 t.kd, .int .i64 t.mi, .int .i64 t.mn, .slice As xs.length cs, .slice Ab bs.length cb, .slice An 8 cn, .int .i64 t.old]
def tw_a117 (t : Th) (xs : List Int) (bs : List S42) (ns : List Int) (As : Option Addr) (cs : Nat) (Ab : Option Addr) (cb : Nat) (An : Option Addr) (cn : Nat) (g1 : Nat) (g3 : Nat) : Act := ⟨((tw_l111 t xs bs ns As cs Ab cb An cn g1 g3) ++ ((tw_l41 ns An cn g1))).toArray, []⟩
def tw_a118 (t : Th) (xs : List Int) (bs : List S42) (ns : List Int) (As : Option Addr) (cs : Nat) (Ab : Option Addr) (cb : Nat) (An : Option Addr) (cn : Nat) (g1 : Nat) (g3 : Nat) : Act := ⟨((tw_l111 t xs bs ns As cs Ab cb An cn g1 g3) ++ ((tw_l43 ns An cn g1))).toArray, []⟩
def tw_a119 (t : Th) (xs : List Int) (bs : List S42) (ns : List Int) (As : Option Addr) (cs : Nat) (Ab : Option Addr) (cb : Nat) (An : Option Addr) (cn : Nat) (g1 : Nat) (g3 : Nat) : Act := ⟨((tw_l111 t xs bs ns As cs Ab cb An cn g1 g3) ++ ((tw_l45 xs ns As cs An cn g1))).toArray, []⟩
def tw_a120 (t : Th) (xs : List Int) (bs : List S42) (ns : List Int) (As : Option Addr) (cs : Nat) (Ab : Option Addr) (cb : Nat) (An : Option Addr) (cn : Nat) (g1 : Nat) (g3 : Nat) : Act := ⟨((tw_l111 t xs bs ns As cs Ab cb An cn g1 g3) ++ ((tw_l47 xs ns As cs An cn g1))).toArray, []⟩
def tw_a121 (t : Th) (xs : List Int) (bs : List S42) (ns : List Int) (As : Option Addr) (cs : Nat) (Ab : Option Addr) (cb : Nat) (An : Option Addr) (cn : Nat) (g1 : Nat) (g3 : Nat) : Act := ⟨((tw_l111 t xs bs ns As cs Ab cb An cn g1 g3) ++ ((tw_l49 xs ns As cs An cn g1))).toArray, []⟩
def tw_a122 (t : Th) (xs : List Int) (bs : List S42) (ns : List Int) (As : Option Addr) (cs : Nat) (Ab : Option Addr) (cb : Nat) (An : Option Addr) (cn : Nat) (g1 : Nat) (g3 : Nat) : Act := ⟨((tw_l111 t xs bs ns As cs Ab cb An cn g1 g3) ++ ((tw_l51 xs ns As cs An cn g1))).toArray, []⟩
def tw_a123 (t : Th) (xs : List Int) (bs : List S42) (ns : List Int) (As : Option Addr) (cs : Nat) (Ab : Option Addr) (cb : Nat) (An : Option Addr) (cn : Nat) (g1 : Nat) (g3 : Nat) : Act := ⟨((tw_l111 t xs bs ns As cs Ab cb An cn g1 g3) ++ ((tw_l53 xs ns As cs An cn g1))).toArray, []⟩
def tw_a124 (t : Th) (xs : List Int) (bs : List S42) (ns : List Int) (As : Option Addr) (cs : Nat) (Ab : Option Addr) (cb : Nat) (An : Option Addr) (cn : Nat) (g1 : Nat) (g3 : Nat) : Act := ⟨((tw_l111 t xs bs ns As cs Ab cb An cn g1 g3) ++ ((tw_l55 xs ns As cs An cn g1))).toArray, []⟩
def tw_a125 (t : Th) (xs : List Int) (bs : List S42) (ns : List Int) (As : Option Addr) (cs : Nat) (Ab : Option Addr) (cb : Nat) (An : Option Addr) (cn : Nat) (g1 : Nat) (g3 : Nat) : Act := ⟨((tw_l111 t xs bs ns As cs Ab cb An cn g1 g3) ++ ((tw_l57 xs ns As cs An cn g1))).toArray, []⟩
def tw_a126 (t : Th) (xs : List Int) (bs : List S42) (ns : List Int) (As : Option Addr) (cs : Nat) (Ab : Option Addr) (cb : Nat) (An : Option Addr) (cn : Nat) (g1 : Nat) (g3 : Nat) : Act := ⟨((tw_l111 t xs bs ns As cs Ab cb An cn g1 g3) ++ ((tw_l59 xs ns As cs An cn g1))).toArray, []⟩
def tw_a127 (t : Th) (xs : List Int) (bs : List S42) (ns : List Int) (As : Option Addr) (cs : Nat) (Ab : Option Addr) (cb : Nat) (An : Option Addr) (cn : Nat) (g1 : Nat) (g3 : Nat) : Act := ⟨((tw_l111 t xs bs ns As cs Ab cb An cn g1 g3) ++ ((tw_l61 xs ns As cs An cn g1))).toArray, []⟩
def tw_c7 (t : Th) (bs : List S42) (As : Option Addr) (cs : Nat) (Ab : Option Addr) (cb : Nat) (An : Option Addr) (cn : Nat) : Array Value := #[.int .i64 t.pc, .int .i64 t.fu, .int .i64 t.st, .int .i64 (t.R 0), .int .i64 (t.R 1), .int .i64 (t.R 2), .int .i64 (t.R 3), .int .i64 (t.R 4), .int .i64 (t.R 5), .int .i64 (t.R 6), .int .i64 (t.R 7), .int .i64 (t.R 8), .int .i64 (t.R 9), .int .i64 (t.R 10), .int .i64 (t.R 11), .int .i64 t.kd, .int .i64 t.mi, .int .i64 t.mn, .slice As 12 cs, .slice Ab bs.length cb, .slice An 8 cn, .int .i64 t.old]
def tw_l129 (t : Th) (xs : List Int) (bs : List S42) (ns : List Int) (As : Option Addr) (cs : Nat) (Ab : Option Addr) (cb : Nat) (An : Option Addr) (cn : Nat) (g1 : Nat) : List Value := [.slice An ns.length cn, .slice An 8 cn, .pointer (some ⟨g1, 20, none⟩), .pointer (some ⟨g1, 15, none⟩), .pointer (some ⟨g1, 18, none⟩), .slice As xs.length cs, .int .i64 (xs.length : Int), .bool true, .pointer (some ⟨g1, 15, none⟩), .pointer (some ⟨g1, 18, none⟩), .slice As xs.length cs, .slice As 12 cs, .pointer (some ⟨g1, 15, none⟩), .pointer (some ⟨g1, 18, none⟩), .agg (tw_c7 t bs As cs Ab cb An cn)]
def tw_a129 (t : Th) (xs : List Int) (bs : List S42) (ns : List Int) (As : Option Addr) (cs : Nat) (Ab : Option Addr) (cb : Nat) (An : Option Addr) (cn : Nat) (g1 : Nat) (g3 : Nat) : Act := ⟨((tw_l111 t xs bs ns As cs Ab cb An cn g1 g3) ++ ((tw_l129 t xs bs ns As cs Ab cb An cn g1))).toArray, []⟩
def tw_a131 (t : Th) (xs : List Int) (bs : List S42) (ns : List Int) (As : Option Addr) (cs : Nat) (Ab : Option Addr) (cb : Nat) (An : Option Addr) (cn : Nat) (g1 : Nat) (g3 : Nat) : Act := ⟨((tw_l111 t xs bs ns As cs Ab cb An cn g1 g3) ++ ((tw_l66 xs ns As cs An cn g1))).toArray, []⟩
def tw_l132 (t : Th) (xs : List Int) (bs : List S42) (ns : List Int) (As : Option Addr) (cs : Nat) (Ab : Option Addr) (cb : Nat) (An : Option Addr) (cn : Nat) (g1 : Nat) : List Value := [.slice An ns.length cn, .slice An 8 cn, .pointer (some ⟨g1, 20, none⟩), .pointer (some ⟨g1, 15, none⟩), .pointer (some ⟨g1, 18, none⟩), .slice As xs.length cs, .int .i64 (xs.length : Int), .bool false, zz, zz, zz, zz, zz, zz, .agg (tw_c6 t xs bs As cs Ab cb An cn)]
def tw_a132 (t : Th) (xs : List Int) (bs : List S42) (ns : List Int) (As : Option Addr) (cs : Nat) (Ab : Option Addr) (cb : Nat) (An : Option Addr) (cn : Nat) (g1 : Nat) (g3 : Nat) : Act := ⟨((tw_l111 t xs bs ns As cs Ab cb An cn g1 g3) ++ ((tw_l132 t xs bs ns As cs Ab cb An cn g1))).toArray, []⟩
def tw_l134 (t : Th) (xs : List Int) (bs : List S42) (ns : List Int) (As : Option Addr) (cs : Nat) (Ab : Option Addr) (cb : Nat) (An : Option Addr) (cn : Nat) (g1 : Nat) (g3 : Nat) : List Value := [.agg (tw_c0 t xs bs ns As cs Ab cb An cn), .pointer (some ⟨g1, 0, none⟩), .pointer (some ⟨g3, 0, none⟩), .pointer (some ⟨g1, 19, none⟩), .slice Ab bs.length cb, .int .i64 (bs.length : Int), .bool false, zz, zz, zz, zz, .pointer (some ⟨g1, 20, none⟩), .slice An ns.length cn, .int .i64 (ns.length : Int), .bool false, zz]
def tw_a134 (t : Th) (xs : List Int) (bs : List S42) (ns : List Int) (As : Option Addr) (cs : Nat) (Ab : Option Addr) (cb : Nat) (An : Option Addr) (cn : Nat) (g1 : Nat) (g3 : Nat) : Act := ⟨((tw_l134 t xs bs ns As cs Ab cb An cn g1 g3) ++ (tw_l2)).toArray, []⟩
def tw_a136 (t : Th) (xs : List Int) (bs : List S42) (ns : List Int) (As : Option Addr) (cs : Nat) (Ab : Option Addr) (cb : Nat) (An : Option Addr) (cn : Nat) (g1 : Nat) (g3 : Nat) : Act := ⟨((tw_l134 t xs bs ns As cs Ab cb An cn g1 g3) ++ ((tw_l72 g1))).toArray, []⟩
def tw_a137 (t : Th) (xs : List Int) (bs : List S42) (ns : List Int) (As : Option Addr) (cs : Nat) (Ab : Option Addr) (cb : Nat) (An : Option Addr) (cn : Nat) (g1 : Nat) (g3 : Nat) : Act := ⟨((tw_l134 t xs bs ns As cs Ab cb An cn g1 g3) ++ ((tw_l74 g1))).toArray, []⟩
def tw_a138 (t : Th) (xs : List Int) (bs : List S42) (ns : List Int) (As : Option Addr) (cs : Nat) (Ab : Option Addr) (cb : Nat) (An : Option Addr) (cn : Nat) (g1 : Nat) (g3 : Nat) : Act := ⟨((tw_l134 t xs bs ns As cs Ab cb An cn g1 g3) ++ ((tw_l76 xs As cs g1))).toArray, []⟩
def tw_a139 (t : Th) (xs : List Int) (bs : List S42) (ns : List Int) (As : Option Addr) (cs : Nat) (Ab : Option Addr) (cb : Nat) (An : Option Addr) (cn : Nat) (g1 : Nat) (g3 : Nat) : Act := ⟨((tw_l134 t xs bs ns As cs Ab cb An cn g1 g3) ++ ((tw_l78 xs As cs g1))).toArray, []⟩
def tw_a140 (t : Th) (xs : List Int) (bs : List S42) (ns : List Int) (As : Option Addr) (cs : Nat) (Ab : Option Addr) (cb : Nat) (An : Option Addr) (cn : Nat) (g1 : Nat) (g3 : Nat) : Act := ⟨((tw_l134 t xs bs ns As cs Ab cb An cn g1 g3) ++ ((tw_l80 xs As cs g1))).toArray, []⟩
def tw_a141 (t : Th) (xs : List Int) (bs : List S42) (ns : List Int) (As : Option Addr) (cs : Nat) (Ab : Option Addr) (cb : Nat) (An : Option Addr) (cn : Nat) (g1 : Nat) (g3 : Nat) : Act := ⟨((tw_l134 t xs bs ns As cs Ab cb An cn g1 g3) ++ ((tw_l82 xs As cs g1))).toArray, []⟩
def tw_a142 (t : Th) (xs : List Int) (bs : List S42) (ns : List Int) (As : Option Addr) (cs : Nat) (Ab : Option Addr) (cb : Nat) (An : Option Addr) (cn : Nat) (g1 : Nat) (g3 : Nat) : Act := ⟨((tw_l134 t xs bs ns As cs Ab cb An cn g1 g3) ++ ((tw_l84 xs As cs g1))).toArray, []⟩
def tw_a143 (t : Th) (xs : List Int) (bs : List S42) (ns : List Int) (As : Option Addr) (cs : Nat) (Ab : Option Addr) (cb : Nat) (An : Option Addr) (cn : Nat) (g1 : Nat) (g3 : Nat) : Act := ⟨((tw_l134 t xs bs ns As cs Ab cb An cn g1 g3) ++ ((tw_l86 xs As cs g1))).toArray, []⟩
def tw_a144 (t : Th) (xs : List Int) (bs : List S42) (ns : List Int) (As : Option Addr) (cs : Nat) (Ab : Option Addr) (cb : Nat) (An : Option Addr) (cn : Nat) (g1 : Nat) (g3 : Nat) : Act := ⟨((tw_l134 t xs bs ns As cs Ab cb An cn g1 g3) ++ ((tw_l88 xs As cs g1))).toArray, []⟩
def tw_a145 (t : Th) (xs : List Int) (bs : List S42) (ns : List Int) (As : Option Addr) (cs : Nat) (Ab : Option Addr) (cb : Nat) (An : Option Addr) (cn : Nat) (g1 : Nat) (g3 : Nat) : Act := ⟨((tw_l134 t xs bs ns As cs Ab cb An cn g1 g3) ++ ((tw_l90 xs As cs g1))).toArray, []⟩
def tw_a146 (t : Th) (xs : List Int) (bs : List S42) (ns : List Int) (As : Option Addr) (cs : Nat) (Ab : Option Addr) (cb : Nat) (An : Option Addr) (cn : Nat) (g1 : Nat) (g3 : Nat) : Act := ⟨((tw_l134 t xs bs ns As cs Ab cb An cn g1 g3) ++ ((tw_l92 xs As cs g1))).toArray, []⟩
def tw_c8 (t : Th) (bs : List S42) (ns : List Int) (As : Option Addr) (cs : Nat) (Ab : Option Addr) (cb : Nat) (An : Option Addr) (cn : Nat) : Array Value := #[.int .i64 t.pc, .int .i64 t.fu, .int .i64 t.st, .int .i64 (t.R 0), .int .i64 (t.R 1), .int .i64 (t.R 2), .int .i64 (t.R 3), .int .i64 (t.R 4), .int .i64 (t.R 5), .int .i64 (t.R 6), .int .i64 (t.R 7), .int .i64 (t.R 8), .int .i64 (t.R 9), .int .i64 (t.R 10), .int .i64 (t.R 11), .int .i64 t.kd, .int .i64 t.mi, .int .i64 t.mn, .slice As 12 cs, .slice Ab bs.length cb, .slice An ns.length cn, .int .i64 t.old]
def tw_l148 (t : Th) (xs : List Int) (bs : List S42) (ns : List Int) (As : Option Addr) (cs : Nat) (Ab : Option Addr) (cb : Nat) (An : Option Addr) (cn : Nat) (g1 : Nat) : List Value := [zz, zz, zz, .pointer (some ⟨g1, 15, none⟩), .pointer (some ⟨g1, 18, none⟩), .slice As xs.length cs, .int .i64 (xs.length : Int), .bool true, .pointer (some ⟨g1, 15, none⟩), .pointer (some ⟨g1, 18, none⟩), .slice As xs.length cs, .slice As 12 cs, .pointer (some ⟨g1, 15, none⟩), .pointer (some ⟨g1, 18, none⟩), .agg (tw_c8 t bs ns As cs Ab cb An cn)]
def tw_a148 (t : Th) (xs : List Int) (bs : List S42) (ns : List Int) (As : Option Addr) (cs : Nat) (Ab : Option Addr) (cb : Nat) (An : Option Addr) (cn : Nat) (g1 : Nat) (g3 : Nat) : Act := ⟨((tw_l134 t xs bs ns As cs Ab cb An cn g1 g3) ++ ((tw_l148 t xs bs ns As cs Ab cb An cn g1))).toArray, []⟩
def tw_a150 (t : Th) (xs : List Int) (bs : List S42) (ns : List Int) (As : Option Addr) (cs : Nat) (Ab : Option Addr) (cb : Nat) (An : Option Addr) (cn : Nat) (g1 : Nat) (g3 : Nat) : Act := ⟨((tw_l134 t xs bs ns As cs Ab cb An cn g1 g3) ++ ((tw_l97 xs As cs g1))).toArray, []⟩
def tw_l151 (t : Th) (xs : List Int) (bs : List S42) (ns : List Int) (As : Option Addr) (cs : Nat) (Ab : Option Addr) (cb : Nat) (An : Option Addr) (cn : Nat) (g1 : Nat) : List Value := [zz, zz, zz, .pointer (some ⟨g1, 15, none⟩), .pointer (some ⟨g1, 18, none⟩), .slice As xs.length cs, .int .i64 (xs.length : Int), .bool false, zz, zz, zz, zz, zz, zz, .agg (tw_c0 t xs bs ns As cs Ab cb An cn)]
def tw_a151 (t : Th) (xs : List Int) (bs : List S42) (ns : List Int) (As : Option Addr) (cs : Nat) (Ab : Option Addr) (cb : Nat) (An : Option Addr) (cn : Nat) (g1 : Nat) (g3 : Nat) : Act := ⟨((tw_l134 t xs bs ns As cs Ab cb An cn g1 g3) ++ ((tw_l151 t xs bs ns As cs Ab cb An cn g1))).toArray, []⟩
set_option maxHeartbeats 8000000 in
set_option maxRecDepth 100000 in
theorem th_Few {w : World} {t : Th} {xs : List Int} {bs : List S42} {ns : List Int} {As : Option Addr} {cs : Nat} {Ab : Option Addr} {cb : Nat} {An : Option Addr} {cn : Nat} (hrc : xs.length ≤ cs ∧ bs.length ≤ cb ∧ ns.length ≤ cn) : Calls Try.prog 10 #[.agg (t.rows (.slice As xs.length cs) (.slice Ab bs.length cb) (.slice An ns.length cn)).cells] w fun e w' => e = .returned (.agg (t.rows (.slice As (xs.take 12).length cs) (.slice Ab (bs.take 12).length cb) (.slice An (ns.take 8).length cn)).cells) ∧ Below w.heap.size w w' := by
  refine calls_of_wp Try.func10 rfl ?_
  have hW := Ws.nil w
  refine wp_seq ?_
  refine wp_region_list ?_
  obtain ⟨g1, W2, hr, hW, hbb, hge⟩ := hW.mk1 (P := Try.prog) (s := Instr.box 32 (.agg (tw_c0 t xs bs ns As cs Ab cb An cn))) (tw_c0 t xs bs ns As cs Ab cb An cn) 32 (by kernel_rfl)
  refine se (a' := (tw_a1 t xs bs ns As cs Ab cb An cn g1)) (.pointer (some ⟨g1, 0, none⟩)) (Eq.trans (b := (do pure (Next.value (← Instr.box 32 (.agg (tw_c0 t xs bs ns As cs Ab cb An cn)))) : Sem Next).run Try.prog w) (by kernel_rfl) (st_val hr)) ?_
  obtain ⟨g3, W4, hr, hW, hbb, hge⟩ := hW.mk1 (P := Try.prog) (s := Instr.alloc 32 true (.tuple #[])) tw_c1 32 (by kernel_rfl)
  refine se (a' := (tw_a5 t xs bs ns As cs Ab cb An cn g1 g3)) (.pointer (some ⟨g3, 0, none⟩)) (Eq.trans (b := (do pure (Next.value (← Instr.alloc 32 true (.tuple #[]))) : Sem Next).run Try.prog W2) (by kernel_rfl) (st_val hr)) ?_
  refine wpList_nil ?_
  refine wp_seq ?_
  refine wp_seq ?_
  by_cases hb : (bs.length : Int) > 12
  · skip
    refine wp_region_list ?_
    refine sk (a' := (tw_a7 t xs bs ns As cs Ab cb An cn g1 g3)) (.pointer (some ⟨g1, 19, none⟩)) ?_
    refine se (a' := (tw_a9 t xs bs ns As cs Ab cb An cn g1 g3)) (.slice Ab bs.length cb) (ev1 hW 1 19 Try.underlying30) ?_
    refine sk (a' := (tw_a11 t xs bs ns As cs Ab cb An cn g1 g3)) (.int .i64 (bs.length : Int)) ?_
    refine se (a' := (tw_a13 t xs bs ns As cs Ab cb An cn g1 g3)) (.bool true) (Eq.trans (b := .ok (.value (.bool (decide (((bs.length : Int) : Int) > 12)))) W4) (by kernel_rfl) (st_ok (decide_eq_true (by omega)))) ?_
    refine wpList_nil ?_
    refine wp_cond (t := true) (by kernel_rfl) ?_
    refine wp_region_list ?_
    refine sk (a' := (tw_a15 t xs bs ns As cs Ab cb An cn g1 g3)) (.pointer (some ⟨g1, 19, none⟩)) ?_
    refine se (a' := (tw_a17 t xs bs ns As cs Ab cb An cn g1 g3)) (.slice Ab bs.length cb) (ev1 hW 1 19 Try.underlying30) ?_
    refine se (a' := (tw_a19 t xs bs ns As cs Ab cb An cn g1 g3)) (.slice Ab 12 cb) (Eq.trans (b := (do pure (Next.value (← Instr.sliceAt 30 (.slice Ab bs.length cb) none (some (.int .i64 ((12 : Nat) : Int))) none)) : Sem Next).run Try.prog W4) (by kernel_rfl) (st_val (sl_cut Try.underlying30 (Classical.choose_spec inf42) 12 (by omega) hrc.2.1 W4))) ?_
    refine sk (a' := (tw_a21 t xs bs ns As cs Ab cb An cn g1 g3)) (.pointer (some ⟨g1, 19, none⟩)) ?_
    obtain ⟨W5, hr, hW, hF⟩ := hW.store1 (P := Try.prog) (o := 19) (cs' := (tw_c2 t xs ns As cs Ab cb An cn)) (L' := [(g3, 32, tw_c1), (g1, 32, (tw_c2 t xs ns As cs Ab cb An cn))]) 1 rfl (.slice Ab 12 cb) rfl (Nat.le_of_ble_eq_true rfl) (by rfl) rfl 30 (by kernel_rfl)
    refine st_none (w' := W5) (a' := (tw_a21 t xs bs ns As cs Ab cb An cn g1 g3)) (by kernel_rfl) (Eq.trans (b := (do Instr.storeAt 30 (.pointer (some ⟨g1, 19, none⟩)) (.slice Ab 12 cb); pure Next.skip : Sem Next).run Try.prog W4) (by kernel_rfl) (st_unit hr)) (by kernel_rfl) ?_
    refine wpList_nil ?_
    refine wp_seq ?_
    refine wp_seq ?_
    by_cases hn : (ns.length : Int) > 8
    · skip
      refine wp_region_list ?_
      refine sk (a' := (tw_a24 t xs bs ns As cs Ab cb An cn g1 g3)) (.pointer (some ⟨g1, 20, none⟩)) ?_
      refine se (a' := (tw_a26 t xs bs ns As cs Ab cb An cn g1 g3)) (.slice An ns.length cn) (ev1 hW 1 20 Try.underlying27) ?_
      refine sk (a' := (tw_a28 t xs bs ns As cs Ab cb An cn g1 g3)) (.int .i64 (ns.length : Int)) ?_
      refine se (a' := (tw_a30 t xs bs ns As cs Ab cb An cn g1 g3)) (.bool true) (Eq.trans (b := .ok (.value (.bool (decide (((ns.length : Int) : Int) > 8)))) W5) (by kernel_rfl) (st_ok (decide_eq_true (by omega)))) ?_
      refine wpList_nil ?_
      refine wp_cond (t := true) (by kernel_rfl) ?_
      refine wp_region_list ?_
      refine sk (a' := (tw_a32 t xs bs ns As cs Ab cb An cn g1 g3)) (.pointer (some ⟨g1, 20, none⟩)) ?_
      refine se (a' := (tw_a34 t xs bs ns As cs Ab cb An cn g1 g3)) (.slice An ns.length cn) (ev1 hW 1 20 Try.underlying27) ?_
      refine se (a' := (tw_a36 t xs bs ns As cs Ab cb An cn g1 g3)) (.slice An 8 cn) (Eq.trans (b := (do pure (Next.value (← Instr.sliceAt 27 (.slice An ns.length cn) none (some (.int .i64 ((8 : Nat) : Int))) none)) : Sem Next).run Try.prog W5) (by kernel_rfl) (st_val (sl_cut Try.underlying27 (Classical.choose_spec inf2) 8 (by omega) hrc.2.2 W5))) ?_
      refine sk (a' := (tw_a38 t xs bs ns As cs Ab cb An cn g1 g3)) (.pointer (some ⟨g1, 20, none⟩)) ?_
      obtain ⟨W6, hr, hW, hF⟩ := hW.store1 (P := Try.prog) (o := 20) (cs' := (tw_c3 t xs As cs Ab cb An cn)) (L' := [(g3, 32, tw_c1), (g1, 32, (tw_c3 t xs As cs Ab cb An cn))]) 1 rfl (.slice An 8 cn) rfl (Nat.le_of_ble_eq_true rfl) (by rfl) rfl 27 (by kernel_rfl)
      refine st_none (w' := W6) (a' := (tw_a38 t xs bs ns As cs Ab cb An cn g1 g3)) (by kernel_rfl) (Eq.trans (b := (do Instr.storeAt 27 (.pointer (some ⟨g1, 20, none⟩)) (.slice An 8 cn); pure Next.skip : Sem Next).run Try.prog W5) (by kernel_rfl) (st_unit hr)) (by kernel_rfl) ?_
      refine wpList_nil ?_
      refine wp_seq ?_
      refine wp_seq ?_
      by_cases hx : (xs.length : Int) > 12
      · skip
        refine wp_region_list ?_
        refine sk (a' := (tw_a41 t xs bs ns As cs Ab cb An cn g1 g3)) (.pointer (some ⟨g1, 15, none⟩)) ?_
        refine sk (a' := (tw_a43 t xs bs ns As cs Ab cb An cn g1 g3)) (.pointer (some ⟨g1, 18, none⟩)) ?_
        refine se (a' := (tw_a45 t xs bs ns As cs Ab cb An cn g1 g3)) (.slice As xs.length cs) (ev1 hW 1 18 Try.underlying27) ?_
        refine sk (a' := (tw_a47 t xs bs ns As cs Ab cb An cn g1 g3)) (.int .i64 (xs.length : Int)) ?_
        refine se (a' := (tw_a49 t xs bs ns As cs Ab cb An cn g1 g3)) (.bool true) (Eq.trans (b := .ok (.value (.bool (decide (((xs.length : Int) : Int) > 12)))) W6) (by kernel_rfl) (st_ok (decide_eq_true (by omega)))) ?_
        refine wpList_nil ?_
        refine wp_cond (t := true) (by kernel_rfl) ?_
        refine wp_region_list ?_
        refine sk (a' := (tw_a51 t xs bs ns As cs Ab cb An cn g1 g3)) (.pointer (some ⟨g1, 15, none⟩)) ?_
        refine sk (a' := (tw_a53 t xs bs ns As cs Ab cb An cn g1 g3)) (.pointer (some ⟨g1, 18, none⟩)) ?_
        refine se (a' := (tw_a55 t xs bs ns As cs Ab cb An cn g1 g3)) (.slice As xs.length cs) (ev1 hW 1 18 Try.underlying27) ?_
        refine se (a' := (tw_a57 t xs bs ns As cs Ab cb An cn g1 g3)) (.slice As 12 cs) (Eq.trans (b := (do pure (Next.value (← Instr.sliceAt 27 (.slice As xs.length cs) none (some (.int .i64 ((12 : Nat) : Int))) none)) : Sem Next).run Try.prog W6) (by kernel_rfl) (st_val (sl_cut Try.underlying27 (Classical.choose_spec inf2) 12 (by omega) hrc.1 W6))) ?_
        refine sk (a' := (tw_a59 t xs bs ns As cs Ab cb An cn g1 g3)) (.pointer (some ⟨g1, 15, none⟩)) ?_
        refine sk (a' := (tw_a61 t xs bs ns As cs Ab cb An cn g1 g3)) (.pointer (some ⟨g1, 18, none⟩)) ?_
        obtain ⟨W7, hr, hW, hF⟩ := hW.store1 (P := Try.prog) (o := 18) (cs' := (tw_c4 t As cs Ab cb An cn)) (L' := [(g3, 32, tw_c1), (g1, 32, (tw_c4 t As cs Ab cb An cn))]) 1 rfl (.slice As 12 cs) rfl (Nat.le_of_ble_eq_true rfl) (by rfl) rfl 27 (by kernel_rfl)
        refine st_none (w' := W7) (a' := (tw_a61 t xs bs ns As cs Ab cb An cn g1 g3)) (by kernel_rfl) (Eq.trans (b := (do Instr.storeAt 27 (.pointer (some ⟨g1, 18, none⟩)) (.slice As 12 cs); pure Next.skip : Sem Next).run Try.prog W6) (by kernel_rfl) (st_unit hr)) (by kernel_rfl) ?_
        refine wpList_nil ?_
        refine wp_seq ?_
        refine wp_region_list ?_
        refine se (a' := (tw_a64 t xs bs ns As cs Ab cb An cn g1 g3)) (.agg (tw_c4 t As cs Ab cb An cn)) (evA hW 1 0 Try.underlying32) ?_
        obtain ⟨W8, hr, hW, hF⟩ := hW.storeN (P := Try.prog) (o := 0) (cs' := (tw_c4 t As cs Ab cb An cn)) (L' := [(g3, 32, (tw_c4 t As cs Ab cb An cn)), (g1, 32, (tw_c4 t As cs Ab cb An cn))]) 0 rfl (tw_c4 t As cs Ab cb An cn) (by kernel_rfl) (Nat.le_of_ble_eq_true rfl) (by kernel_rfl) rfl 32 (by kernel_rfl)
        refine st_none (w' := W8) (a' := (tw_a64 t xs bs ns As cs Ab cb An cn g1 g3)) (by kernel_rfl) (Eq.trans (b := (do Instr.storeAt 32 (.pointer (some ⟨g3, 0, none⟩)) (.agg (tw_c4 t As cs Ab cb An cn)); pure Next.skip : Sem Next).run Try.prog W7) (by kernel_rfl) (st_unit hr)) (by kernel_rfl) ?_
        refine wpList_nil ?_
        refine wp_ret ?_
        (try simp only [Exit.then, Exit.inBlock])
        change bodyPost Try.prog Try.f10 _ .ret _ _
        refine bodyPost_ret (results_single rfl (.cell g3 32 _ (0, 0) _ (by kernel_rfl) (hW.blk 0 _ _ _ rfl).1 Try.underlying32 rfl (by kernel_rfl) .nil)) rfl ?_
        have e1 : (xs.take 12).length = 12 := by rw [List.length_take]; omega
        have e2 : (bs.take 12).length = 12 := by rw [List.length_take]; omega
        have e3 : (ns.take 8).length = 8 := by rw [List.length_take]; omega
        rw [e1, e2, e3]
        exact ⟨rfl, hW.below⟩
      · skip
        refine wp_region_list ?_
        refine sk (a' := (tw_a41 t xs bs ns As cs Ab cb An cn g1 g3)) (.pointer (some ⟨g1, 15, none⟩)) ?_
        refine sk (a' := (tw_a43 t xs bs ns As cs Ab cb An cn g1 g3)) (.pointer (some ⟨g1, 18, none⟩)) ?_
        refine se (a' := (tw_a45 t xs bs ns As cs Ab cb An cn g1 g3)) (.slice As xs.length cs) (ev1 hW 1 18 Try.underlying27) ?_
        refine sk (a' := (tw_a47 t xs bs ns As cs Ab cb An cn g1 g3)) (.int .i64 (xs.length : Int)) ?_
        refine se (a' := (tw_a66 t xs bs ns As cs Ab cb An cn g1 g3)) (.bool false) (Eq.trans (b := .ok (.value (.bool (decide (((xs.length : Int) : Int) > 12)))) W6) (by kernel_rfl) (st_ok (decide_eq_false (by omega)))) ?_
        refine wpList_nil ?_
        refine wp_cond (t := false) (by kernel_rfl) ?_
        refine wp_skip ?_
        refine wp_seq ?_
        refine wp_region_list ?_
        refine se (a' := (tw_a68 t xs bs ns As cs Ab cb An cn g1 g3)) (.agg (tw_c3 t xs As cs Ab cb An cn)) (evA hW 1 0 Try.underlying32) ?_
        obtain ⟨W7, hr, hW, hF⟩ := hW.storeN (P := Try.prog) (o := 0) (cs' := (tw_c3 t xs As cs Ab cb An cn)) (L' := [(g3, 32, (tw_c3 t xs As cs Ab cb An cn)), (g1, 32, (tw_c3 t xs As cs Ab cb An cn))]) 0 rfl (tw_c3 t xs As cs Ab cb An cn) (by kernel_rfl) (Nat.le_of_ble_eq_true rfl) (by kernel_rfl) rfl 32 (by kernel_rfl)
        refine st_none (w' := W7) (a' := (tw_a68 t xs bs ns As cs Ab cb An cn g1 g3)) (by kernel_rfl) (Eq.trans (b := (do Instr.storeAt 32 (.pointer (some ⟨g3, 0, none⟩)) (.agg (tw_c3 t xs As cs Ab cb An cn)); pure Next.skip : Sem Next).run Try.prog W6) (by kernel_rfl) (st_unit hr)) (by kernel_rfl) ?_
        refine wpList_nil ?_
        refine wp_ret ?_
        (try simp only [Exit.then, Exit.inBlock])
        change bodyPost Try.prog Try.f10 _ .ret _ _
        refine bodyPost_ret (results_single rfl (.cell g3 32 _ (0, 0) _ (by kernel_rfl) (hW.blk 0 _ _ _ rfl).1 Try.underlying32 rfl (by kernel_rfl) .nil)) rfl ?_
        have e1 : (xs.take 12).length = xs.length := by rw [List.length_take]; omega
        have e2 : (bs.take 12).length = 12 := by rw [List.length_take]; omega
        have e3 : (ns.take 8).length = 8 := by rw [List.length_take]; omega
        rw [e1, e2, e3]
        exact ⟨rfl, hW.below⟩
    · skip
      refine wp_region_list ?_
      refine sk (a' := (tw_a24 t xs bs ns As cs Ab cb An cn g1 g3)) (.pointer (some ⟨g1, 20, none⟩)) ?_
      refine se (a' := (tw_a26 t xs bs ns As cs Ab cb An cn g1 g3)) (.slice An ns.length cn) (ev1 hW 1 20 Try.underlying27) ?_
      refine sk (a' := (tw_a28 t xs bs ns As cs Ab cb An cn g1 g3)) (.int .i64 (ns.length : Int)) ?_
      refine se (a' := (tw_a70 t xs bs ns As cs Ab cb An cn g1 g3)) (.bool false) (Eq.trans (b := .ok (.value (.bool (decide (((ns.length : Int) : Int) > 8)))) W5) (by kernel_rfl) (st_ok (decide_eq_false (by omega)))) ?_
      refine wpList_nil ?_
      refine wp_cond (t := false) (by kernel_rfl) ?_
      refine wp_skip ?_
      refine wp_seq ?_
      refine wp_seq ?_
      by_cases hx : (xs.length : Int) > 12
      · skip
        refine wp_region_list ?_
        refine sk (a' := (tw_a72 t xs bs ns As cs Ab cb An cn g1 g3)) (.pointer (some ⟨g1, 15, none⟩)) ?_
        refine sk (a' := (tw_a74 t xs bs ns As cs Ab cb An cn g1 g3)) (.pointer (some ⟨g1, 18, none⟩)) ?_
        refine se (a' := (tw_a76 t xs bs ns As cs Ab cb An cn g1 g3)) (.slice As xs.length cs) (ev1 hW 1 18 Try.underlying27) ?_
        refine sk (a' := (tw_a78 t xs bs ns As cs Ab cb An cn g1 g3)) (.int .i64 (xs.length : Int)) ?_
        refine se (a' := (tw_a80 t xs bs ns As cs Ab cb An cn g1 g3)) (.bool true) (Eq.trans (b := .ok (.value (.bool (decide (((xs.length : Int) : Int) > 12)))) W5) (by kernel_rfl) (st_ok (decide_eq_true (by omega)))) ?_
        refine wpList_nil ?_
        refine wp_cond (t := true) (by kernel_rfl) ?_
        refine wp_region_list ?_
        refine sk (a' := (tw_a82 t xs bs ns As cs Ab cb An cn g1 g3)) (.pointer (some ⟨g1, 15, none⟩)) ?_
        refine sk (a' := (tw_a84 t xs bs ns As cs Ab cb An cn g1 g3)) (.pointer (some ⟨g1, 18, none⟩)) ?_
        refine se (a' := (tw_a86 t xs bs ns As cs Ab cb An cn g1 g3)) (.slice As xs.length cs) (ev1 hW 1 18 Try.underlying27) ?_
        refine se (a' := (tw_a88 t xs bs ns As cs Ab cb An cn g1 g3)) (.slice As 12 cs) (Eq.trans (b := (do pure (Next.value (← Instr.sliceAt 27 (.slice As xs.length cs) none (some (.int .i64 ((12 : Nat) : Int))) none)) : Sem Next).run Try.prog W5) (by kernel_rfl) (st_val (sl_cut Try.underlying27 (Classical.choose_spec inf2) 12 (by omega) hrc.1 W5))) ?_
        refine sk (a' := (tw_a90 t xs bs ns As cs Ab cb An cn g1 g3)) (.pointer (some ⟨g1, 15, none⟩)) ?_
        refine sk (a' := (tw_a92 t xs bs ns As cs Ab cb An cn g1 g3)) (.pointer (some ⟨g1, 18, none⟩)) ?_
        obtain ⟨W6, hr, hW, hF⟩ := hW.store1 (P := Try.prog) (o := 18) (cs' := (tw_c5 t ns As cs Ab cb An cn)) (L' := [(g3, 32, tw_c1), (g1, 32, (tw_c5 t ns As cs Ab cb An cn))]) 1 rfl (.slice As 12 cs) rfl (Nat.le_of_ble_eq_true rfl) (by rfl) rfl 27 (by kernel_rfl)
        refine st_none (w' := W6) (a' := (tw_a92 t xs bs ns As cs Ab cb An cn g1 g3)) (by kernel_rfl) (Eq.trans (b := (do Instr.storeAt 27 (.pointer (some ⟨g1, 18, none⟩)) (.slice As 12 cs); pure Next.skip : Sem Next).run Try.prog W5) (by kernel_rfl) (st_unit hr)) (by kernel_rfl) ?_
        refine wpList_nil ?_
        refine wp_seq ?_
        refine wp_region_list ?_
        refine se (a' := (tw_a95 t xs bs ns As cs Ab cb An cn g1 g3)) (.agg (tw_c5 t ns As cs Ab cb An cn)) (evA hW 1 0 Try.underlying32) ?_
        obtain ⟨W7, hr, hW, hF⟩ := hW.storeN (P := Try.prog) (o := 0) (cs' := (tw_c5 t ns As cs Ab cb An cn)) (L' := [(g3, 32, (tw_c5 t ns As cs Ab cb An cn)), (g1, 32, (tw_c5 t ns As cs Ab cb An cn))]) 0 rfl (tw_c5 t ns As cs Ab cb An cn) (by kernel_rfl) (Nat.le_of_ble_eq_true rfl) (by kernel_rfl) rfl 32 (by kernel_rfl)
        refine st_none (w' := W7) (a' := (tw_a95 t xs bs ns As cs Ab cb An cn g1 g3)) (by kernel_rfl) (Eq.trans (b := (do Instr.storeAt 32 (.pointer (some ⟨g3, 0, none⟩)) (.agg (tw_c5 t ns As cs Ab cb An cn)); pure Next.skip : Sem Next).run Try.prog W6) (by kernel_rfl) (st_unit hr)) (by kernel_rfl) ?_
        refine wpList_nil ?_
        refine wp_ret ?_
        (try simp only [Exit.then, Exit.inBlock])
        change bodyPost Try.prog Try.f10 _ .ret _ _
        refine bodyPost_ret (results_single rfl (.cell g3 32 _ (0, 0) _ (by kernel_rfl) (hW.blk 0 _ _ _ rfl).1 Try.underlying32 rfl (by kernel_rfl) .nil)) rfl ?_
        have e1 : (xs.take 12).length = 12 := by rw [List.length_take]; omega
        have e2 : (bs.take 12).length = 12 := by rw [List.length_take]; omega
        have e3 : (ns.take 8).length = ns.length := by rw [List.length_take]; omega
        rw [e1, e2, e3]
        exact ⟨rfl, hW.below⟩
      · skip
        refine wp_region_list ?_
        refine sk (a' := (tw_a72 t xs bs ns As cs Ab cb An cn g1 g3)) (.pointer (some ⟨g1, 15, none⟩)) ?_
        refine sk (a' := (tw_a74 t xs bs ns As cs Ab cb An cn g1 g3)) (.pointer (some ⟨g1, 18, none⟩)) ?_
        refine se (a' := (tw_a76 t xs bs ns As cs Ab cb An cn g1 g3)) (.slice As xs.length cs) (ev1 hW 1 18 Try.underlying27) ?_
        refine sk (a' := (tw_a78 t xs bs ns As cs Ab cb An cn g1 g3)) (.int .i64 (xs.length : Int)) ?_
        refine se (a' := (tw_a97 t xs bs ns As cs Ab cb An cn g1 g3)) (.bool false) (Eq.trans (b := .ok (.value (.bool (decide (((xs.length : Int) : Int) > 12)))) W5) (by kernel_rfl) (st_ok (decide_eq_false (by omega)))) ?_
        refine wpList_nil ?_
        refine wp_cond (t := false) (by kernel_rfl) ?_
        refine wp_skip ?_
        refine wp_seq ?_
        refine wp_region_list ?_
        refine se (a' := (tw_a99 t xs bs ns As cs Ab cb An cn g1 g3)) (.agg (tw_c2 t xs ns As cs Ab cb An cn)) (evA hW 1 0 Try.underlying32) ?_
        obtain ⟨W6, hr, hW, hF⟩ := hW.storeN (P := Try.prog) (o := 0) (cs' := (tw_c2 t xs ns As cs Ab cb An cn)) (L' := [(g3, 32, (tw_c2 t xs ns As cs Ab cb An cn)), (g1, 32, (tw_c2 t xs ns As cs Ab cb An cn))]) 0 rfl (tw_c2 t xs ns As cs Ab cb An cn) (by kernel_rfl) (Nat.le_of_ble_eq_true rfl) (by kernel_rfl) rfl 32 (by kernel_rfl)
        refine st_none (w' := W6) (a' := (tw_a99 t xs bs ns As cs Ab cb An cn g1 g3)) (by kernel_rfl) (Eq.trans (b := (do Instr.storeAt 32 (.pointer (some ⟨g3, 0, none⟩)) (.agg (tw_c2 t xs ns As cs Ab cb An cn)); pure Next.skip : Sem Next).run Try.prog W5) (by kernel_rfl) (st_unit hr)) (by kernel_rfl) ?_
        refine wpList_nil ?_
        refine wp_ret ?_
        (try simp only [Exit.then, Exit.inBlock])
        change bodyPost Try.prog Try.f10 _ .ret _ _
        refine bodyPost_ret (results_single rfl (.cell g3 32 _ (0, 0) _ (by kernel_rfl) (hW.blk 0 _ _ _ rfl).1 Try.underlying32 rfl (by kernel_rfl) .nil)) rfl ?_
        have e1 : (xs.take 12).length = xs.length := by rw [List.length_take]; omega
        have e2 : (bs.take 12).length = 12 := by rw [List.length_take]; omega
        have e3 : (ns.take 8).length = ns.length := by rw [List.length_take]; omega
        rw [e1, e2, e3]
        exact ⟨rfl, hW.below⟩
  · skip
    refine wp_region_list ?_
    refine sk (a' := (tw_a7 t xs bs ns As cs Ab cb An cn g1 g3)) (.pointer (some ⟨g1, 19, none⟩)) ?_
    refine se (a' := (tw_a9 t xs bs ns As cs Ab cb An cn g1 g3)) (.slice Ab bs.length cb) (ev1 hW 1 19 Try.underlying30) ?_
    refine sk (a' := (tw_a11 t xs bs ns As cs Ab cb An cn g1 g3)) (.int .i64 (bs.length : Int)) ?_
    refine se (a' := (tw_a101 t xs bs ns As cs Ab cb An cn g1 g3)) (.bool false) (Eq.trans (b := .ok (.value (.bool (decide (((bs.length : Int) : Int) > 12)))) W4) (by kernel_rfl) (st_ok (decide_eq_false (by omega)))) ?_
    refine wpList_nil ?_
    refine wp_cond (t := false) (by kernel_rfl) ?_
    refine wp_skip ?_
    refine wp_seq ?_
    refine wp_seq ?_
    by_cases hn : (ns.length : Int) > 8
    · skip
      refine wp_region_list ?_
      refine sk (a' := (tw_a103 t xs bs ns As cs Ab cb An cn g1 g3)) (.pointer (some ⟨g1, 20, none⟩)) ?_
      refine se (a' := (tw_a105 t xs bs ns As cs Ab cb An cn g1 g3)) (.slice An ns.length cn) (ev1 hW 1 20 Try.underlying27) ?_
      refine sk (a' := (tw_a107 t xs bs ns As cs Ab cb An cn g1 g3)) (.int .i64 (ns.length : Int)) ?_
      refine se (a' := (tw_a109 t xs bs ns As cs Ab cb An cn g1 g3)) (.bool true) (Eq.trans (b := .ok (.value (.bool (decide (((ns.length : Int) : Int) > 8)))) W4) (by kernel_rfl) (st_ok (decide_eq_true (by omega)))) ?_
      refine wpList_nil ?_
      refine wp_cond (t := true) (by kernel_rfl) ?_
      refine wp_region_list ?_
      refine sk (a' := (tw_a111 t xs bs ns As cs Ab cb An cn g1 g3)) (.pointer (some ⟨g1, 20, none⟩)) ?_
      refine se (a' := (tw_a113 t xs bs ns As cs Ab cb An cn g1 g3)) (.slice An ns.length cn) (ev1 hW 1 20 Try.underlying27) ?_
      refine se (a' := (tw_a114 t xs bs ns As cs Ab cb An cn g1 g3)) (.slice An 8 cn) (Eq.trans (b := (do pure (Next.value (← Instr.sliceAt 27 (.slice An ns.length cn) none (some (.int .i64 ((8 : Nat) : Int))) none)) : Sem Next).run Try.prog W4) (by kernel_rfl) (st_val (sl_cut Try.underlying27 (Classical.choose_spec inf2) 8 (by omega) hrc.2.2 W4))) ?_
      refine sk (a' := (tw_a115 t xs bs ns As cs Ab cb An cn g1 g3)) (.pointer (some ⟨g1, 20, none⟩)) ?_
      obtain ⟨W5, hr, hW, hF⟩ := hW.store1 (P := Try.prog) (o := 20) (cs' := (tw_c6 t xs bs As cs Ab cb An cn)) (L' := [(g3, 32, tw_c1), (g1, 32, (tw_c6 t xs bs As cs Ab cb An cn))]) 1 rfl (.slice An 8 cn) rfl (Nat.le_of_ble_eq_true rfl) (by rfl) rfl 27 (by kernel_rfl)
      refine st_none (w' := W5) (a' := (tw_a115 t xs bs ns As cs Ab cb An cn g1 g3)) (by kernel_rfl) (Eq.trans (b := (do Instr.storeAt 27 (.pointer (some ⟨g1, 20, none⟩)) (.slice An 8 cn); pure Next.skip : Sem Next).run Try.prog W4) (by kernel_rfl) (st_unit hr)) (by kernel_rfl) ?_
      refine wpList_nil ?_
      refine wp_seq ?_
      refine wp_seq ?_
      by_cases hx : (xs.length : Int) > 12
      · skip
        refine wp_region_list ?_
        refine sk (a' := (tw_a117 t xs bs ns As cs Ab cb An cn g1 g3)) (.pointer (some ⟨g1, 15, none⟩)) ?_
        refine sk (a' := (tw_a118 t xs bs ns As cs Ab cb An cn g1 g3)) (.pointer (some ⟨g1, 18, none⟩)) ?_
        refine se (a' := (tw_a119 t xs bs ns As cs Ab cb An cn g1 g3)) (.slice As xs.length cs) (ev1 hW 1 18 Try.underlying27) ?_
        refine sk (a' := (tw_a120 t xs bs ns As cs Ab cb An cn g1 g3)) (.int .i64 (xs.length : Int)) ?_
        refine se (a' := (tw_a121 t xs bs ns As cs Ab cb An cn g1 g3)) (.bool true) (Eq.trans (b := .ok (.value (.bool (decide (((xs.length : Int) : Int) > 12)))) W5) (by kernel_rfl) (st_ok (decide_eq_true (by omega)))) ?_
        refine wpList_nil ?_
        refine wp_cond (t := true) (by kernel_rfl) ?_
        refine wp_region_list ?_
        refine sk (a' := (tw_a122 t xs bs ns As cs Ab cb An cn g1 g3)) (.pointer (some ⟨g1, 15, none⟩)) ?_
        refine sk (a' := (tw_a123 t xs bs ns As cs Ab cb An cn g1 g3)) (.pointer (some ⟨g1, 18, none⟩)) ?_
        refine se (a' := (tw_a124 t xs bs ns As cs Ab cb An cn g1 g3)) (.slice As xs.length cs) (ev1 hW 1 18 Try.underlying27) ?_
        refine se (a' := (tw_a125 t xs bs ns As cs Ab cb An cn g1 g3)) (.slice As 12 cs) (Eq.trans (b := (do pure (Next.value (← Instr.sliceAt 27 (.slice As xs.length cs) none (some (.int .i64 ((12 : Nat) : Int))) none)) : Sem Next).run Try.prog W5) (by kernel_rfl) (st_val (sl_cut Try.underlying27 (Classical.choose_spec inf2) 12 (by omega) hrc.1 W5))) ?_
        refine sk (a' := (tw_a126 t xs bs ns As cs Ab cb An cn g1 g3)) (.pointer (some ⟨g1, 15, none⟩)) ?_
        refine sk (a' := (tw_a127 t xs bs ns As cs Ab cb An cn g1 g3)) (.pointer (some ⟨g1, 18, none⟩)) ?_
        obtain ⟨W6, hr, hW, hF⟩ := hW.store1 (P := Try.prog) (o := 18) (cs' := (tw_c7 t bs As cs Ab cb An cn)) (L' := [(g3, 32, tw_c1), (g1, 32, (tw_c7 t bs As cs Ab cb An cn))]) 1 rfl (.slice As 12 cs) rfl (Nat.le_of_ble_eq_true rfl) (by rfl) rfl 27 (by kernel_rfl)
        refine st_none (w' := W6) (a' := (tw_a127 t xs bs ns As cs Ab cb An cn g1 g3)) (by kernel_rfl) (Eq.trans (b := (do Instr.storeAt 27 (.pointer (some ⟨g1, 18, none⟩)) (.slice As 12 cs); pure Next.skip : Sem Next).run Try.prog W5) (by kernel_rfl) (st_unit hr)) (by kernel_rfl) ?_
        refine wpList_nil ?_
        refine wp_seq ?_
        refine wp_region_list ?_
        refine se (a' := (tw_a129 t xs bs ns As cs Ab cb An cn g1 g3)) (.agg (tw_c7 t bs As cs Ab cb An cn)) (evA hW 1 0 Try.underlying32) ?_
        obtain ⟨W7, hr, hW, hF⟩ := hW.storeN (P := Try.prog) (o := 0) (cs' := (tw_c7 t bs As cs Ab cb An cn)) (L' := [(g3, 32, (tw_c7 t bs As cs Ab cb An cn)), (g1, 32, (tw_c7 t bs As cs Ab cb An cn))]) 0 rfl (tw_c7 t bs As cs Ab cb An cn) (by kernel_rfl) (Nat.le_of_ble_eq_true rfl) (by kernel_rfl) rfl 32 (by kernel_rfl)
        refine st_none (w' := W7) (a' := (tw_a129 t xs bs ns As cs Ab cb An cn g1 g3)) (by kernel_rfl) (Eq.trans (b := (do Instr.storeAt 32 (.pointer (some ⟨g3, 0, none⟩)) (.agg (tw_c7 t bs As cs Ab cb An cn)); pure Next.skip : Sem Next).run Try.prog W6) (by kernel_rfl) (st_unit hr)) (by kernel_rfl) ?_
        refine wpList_nil ?_
        refine wp_ret ?_
        (try simp only [Exit.then, Exit.inBlock])
        change bodyPost Try.prog Try.f10 _ .ret _ _
        refine bodyPost_ret (results_single rfl (.cell g3 32 _ (0, 0) _ (by kernel_rfl) (hW.blk 0 _ _ _ rfl).1 Try.underlying32 rfl (by kernel_rfl) .nil)) rfl ?_
        have e1 : (xs.take 12).length = 12 := by rw [List.length_take]; omega
        have e2 : (bs.take 12).length = bs.length := by rw [List.length_take]; omega
        have e3 : (ns.take 8).length = 8 := by rw [List.length_take]; omega
        rw [e1, e2, e3]
        exact ⟨rfl, hW.below⟩
      · skip
        refine wp_region_list ?_
        refine sk (a' := (tw_a117 t xs bs ns As cs Ab cb An cn g1 g3)) (.pointer (some ⟨g1, 15, none⟩)) ?_
        refine sk (a' := (tw_a118 t xs bs ns As cs Ab cb An cn g1 g3)) (.pointer (some ⟨g1, 18, none⟩)) ?_
        refine se (a' := (tw_a119 t xs bs ns As cs Ab cb An cn g1 g3)) (.slice As xs.length cs) (ev1 hW 1 18 Try.underlying27) ?_
        refine sk (a' := (tw_a120 t xs bs ns As cs Ab cb An cn g1 g3)) (.int .i64 (xs.length : Int)) ?_
        refine se (a' := (tw_a131 t xs bs ns As cs Ab cb An cn g1 g3)) (.bool false) (Eq.trans (b := .ok (.value (.bool (decide (((xs.length : Int) : Int) > 12)))) W5) (by kernel_rfl) (st_ok (decide_eq_false (by omega)))) ?_
        refine wpList_nil ?_
        refine wp_cond (t := false) (by kernel_rfl) ?_
        refine wp_skip ?_
        refine wp_seq ?_
        refine wp_region_list ?_
        refine se (a' := (tw_a132 t xs bs ns As cs Ab cb An cn g1 g3)) (.agg (tw_c6 t xs bs As cs Ab cb An cn)) (evA hW 1 0 Try.underlying32) ?_
        obtain ⟨W6, hr, hW, hF⟩ := hW.storeN (P := Try.prog) (o := 0) (cs' := (tw_c6 t xs bs As cs Ab cb An cn)) (L' := [(g3, 32, (tw_c6 t xs bs As cs Ab cb An cn)), (g1, 32, (tw_c6 t xs bs As cs Ab cb An cn))]) 0 rfl (tw_c6 t xs bs As cs Ab cb An cn) (by kernel_rfl) (Nat.le_of_ble_eq_true rfl) (by kernel_rfl) rfl 32 (by kernel_rfl)
        refine st_none (w' := W6) (a' := (tw_a132 t xs bs ns As cs Ab cb An cn g1 g3)) (by kernel_rfl) (Eq.trans (b := (do Instr.storeAt 32 (.pointer (some ⟨g3, 0, none⟩)) (.agg (tw_c6 t xs bs As cs Ab cb An cn)); pure Next.skip : Sem Next).run Try.prog W5) (by kernel_rfl) (st_unit hr)) (by kernel_rfl) ?_
        refine wpList_nil ?_
        refine wp_ret ?_
        (try simp only [Exit.then, Exit.inBlock])
        change bodyPost Try.prog Try.f10 _ .ret _ _
        refine bodyPost_ret (results_single rfl (.cell g3 32 _ (0, 0) _ (by kernel_rfl) (hW.blk 0 _ _ _ rfl).1 Try.underlying32 rfl (by kernel_rfl) .nil)) rfl ?_
        have e1 : (xs.take 12).length = xs.length := by rw [List.length_take]; omega
        have e2 : (bs.take 12).length = bs.length := by rw [List.length_take]; omega
        have e3 : (ns.take 8).length = 8 := by rw [List.length_take]; omega
        rw [e1, e2, e3]
        exact ⟨rfl, hW.below⟩
    · skip
      refine wp_region_list ?_
      refine sk (a' := (tw_a103 t xs bs ns As cs Ab cb An cn g1 g3)) (.pointer (some ⟨g1, 20, none⟩)) ?_
      refine se (a' := (tw_a105 t xs bs ns As cs Ab cb An cn g1 g3)) (.slice An ns.length cn) (ev1 hW 1 20 Try.underlying27) ?_
      refine sk (a' := (tw_a107 t xs bs ns As cs Ab cb An cn g1 g3)) (.int .i64 (ns.length : Int)) ?_
      refine se (a' := (tw_a134 t xs bs ns As cs Ab cb An cn g1 g3)) (.bool false) (Eq.trans (b := .ok (.value (.bool (decide (((ns.length : Int) : Int) > 8)))) W4) (by kernel_rfl) (st_ok (decide_eq_false (by omega)))) ?_
      refine wpList_nil ?_
      refine wp_cond (t := false) (by kernel_rfl) ?_
      refine wp_skip ?_
      refine wp_seq ?_
      refine wp_seq ?_
      by_cases hx : (xs.length : Int) > 12
      · skip
        refine wp_region_list ?_
        refine sk (a' := (tw_a136 t xs bs ns As cs Ab cb An cn g1 g3)) (.pointer (some ⟨g1, 15, none⟩)) ?_
        refine sk (a' := (tw_a137 t xs bs ns As cs Ab cb An cn g1 g3)) (.pointer (some ⟨g1, 18, none⟩)) ?_
        refine se (a' := (tw_a138 t xs bs ns As cs Ab cb An cn g1 g3)) (.slice As xs.length cs) (ev1 hW 1 18 Try.underlying27) ?_
        refine sk (a' := (tw_a139 t xs bs ns As cs Ab cb An cn g1 g3)) (.int .i64 (xs.length : Int)) ?_
        refine se (a' := (tw_a140 t xs bs ns As cs Ab cb An cn g1 g3)) (.bool true) (Eq.trans (b := .ok (.value (.bool (decide (((xs.length : Int) : Int) > 12)))) W4) (by kernel_rfl) (st_ok (decide_eq_true (by omega)))) ?_
        refine wpList_nil ?_
        refine wp_cond (t := true) (by kernel_rfl) ?_
        refine wp_region_list ?_
        refine sk (a' := (tw_a141 t xs bs ns As cs Ab cb An cn g1 g3)) (.pointer (some ⟨g1, 15, none⟩)) ?_
        refine sk (a' := (tw_a142 t xs bs ns As cs Ab cb An cn g1 g3)) (.pointer (some ⟨g1, 18, none⟩)) ?_
        refine se (a' := (tw_a143 t xs bs ns As cs Ab cb An cn g1 g3)) (.slice As xs.length cs) (ev1 hW 1 18 Try.underlying27) ?_
        refine se (a' := (tw_a144 t xs bs ns As cs Ab cb An cn g1 g3)) (.slice As 12 cs) (Eq.trans (b := (do pure (Next.value (← Instr.sliceAt 27 (.slice As xs.length cs) none (some (.int .i64 ((12 : Nat) : Int))) none)) : Sem Next).run Try.prog W4) (by kernel_rfl) (st_val (sl_cut Try.underlying27 (Classical.choose_spec inf2) 12 (by omega) hrc.1 W4))) ?_
        refine sk (a' := (tw_a145 t xs bs ns As cs Ab cb An cn g1 g3)) (.pointer (some ⟨g1, 15, none⟩)) ?_
        refine sk (a' := (tw_a146 t xs bs ns As cs Ab cb An cn g1 g3)) (.pointer (some ⟨g1, 18, none⟩)) ?_
        obtain ⟨W5, hr, hW, hF⟩ := hW.store1 (P := Try.prog) (o := 18) (cs' := (tw_c8 t bs ns As cs Ab cb An cn)) (L' := [(g3, 32, tw_c1), (g1, 32, (tw_c8 t bs ns As cs Ab cb An cn))]) 1 rfl (.slice As 12 cs) rfl (Nat.le_of_ble_eq_true rfl) (by rfl) rfl 27 (by kernel_rfl)
        refine st_none (w' := W5) (a' := (tw_a146 t xs bs ns As cs Ab cb An cn g1 g3)) (by kernel_rfl) (Eq.trans (b := (do Instr.storeAt 27 (.pointer (some ⟨g1, 18, none⟩)) (.slice As 12 cs); pure Next.skip : Sem Next).run Try.prog W4) (by kernel_rfl) (st_unit hr)) (by kernel_rfl) ?_
        refine wpList_nil ?_
        refine wp_seq ?_
        refine wp_region_list ?_
        refine se (a' := (tw_a148 t xs bs ns As cs Ab cb An cn g1 g3)) (.agg (tw_c8 t bs ns As cs Ab cb An cn)) (evA hW 1 0 Try.underlying32) ?_
        obtain ⟨W6, hr, hW, hF⟩ := hW.storeN (P := Try.prog) (o := 0) (cs' := (tw_c8 t bs ns As cs Ab cb An cn)) (L' := [(g3, 32, (tw_c8 t bs ns As cs Ab cb An cn)), (g1, 32, (tw_c8 t bs ns As cs Ab cb An cn))]) 0 rfl (tw_c8 t bs ns As cs Ab cb An cn) (by kernel_rfl) (Nat.le_of_ble_eq_true rfl) (by kernel_rfl) rfl 32 (by kernel_rfl)
        refine st_none (w' := W6) (a' := (tw_a148 t xs bs ns As cs Ab cb An cn g1 g3)) (by kernel_rfl) (Eq.trans (b := (do Instr.storeAt 32 (.pointer (some ⟨g3, 0, none⟩)) (.agg (tw_c8 t bs ns As cs Ab cb An cn)); pure Next.skip : Sem Next).run Try.prog W5) (by kernel_rfl) (st_unit hr)) (by kernel_rfl) ?_
        refine wpList_nil ?_
        refine wp_ret ?_
        (try simp only [Exit.then, Exit.inBlock])
        change bodyPost Try.prog Try.f10 _ .ret _ _
        refine bodyPost_ret (results_single rfl (.cell g3 32 _ (0, 0) _ (by kernel_rfl) (hW.blk 0 _ _ _ rfl).1 Try.underlying32 rfl (by kernel_rfl) .nil)) rfl ?_
        have e1 : (xs.take 12).length = 12 := by rw [List.length_take]; omega
        have e2 : (bs.take 12).length = bs.length := by rw [List.length_take]; omega
        have e3 : (ns.take 8).length = ns.length := by rw [List.length_take]; omega
        rw [e1, e2, e3]
        exact ⟨rfl, hW.below⟩
      · skip
        refine wp_region_list ?_
        refine sk (a' := (tw_a136 t xs bs ns As cs Ab cb An cn g1 g3)) (.pointer (some ⟨g1, 15, none⟩)) ?_
        refine sk (a' := (tw_a137 t xs bs ns As cs Ab cb An cn g1 g3)) (.pointer (some ⟨g1, 18, none⟩)) ?_
        refine se (a' := (tw_a138 t xs bs ns As cs Ab cb An cn g1 g3)) (.slice As xs.length cs) (ev1 hW 1 18 Try.underlying27) ?_
        refine sk (a' := (tw_a139 t xs bs ns As cs Ab cb An cn g1 g3)) (.int .i64 (xs.length : Int)) ?_
        refine se (a' := (tw_a150 t xs bs ns As cs Ab cb An cn g1 g3)) (.bool false) (Eq.trans (b := .ok (.value (.bool (decide (((xs.length : Int) : Int) > 12)))) W4) (by kernel_rfl) (st_ok (decide_eq_false (by omega)))) ?_
        refine wpList_nil ?_
        refine wp_cond (t := false) (by kernel_rfl) ?_
        refine wp_skip ?_
        refine wp_seq ?_
        refine wp_region_list ?_
        refine se (a' := (tw_a151 t xs bs ns As cs Ab cb An cn g1 g3)) (.agg (tw_c0 t xs bs ns As cs Ab cb An cn)) (evA hW 1 0 Try.underlying32) ?_
        obtain ⟨W5, hr, hW, hF⟩ := hW.storeN (P := Try.prog) (o := 0) (cs' := (tw_c0 t xs bs ns As cs Ab cb An cn)) (L' := [(g3, 32, (tw_c0 t xs bs ns As cs Ab cb An cn)), (g1, 32, (tw_c0 t xs bs ns As cs Ab cb An cn))]) 0 rfl (tw_c0 t xs bs ns As cs Ab cb An cn) (by kernel_rfl) (Nat.le_of_ble_eq_true rfl) (by kernel_rfl) rfl 32 (by kernel_rfl)
        refine st_none (w' := W5) (a' := (tw_a151 t xs bs ns As cs Ab cb An cn g1 g3)) (by kernel_rfl) (Eq.trans (b := (do Instr.storeAt 32 (.pointer (some ⟨g3, 0, none⟩)) (.agg (tw_c0 t xs bs ns As cs Ab cb An cn)); pure Next.skip : Sem Next).run Try.prog W4) (by kernel_rfl) (st_unit hr)) (by kernel_rfl) ?_
        refine wpList_nil ?_
        refine wp_ret ?_
        (try simp only [Exit.then, Exit.inBlock])
        change bodyPost Try.prog Try.f10 _ .ret _ _
        refine bodyPost_ret (results_single rfl (.cell g3 32 _ (0, 0) _ (by kernel_rfl) (hW.blk 0 _ _ _ rfl).1 Try.underlying32 rfl (by kernel_rfl) .nil)) rfl ?_
        have e1 : (xs.take 12).length = xs.length := by rw [List.length_take]; omega
        have e2 : (bs.take 12).length = bs.length := by rw [List.length_take]; omega
        have e3 : (ns.take 8).length = ns.length := by rw [List.length_take]; omega
        rw [e1, e2, e3]
        exact ⟨rfl, hW.below⟩
def tx_c0 (t : Th) : Array Value := #[.int .i64 t.pc, .int .i64 t.fu, .int .i64 t.st, .int .i64 (t.R 0), .int .i64 (t.R 1), .int .i64 (t.R 2), .int .i64 (t.R 3), .int .i64 (t.R 4), .int .i64 (t.R 5), .int .i64 (t.R 6), .int .i64 (t.R 7), .int .i64 (t.R 8), .int .i64 (t.R 9), .int .i64 (t.R 10), .int .i64 (t.R 11), .int .i64 t.kd, .int .i64 t.mi, .int .i64 t.mn, t.sv, t.bv, t.nv, .int .i64 t.old]
def tx_c1 (t : Th) (sv : Value) (bv : Value) (nv : Value) : Array Value := #[.int .i64 t.pc, .int .i64 t.fu, .int .i64 t.st, .int .i64 (t.R 0), .int .i64 (t.R 1), .int .i64 (t.R 2), .int .i64 (t.R 3), .int .i64 (t.R 4), .int .i64 (t.R 5), .int .i64 (t.R 6), .int .i64 (t.R 7), .int .i64 (t.R 8), .int .i64 (t.R 9), .int .i64 (t.R 10), .int .i64 (t.R 11), .int .i64 t.kd, .int .i64 t.mi, .int .i64 t.mn, sv, bv, nv, .int .i64 t.old]
def tx_l2 (t : Th) (sv : Value) (bv : Value) (nv : Value) (g1 : Nat) : List Value := [.agg (tx_c0 t), .agg (tx_c1 t sv bv nv), .pointer (some ⟨g1, 0, none⟩), zz, zz, zz, zz, zz, zz, zz, zz, zz, zz, zz, zz, zz]
def tx_l3 : List Value := [zz, zz, zz, zz, zz, zz, zz, zz, zz, zz, zz, zz, zz, zz, zz, zz]
def tx_l4 : List Value := [zz, zz, zz, zz, zz, zz, zz, zz, zz, zz, zz]
def tx_a2 (t : Th) (sv : Value) (bv : Value) (nv : Value) (g1 : Nat) : Act := ⟨((tx_l2 t sv bv nv g1) ++ (tx_l3 ++ (tx_l3 ++ (tx_l4)))).toArray, []⟩
def tx_l6 (t : Th) (sv : Value) (bv : Value) (nv : Value) (g1 : Nat) (g3 : Nat) : List Value := [.agg (tx_c0 t), .agg (tx_c1 t sv bv nv), .pointer (some ⟨g1, 0, none⟩), .pointer (some ⟨g3, 0, none⟩), zz, zz, zz, zz, zz, zz, zz, zz, zz, zz, zz, zz]
def tx_a6 (t : Th) (sv : Value) (bv : Value) (nv : Value) (g1 : Nat) (g3 : Nat) : Act := ⟨((tx_l6 t sv bv nv g1 g3) ++ (tx_l3 ++ (tx_l3 ++ (tx_l4)))).toArray, []⟩
def tx_l8 (t : Th) (sv : Value) (bv : Value) (nv : Value) (g1 : Nat) (g3 : Nat) : List Value := [.agg (tx_c0 t), .agg (tx_c1 t sv bv nv), .pointer (some ⟨g1, 0, none⟩), .pointer (some ⟨g3, 0, none⟩), .bool false, zz, zz, zz, zz, zz, zz, zz, zz, zz, zz, zz]
def tx_a8 (t : Th) (sv : Value) (bv : Value) (nv : Value) (g1 : Nat) (g3 : Nat) : Act := ⟨((tx_l8 t sv bv nv g1 g3) ++ (tx_l3 ++ (tx_l3 ++ (tx_l4)))).toArray, []⟩
def tx_l10 (t : Th) (sv : Value) (bv : Value) (nv : Value) (g1 : Nat) (g3 : Nat) : List Value := [.agg (tx_c0 t), .agg (tx_c1 t sv bv nv), .pointer (some ⟨g1, 0, none⟩), .pointer (some ⟨g3, 0, none⟩), .bool false, .pointer (some ⟨g1, 0, none⟩), zz, zz, zz, zz, zz, zz, zz, zz, zz, zz]
def tx_a10 (t : Th) (sv : Value) (bv : Value) (nv : Value) (g1 : Nat) (g3 : Nat) : Act := ⟨((tx_l10 t sv bv nv g1 g3) ++ (tx_l3 ++ (tx_l3 ++ (tx_l4)))).toArray, []⟩
def tx_l12 (t : Th) (sv : Value) (bv : Value) (nv : Value) (g1 : Nat) (g3 : Nat) : List Value := [.agg (tx_c0 t), .agg (tx_c1 t sv bv nv), .pointer (some ⟨g1, 0, none⟩), .pointer (some ⟨g3, 0, none⟩), .bool false, .pointer (some ⟨g1, 0, none⟩), .int .i64 t.pc, zz, zz, zz, zz, zz, zz, zz, zz, zz]
def tx_a12 (t : Th) (sv : Value) (bv : Value) (nv : Value) (g1 : Nat) (g3 : Nat) : Act := ⟨((tx_l12 t sv bv nv g1 g3) ++ (tx_l3 ++ (tx_l3 ++ (tx_l4)))).toArray, []⟩
def tx_l14 (t : Th) (sv : Value) (bv : Value) (nv : Value) (g1 : Nat) (g3 : Nat) : List Value := [.agg (tx_c0 t), .agg (tx_c1 t sv bv nv), .pointer (some ⟨g1, 0, none⟩), .pointer (some ⟨g3, 0, none⟩), .bool false, .pointer (some ⟨g1, 0, none⟩), .int .i64 t.pc, .pointer (some ⟨g3, 0, none⟩), zz, zz, zz, zz, zz, zz, zz, zz]
def tx_a14 (t : Th) (sv : Value) (bv : Value) (nv : Value) (g1 : Nat) (g3 : Nat) : Act := ⟨((tx_l14 t sv bv nv g1 g3) ++ (tx_l3 ++ (tx_l3 ++ (tx_l4)))).toArray, []⟩
def tx_l16 (t : Th) (sv : Value) (bv : Value) (nv : Value) (g1 : Nat) (g3 : Nat) : List Value := [.agg (tx_c0 t), .agg (tx_c1 t sv bv nv), .pointer (some ⟨g1, 0, none⟩), .pointer (some ⟨g3, 0, none⟩), .bool false, .pointer (some ⟨g1, 0, none⟩), .int .i64 t.pc, .pointer (some ⟨g3, 0, none⟩), .int .i64 t.pc, zz, zz, zz, zz, zz, zz, zz]
def tx_a16 (t : Th) (sv : Value) (bv : Value) (nv : Value) (g1 : Nat) (g3 : Nat) : Act := ⟨((tx_l16 t sv bv nv g1 g3) ++ (tx_l3 ++ (tx_l3 ++ (tx_l4)))).toArray, []⟩
def tx_l18 (t : Th) (sv : Value) (bv : Value) (nv : Value) (g1 : Nat) (g3 : Nat) : List Value := [.agg (tx_c0 t), .agg (tx_c1 t sv bv nv), .pointer (some ⟨g1, 0, none⟩), .pointer (some ⟨g3, 0, none⟩), .bool false, .pointer (some ⟨g1, 0, none⟩), .int .i64 t.pc, .pointer (some ⟨g3, 0, none⟩), .int .i64 t.pc, .bool true, zz, zz, zz, zz, zz, zz]
def tx_a18 (t : Th) (sv : Value) (bv : Value) (nv : Value) (g1 : Nat) (g3 : Nat) : Act := ⟨((tx_l18 t sv bv nv g1 g3) ++ (tx_l3 ++ (tx_l3 ++ (tx_l4)))).toArray, []⟩
def tx_l20 (t : Th) (sv : Value) (bv : Value) (nv : Value) (g1 : Nat) (g3 : Nat) : List Value := [.agg (tx_c0 t), .agg (tx_c1 t sv bv nv), .pointer (some ⟨g1, 0, none⟩), .pointer (some ⟨g3, 0, none⟩), .bool false, .pointer (some ⟨g1, 0, none⟩), .int .i64 t.pc, .pointer (some ⟨g3, 0, none⟩), .int .i64 t.pc, .bool true, .bool true, zz, zz, zz, zz, zz]
def tx_a20 (t : Th) (sv : Value) (bv : Value) (nv : Value) (g1 : Nat) (g3 : Nat) : Act := ⟨((tx_l20 t sv bv nv g1 g3) ++ (tx_l3 ++ (tx_l3 ++ (tx_l4)))).toArray, []⟩
def tx_l22 (t : Th) (sv : Value) (bv : Value) (nv : Value) (g1 : Nat) (g3 : Nat) : List Value := [.agg (tx_c0 t), .agg (tx_c1 t sv bv nv), .pointer (some ⟨g1, 0, none⟩), .pointer (some ⟨g3, 0, none⟩), .bool false, .pointer (some ⟨g1, 0, none⟩), .int .i64 t.pc, .pointer (some ⟨g3, 0, none⟩), .int .i64 t.pc, .bool true, .bool true, .pointer (some ⟨g1, 1, none⟩), zz, zz, zz, zz]
def tx_a22 (t : Th) (sv : Value) (bv : Value) (nv : Value) (g1 : Nat) (g3 : Nat) : Act := ⟨((tx_l22 t sv bv nv g1 g3) ++ (tx_l3 ++ (tx_l3 ++ (tx_l4)))).toArray, []⟩
def tx_l24 (t : Th) (sv : Value) (bv : Value) (nv : Value) (g1 : Nat) (g3 : Nat) : List Value := [.agg (tx_c0 t), .agg (tx_c1 t sv bv nv), .pointer (some ⟨g1, 0, none⟩), .pointer (some ⟨g3, 0, none⟩), .bool false, .pointer (some ⟨g1, 0, none⟩), .int .i64 t.pc, .pointer (some ⟨g3, 0, none⟩), .int .i64 t.pc, .bool true, .bool true, .pointer (some ⟨g1, 1, none⟩), .int .i64 t.fu, zz, zz, zz]
def tx_a24 (t : Th) (sv : Value) (bv : Value) (nv : Value) (g1 : Nat) (g3 : Nat) : Act := ⟨((tx_l24 t sv bv nv g1 g3) ++ (tx_l3 ++ (tx_l3 ++ (tx_l4)))).toArray, []⟩
def tx_l26 (t : Th) (sv : Value) (bv : Value) (nv : Value) (g1 : Nat) (g3 : Nat) : List Value := [.agg (tx_c0 t), .agg (tx_c1 t sv bv nv), .pointer (some ⟨g1, 0, none⟩), .pointer (some ⟨g3, 0, none⟩), .bool false, .pointer (some ⟨g1, 0, none⟩), .int .i64 t.pc, .pointer (some ⟨g3, 0, none⟩), .int .i64 t.pc, .bool true, .bool true, .pointer (some ⟨g1, 1, none⟩), .int .i64 t.fu, .pointer (some ⟨g3, 1, none⟩), zz, zz]
def tx_a26 (t : Th) (sv : Value) (bv : Value) (nv : Value) (g1 : Nat) (g3 : Nat) : Act := ⟨((tx_l26 t sv bv nv g1 g3) ++ (tx_l3 ++ (tx_l3 ++ (tx_l4)))).toArray, []⟩
def tx_l28 (t : Th) (sv : Value) (bv : Value) (nv : Value) (g1 : Nat) (g3 : Nat) : List Value := [.agg (tx_c0 t), .agg (tx_c1 t sv bv nv), .pointer (some ⟨g1, 0, none⟩), .pointer (some ⟨g3, 0, none⟩), .bool false, .pointer (some ⟨g1, 0, none⟩), .int .i64 t.pc, .pointer (some ⟨g3, 0, none⟩), .int .i64 t.pc, .bool true, .bool true, .pointer (some ⟨g1, 1, none⟩), .int .i64 t.fu, .pointer (some ⟨g3, 1, none⟩), .int .i64 t.fu, zz]
def tx_a28 (t : Th) (sv : Value) (bv : Value) (nv : Value) (g1 : Nat) (g3 : Nat) : Act := ⟨((tx_l28 t sv bv nv g1 g3) ++ (tx_l3 ++ (tx_l3 ++ (tx_l4)))).toArray, []⟩
def tx_l30 (t : Th) (sv : Value) (bv : Value) (nv : Value) (g1 : Nat) (g3 : Nat) : List Value := [.agg (tx_c0 t), .agg (tx_c1 t sv bv nv), .pointer (some ⟨g1, 0, none⟩), .pointer (some ⟨g3, 0, none⟩), .bool false, .pointer (some ⟨g1, 0, none⟩), .int .i64 t.pc, .pointer (some ⟨g3, 0, none⟩), .int .i64 t.pc, .bool true, .bool true, .pointer (some ⟨g1, 1, none⟩), .int .i64 t.fu, .pointer (some ⟨g3, 1, none⟩), .int .i64 t.fu, .bool true]
def tx_a30 (t : Th) (sv : Value) (bv : Value) (nv : Value) (g1 : Nat) (g3 : Nat) : Act := ⟨((tx_l30 t sv bv nv g1 g3) ++ (tx_l3 ++ (tx_l3 ++ (tx_l4)))).toArray, []⟩
def tx_l32 : List Value := [.bool true, zz, zz, zz, zz, zz, zz, zz, zz, zz, zz, zz, zz, zz, zz, zz]
def tx_a32 (t : Th) (sv : Value) (bv : Value) (nv : Value) (g1 : Nat) (g3 : Nat) : Act := ⟨((tx_l30 t sv bv nv g1 g3) ++ (tx_l32 ++ (tx_l3 ++ (tx_l4)))).toArray, []⟩
def tx_l34 : List Value := [.bool true, .bool true, zz, zz, zz, zz, zz, zz, zz, zz, zz, zz, zz, zz, zz, zz]
def tx_a34 (t : Th) (sv : Value) (bv : Value) (nv : Value) (g1 : Nat) (g3 : Nat) : Act := ⟨((tx_l30 t sv bv nv g1 g3) ++ (tx_l34 ++ (tx_l3 ++ (tx_l4)))).toArray, []⟩
def tx_l36 (g1 : Nat) : List Value := [.bool true, .bool true, .pointer (some ⟨g1, 2, none⟩), zz, zz, zz, zz, zz, zz, zz, zz, zz, zz, zz, zz, zz]
def tx_a36 (t : Th) (sv : Value) (bv : Value) (nv : Value) (g1 : Nat) (g3 : Nat) : Act := ⟨((tx_l30 t sv bv nv g1 g3) ++ ((tx_l36 g1) ++ (tx_l3 ++ (tx_l4)))).toArray, []⟩
def tx_l38 (t : Th) (g1 : Nat) : List Value := [.bool true, .bool true, .pointer (some ⟨g1, 2, none⟩), .int .i64 t.st, zz, zz, zz, zz, zz, zz, zz, zz, zz, zz, zz, zz]
def tx_a38 (t : Th) (sv : Value) (bv : Value) (nv : Value) (g1 : Nat) (g3 : Nat) : Act := ⟨((tx_l30 t sv bv nv g1 g3) ++ ((tx_l38 t g1) ++ (tx_l3 ++ (tx_l4)))).toArray, []⟩
def tx_l40 (t : Th) (g1 : Nat) (g3 : Nat) : List Value := [.bool true, .bool true, .pointer (some ⟨g1, 2, none⟩), .int .i64 t.st, .pointer (some ⟨g3, 2, none⟩), zz, zz, zz, zz, zz, zz, zz, zz, zz, zz, zz]
def tx_a40 (t : Th) (sv : Value) (bv : Value) (nv : Value) (g1 : Nat) (g3 : Nat) : Act := ⟨((tx_l30 t sv bv nv g1 g3) ++ ((tx_l40 t g1 g3) ++ (tx_l3 ++ (tx_l4)))).toArray, []⟩
def tx_l42 (t : Th) (g1 : Nat) (g3 : Nat) : List Value := [.bool true, .bool true, .pointer (some ⟨g1, 2, none⟩), .int .i64 t.st, .pointer (some ⟨g3, 2, none⟩), .int .i64 t.st, zz, zz, zz, zz, zz, zz, zz, zz, zz, zz]
def tx_a42 (t : Th) (sv : Value) (bv : Value) (nv : Value) (g1 : Nat) (g3 : Nat) : Act := ⟨((tx_l30 t sv bv nv g1 g3) ++ ((tx_l42 t g1 g3) ++ (tx_l3 ++ (tx_l4)))).toArray, []⟩
def tx_l44 (t : Th) (g1 : Nat) (g3 : Nat) : List Value := [.bool true, .bool true, .pointer (some ⟨g1, 2, none⟩), .int .i64 t.st, .pointer (some ⟨g3, 2, none⟩), .int .i64 t.st, .bool true, zz, zz, zz, zz, zz, zz, zz, zz, zz]
def tx_a44 (t : Th) (sv : Value) (bv : Value) (nv : Value) (g1 : Nat) (g3 : Nat) : Act := ⟨((tx_l30 t sv bv nv g1 g3) ++ ((tx_l44 t g1 g3) ++ (tx_l3 ++ (tx_l4)))).toArray, []⟩
def tx_l46 (t : Th) (g1 : Nat) (g3 : Nat) : List Value := [.bool true, .bool true, .pointer (some ⟨g1, 2, none⟩), .int .i64 t.st, .pointer (some ⟨g3, 2, none⟩), .int .i64 t.st, .bool true, .bool true, zz, zz, zz, zz, zz, zz, zz, zz]
def tx_a46 (t : Th) (sv : Value) (bv : Value) (nv : Value) (g1 : Nat) (g3 : Nat) : Act := ⟨((tx_l30 t sv bv nv g1 g3) ++ ((tx_l46 t g1 g3) ++ (tx_l3 ++ (tx_l4)))).toArray, []⟩
def tx_l48 (t : Th) (g1 : Nat) (g3 : Nat) : List Value := [.bool true, .bool true, .pointer (some ⟨g1, 2, none⟩), .int .i64 t.st, .pointer (some ⟨g3, 2, none⟩), .int .i64 t.st, .bool true, .bool true, .bool true, zz, zz, zz, zz, zz, zz, zz]
def tx_a48 (t : Th) (sv : Value) (bv : Value) (nv : Value) (g1 : Nat) (g3 : Nat) : Act := ⟨((tx_l30 t sv bv nv g1 g3) ++ ((tx_l48 t g1 g3) ++ (tx_l3 ++ (tx_l4)))).toArray, []⟩
def tx_l50 (t : Th) (g1 : Nat) (g3 : Nat) : List Value := [.bool true, .bool true, .pointer (some ⟨g1, 2, none⟩), .int .i64 t.st, .pointer (some ⟨g3, 2, none⟩), .int .i64 t.st, .bool true, .bool true, .bool true, .pointer (some ⟨g1, 3, none⟩), zz, zz, zz, zz, zz, zz]
def tx_a50 (t : Th) (sv : Value) (bv : Value) (nv : Value) (g1 : Nat) (g3 : Nat) : Act := ⟨((tx_l30 t sv bv nv g1 g3) ++ ((tx_l50 t g1 g3) ++ (tx_l3 ++ (tx_l4)))).toArray, []⟩
def tx_c2 (t : Th) : Array Value := #[.int .i64 (t.R 0), .int .i64 (t.R 1), .int .i64 (t.R 2), .int .i64 (t.R 3), .int .i64 (t.R 4), .int .i64 (t.R 5), .int .i64 (t.R 6), .int .i64 (t.R 7), .int .i64 (t.R 8), .int .i64 (t.R 9), .int .i64 (t.R 10), .int .i64 (t.R 11)]
def tx_l53 (t : Th) (g1 : Nat) (g3 : Nat) : List Value := [.bool true, .bool true, .pointer (some ⟨g1, 2, none⟩), .int .i64 t.st, .pointer (some ⟨g3, 2, none⟩), .int .i64 t.st, .bool true, .bool true, .bool true, .pointer (some ⟨g1, 3, none⟩), .agg (tx_c2 t), zz, zz, zz, zz, zz]
def tx_a53 (t : Th) (sv : Value) (bv : Value) (nv : Value) (g1 : Nat) (g3 : Nat) : Act := ⟨((tx_l30 t sv bv nv g1 g3) ++ ((tx_l53 t g1 g3) ++ (tx_l3 ++ (tx_l4)))).toArray, []⟩
def tx_l55 (t : Th) (g1 : Nat) (g3 : Nat) : List Value := [.bool true, .bool true, .pointer (some ⟨g1, 2, none⟩), .int .i64 t.st, .pointer (some ⟨g3, 2, none⟩), .int .i64 t.st, .bool true, .bool true, .bool true, .pointer (some ⟨g1, 3, none⟩), .agg (tx_c2 t), .pointer (some ⟨g3, 3, none⟩), zz, zz, zz, zz]
def tx_a55 (t : Th) (sv : Value) (bv : Value) (nv : Value) (g1 : Nat) (g3 : Nat) : Act := ⟨((tx_l30 t sv bv nv g1 g3) ++ ((tx_l55 t g1 g3) ++ (tx_l3 ++ (tx_l4)))).toArray, []⟩
def tx_l57 (t : Th) (g1 : Nat) (g3 : Nat) : List Value := [.bool true, .bool true, .pointer (some ⟨g1, 2, none⟩), .int .i64 t.st, .pointer (some ⟨g3, 2, none⟩), .int .i64 t.st, .bool true, .bool true, .bool true, .pointer (some ⟨g1, 3, none⟩), .agg (tx_c2 t), .pointer (some ⟨g3, 3, none⟩), .agg (tx_c2 t), zz, zz, zz]
def tx_a57 (t : Th) (sv : Value) (bv : Value) (nv : Value) (g1 : Nat) (g3 : Nat) : Act := ⟨((tx_l30 t sv bv nv g1 g3) ++ ((tx_l57 t g1 g3) ++ (tx_l3 ++ (tx_l4)))).toArray, []⟩
def tx_l59 (t : Th) (g1 : Nat) (g3 : Nat) : List Value := [.bool true, .bool true, .pointer (some ⟨g1, 2, none⟩), .int .i64 t.st, .pointer (some ⟨g3, 2, none⟩), .int .i64 t.st, .bool true, .bool true, .bool true, .pointer (some ⟨g1, 3, none⟩), .agg (tx_c2 t), .pointer (some ⟨g3, 3, none⟩), .agg (tx_c2 t), .bool true, zz, zz]
def tx_a59 (t : Th) (sv : Value) (bv : Value) (nv : Value) (g1 : Nat) (g3 : Nat) : Act := ⟨((tx_l30 t sv bv nv g1 g3) ++ ((tx_l59 t g1 g3) ++ (tx_l3 ++ (tx_l4)))).toArray, []⟩
def tx_l61 (t : Th) (g1 : Nat) (g3 : Nat) : List Value := [.bool true, .bool true, .pointer (some ⟨g1, 2, none⟩), .int .i64 t.st, .pointer (some ⟨g3, 2, none⟩), .int .i64 t.st, .bool true, .bool true, .bool true, .pointer (some ⟨g1, 3, none⟩), .agg (tx_c2 t), .pointer (some ⟨g3, 3, none⟩), .agg (tx_c2 t), .bool true, .bool true, zz]
def tx_a61 (t : Th) (sv : Value) (bv : Value) (nv : Value) (g1 : Nat) (g3 : Nat) : Act := ⟨((tx_l30 t sv bv nv g1 g3) ++ ((tx_l61 t g1 g3) ++ (tx_l3 ++ (tx_l4)))).toArray, []⟩
def tx_l63 (t : Th) (g1 : Nat) (g3 : Nat) : List Value := [.bool true, .bool true, .pointer (some ⟨g1, 2, none⟩), .int .i64 t.st, .pointer (some ⟨g3, 2, none⟩), .int .i64 t.st, .bool true, .bool true, .bool true, .pointer (some ⟨g1, 3, none⟩), .agg (tx_c2 t), .pointer (some ⟨g3, 3, none⟩), .agg (tx_c2 t), .bool true, .bool true, .bool true]
def tx_a63 (t : Th) (sv : Value) (bv : Value) (nv : Value) (g1 : Nat) (g3 : Nat) : Act := ⟨((tx_l30 t sv bv nv g1 g3) ++ ((tx_l63 t g1 g3) ++ (tx_l3 ++ (tx_l4)))).toArray, []⟩
def tx_l65 (g1 : Nat) : List Value := [.pointer (some ⟨g1, 15, none⟩), zz, zz, zz, zz, zz, zz, zz, zz, zz, zz, zz, zz, zz, zz, zz]
def tx_a65 (t : Th) (sv : Value) (bv : Value) (nv : Value) (g1 : Nat) (g3 : Nat) : Act := ⟨((tx_l30 t sv bv nv g1 g3) ++ ((tx_l63 t g1 g3) ++ ((tx_l65 g1) ++ (tx_l4)))).toArray, []⟩
def tx_l67 (t : Th) (g1 : Nat) : List Value := [.pointer (some ⟨g1, 15, none⟩), .agg #[.int .i64 t.kd, .int .i64 t.mi, .int .i64 t.mn, t.sv], zz, zz, zz, zz, zz, zz, zz, zz, zz, zz, zz, zz, zz, zz]
def tx_a67 (t : Th) (sv : Value) (bv : Value) (nv : Value) (g1 : Nat) (g3 : Nat) : Act := ⟨((tx_l30 t sv bv nv g1 g3) ++ ((tx_l63 t g1 g3) ++ ((tx_l67 t g1) ++ (tx_l4)))).toArray, []⟩
def tx_l69 (t : Th) (g1 : Nat) (g3 : Nat) : List Value := [.pointer (some ⟨g1, 15, none⟩), .agg #[.int .i64 t.kd, .int .i64 t.mi, .int .i64 t.mn, t.sv], .pointer (some ⟨g3, 15, none⟩), zz, zz, zz, zz, zz, zz, zz, zz, zz, zz, zz, zz, zz]
def tx_a69 (t : Th) (sv : Value) (bv : Value) (nv : Value) (g1 : Nat) (g3 : Nat) : Act := ⟨((tx_l30 t sv bv nv g1 g3) ++ ((tx_l63 t g1 g3) ++ ((tx_l69 t g1 g3) ++ (tx_l4)))).toArray, []⟩
def tx_l71 (t : Th) (sv : Value) (g1 : Nat) (g3 : Nat) : List Value := [.pointer (some ⟨g1, 15, none⟩), .agg #[.int .i64 t.kd, .int .i64 t.mi, .int .i64 t.mn, t.sv], .pointer (some ⟨g3, 15, none⟩), .agg #[.int .i64 t.kd, .int .i64 t.mi, .int .i64 t.mn, sv], zz, zz, zz, zz, zz, zz, zz, zz, zz, zz, zz, zz]
def tx_a71 (t : Th) (sv : Value) (bv : Value) (nv : Value) (g1 : Nat) (g3 : Nat) : Act := ⟨((tx_l30 t sv bv nv g1 g3) ++ ((tx_l63 t g1 g3) ++ ((tx_l71 t sv g1 g3) ++ (tx_l4)))).toArray, []⟩
def tx_l73 (t : Th) (sv : Value) (g1 : Nat) (g3 : Nat) : List Value := [.pointer (some ⟨g1, 15, none⟩), .agg #[.int .i64 t.kd, .int .i64 t.mi, .int .i64 t.mn, t.sv], .pointer (some ⟨g3, 15, none⟩), .agg #[.int .i64 t.kd, .int .i64 t.mi, .int .i64 t.mn, sv], .bool true, zz, zz, zz, zz, zz, zz, zz, zz, zz, zz, zz]
def tx_a73 (t : Th) (sv : Value) (bv : Value) (nv : Value) (g1 : Nat) (g3 : Nat) : Act := ⟨((tx_l30 t sv bv nv g1 g3) ++ ((tx_l63 t g1 g3) ++ ((tx_l73 t sv g1 g3) ++ (tx_l4)))).toArray, []⟩
def tx_l75 (t : Th) (sv : Value) (g1 : Nat) (g3 : Nat) : List Value := [.pointer (some ⟨g1, 15, none⟩), .agg #[.int .i64 t.kd, .int .i64 t.mi, .int .i64 t.mn, t.sv], .pointer (some ⟨g3, 15, none⟩), .agg #[.int .i64 t.kd, .int .i64 t.mi, .int .i64 t.mn, sv], .bool true, .bool true, zz, zz, zz, zz, zz, zz, zz, zz, zz, zz]
def tx_a75 (t : Th) (sv : Value) (bv : Value) (nv : Value) (g1 : Nat) (g3 : Nat) : Act := ⟨((tx_l30 t sv bv nv g1 g3) ++ ((tx_l63 t g1 g3) ++ ((tx_l75 t sv g1 g3) ++ (tx_l4)))).toArray, []⟩
def tx_l77 (t : Th) (sv : Value) (g1 : Nat) (g3 : Nat) : List Value := [.pointer (some ⟨g1, 15, none⟩), .agg #[.int .i64 t.kd, .int .i64 t.mi, .int .i64 t.mn, t.sv], .pointer (some ⟨g3, 15, none⟩), .agg #[.int .i64 t.kd, .int .i64 t.mi, .int .i64 t.mn, sv], .bool true, .bool true, .bool true, zz, zz, zz, zz, zz, zz, zz, zz, zz]
def tx_a77 (t : Th) (sv : Value) (bv : Value) (nv : Value) (g1 : Nat) (g3 : Nat) : Act := ⟨((tx_l30 t sv bv nv g1 g3) ++ ((tx_l63 t g1 g3) ++ ((tx_l77 t sv g1 g3) ++ (tx_l4)))).toArray, []⟩
def tx_l79 (t : Th) (sv : Value) (g1 : Nat) (g3 : Nat) : List Value := [.pointer (some ⟨g1, 15, none⟩), .agg #[.int .i64 t.kd, .int .i64 t.mi, .int .i64 t.mn, t.sv], .pointer (some ⟨g3, 15, none⟩), .agg #[.int .i64 t.kd, .int .i64 t.mi, .int .i64 t.mn, sv], .bool true, .bool true, .bool true, .pointer (some ⟨g1, 19, none⟩), zz, zz, zz, zz, zz, zz, zz, zz]
def tx_a79 (t : Th) (sv : Value) (bv : Value) (nv : Value) (g1 : Nat) (g3 : Nat) : Act := ⟨((tx_l30 t sv bv nv g1 g3) ++ ((tx_l63 t g1 g3) ++ ((tx_l79 t sv g1 g3) ++ (tx_l4)))).toArray, []⟩
def tx_l81 (t : Th) (sv : Value) (g1 : Nat) (g3 : Nat) : List Value := [.pointer (some ⟨g1, 15, none⟩), .agg #[.int .i64 t.kd, .int .i64 t.mi, .int .i64 t.mn, t.sv], .pointer (some ⟨g3, 15, none⟩), .agg #[.int .i64 t.kd, .int .i64 t.mi, .int .i64 t.mn, sv], .bool true, .bool true, .bool true, .pointer (some ⟨g1, 19, none⟩), t.bv, zz, zz, zz, zz, zz, zz, zz]
def tx_a81 (t : Th) (sv : Value) (bv : Value) (nv : Value) (g1 : Nat) (g3 : Nat) : Act := ⟨((tx_l30 t sv bv nv g1 g3) ++ ((tx_l63 t g1 g3) ++ ((tx_l81 t sv g1 g3) ++ (tx_l4)))).toArray, []⟩
def tx_l83 (t : Th) (sv : Value) (g1 : Nat) (g3 : Nat) : List Value := [.pointer (some ⟨g1, 15, none⟩), .agg #[.int .i64 t.kd, .int .i64 t.mi, .int .i64 t.mn, t.sv], .pointer (some ⟨g3, 15, none⟩), .agg #[.int .i64 t.kd, .int .i64 t.mi, .int .i64 t.mn, sv], .bool true, .bool true, .bool true, .pointer (some ⟨g1, 19, none⟩), t.bv, .pointer (some ⟨g3, 19, none⟩), zz, zz, zz, zz, zz, zz]
def tx_a83 (t : Th) (sv : Value) (bv : Value) (nv : Value) (g1 : Nat) (g3 : Nat) : Act := ⟨((tx_l30 t sv bv nv g1 g3) ++ ((tx_l63 t g1 g3) ++ ((tx_l83 t sv g1 g3) ++ (tx_l4)))).toArray, []⟩
def tx_l85 (t : Th) (sv : Value) (bv : Value) (g1 : Nat) (g3 : Nat) : List Value := [.pointer (some ⟨g1, 15, none⟩), .agg #[.int .i64 t.kd, .int .i64 t.mi, .int .i64 t.mn, t.sv], .pointer (some ⟨g3, 15, none⟩), .agg #[.int .i64 t.kd, .int .i64 t.mi, .int .i64 t.mn, sv], .bool true, .bool true, .bool true, .pointer (some ⟨g1, 19, none⟩), t.bv, .pointer (some ⟨g3, 19, none⟩), bv, zz, zz, zz, zz, zz]
def tx_a85 (t : Th) (sv : Value) (bv : Value) (nv : Value) (g1 : Nat) (g3 : Nat) : Act := ⟨((tx_l30 t sv bv nv g1 g3) ++ ((tx_l63 t g1 g3) ++ ((tx_l85 t sv bv g1 g3) ++ (tx_l4)))).toArray, []⟩
def tx_l87 (t : Th) (sv : Value) (bv : Value) (g1 : Nat) (g3 : Nat) : List Value := [.pointer (some ⟨g1, 15, none⟩), .agg #[.int .i64 t.kd, .int .i64 t.mi, .int .i64 t.mn, t.sv], .pointer (some ⟨g3, 15, none⟩), .agg #[.int .i64 t.kd, .int .i64 t.mi, .int .i64 t.mn, sv], .bool true, .bool true, .bool true, .pointer (some ⟨g1, 19, none⟩), t.bv, .pointer (some ⟨g3, 19, none⟩), bv, .bool true, zz, zz, zz, zz]
def tx_a87 (t : Th) (sv : Value) (bv : Value) (nv : Value) (g1 : Nat) (g3 : Nat) : Act := ⟨((tx_l30 t sv bv nv g1 g3) ++ ((tx_l63 t g1 g3) ++ ((tx_l87 t sv bv g1 g3) ++ (tx_l4)))).toArray, []⟩
def tx_l89 (t : Th) (sv : Value) (bv : Value) (g1 : Nat) (g3 : Nat) : List Value := [.pointer (some ⟨g1, 15, none⟩), .agg #[.int .i64 t.kd, .int .i64 t.mi, .int .i64 t.mn, t.sv], .pointer (some ⟨g3, 15, none⟩), .agg #[.int .i64 t.kd, .int .i64 t.mi, .int .i64 t.mn, sv], .bool true, .bool true, .bool true, .pointer (some ⟨g1, 19, none⟩), t.bv, .pointer (some ⟨g3, 19, none⟩), bv, .bool true, .bool true, zz, zz, zz]
def tx_a89 (t : Th) (sv : Value) (bv : Value) (nv : Value) (g1 : Nat) (g3 : Nat) : Act := ⟨((tx_l30 t sv bv nv g1 g3) ++ ((tx_l63 t g1 g3) ++ ((tx_l89 t sv bv g1 g3) ++ (tx_l4)))).toArray, []⟩
def tx_l91 (t : Th) (sv : Value) (bv : Value) (g1 : Nat) (g3 : Nat) : List Value := [.pointer (some ⟨g1, 15, none⟩), .agg #[.int .i64 t.kd, .int .i64 t.mi, .int .i64 t.mn, t.sv], .pointer (some ⟨g3, 15, none⟩), .agg #[.int .i64 t.kd, .int .i64 t.mi, .int .i64 t.mn, sv], .bool true, .bool true, .bool true, .pointer (some ⟨g1, 19, none⟩), t.bv, .pointer (some ⟨g3, 19, none⟩), bv, .bool true, .bool true, .bool true, zz, zz]
def tx_a91 (t : Th) (sv : Value) (bv : Value) (nv : Value) (g1 : Nat) (g3 : Nat) : Act := ⟨((tx_l30 t sv bv nv g1 g3) ++ ((tx_l63 t g1 g3) ++ ((tx_l91 t sv bv g1 g3) ++ (tx_l4)))).toArray, []⟩
def tx_l93 (t : Th) (sv : Value) (bv : Value) (g1 : Nat) (g3 : Nat) : List Value := [.pointer (some ⟨g1, 15, none⟩), .agg #[.int .i64 t.kd, .int .i64 t.mi, .int .i64 t.mn, t.sv], .pointer (some ⟨g3, 15, none⟩), .agg #[.int .i64 t.kd, .int .i64 t.mi, .int .i64 t.mn, sv], .bool true, .bool true, .bool true, .pointer (some ⟨g1, 19, none⟩), t.bv, .pointer (some ⟨g3, 19, none⟩), bv, .bool true, .bool true, .bool true, .pointer (some ⟨g1, 20, none⟩), zz]
def tx_a93 (t : Th) (sv : Value) (bv : Value) (nv : Value) (g1 : Nat) (g3 : Nat) : Act := ⟨((tx_l30 t sv bv nv g1 g3) ++ ((tx_l63 t g1 g3) ++ ((tx_l93 t sv bv g1 g3) ++ (tx_l4)))).toArray, []⟩
def tx_l95 (t : Th) (sv : Value) (bv : Value) (g1 : Nat) (g3 : Nat) : List Value := [.pointer (some ⟨g1, 15, none⟩), .agg #[.int .i64 t.kd, .int .i64 t.mi, .int .i64 t.mn, t.sv], .pointer (some ⟨g3, 15, none⟩), .agg #[.int .i64 t.kd, .int .i64 t.mi, .int .i64 t.mn, sv], .bool true, .bool true, .bool true, .pointer (some ⟨g1, 19, none⟩), t.bv, .pointer (some ⟨g3, 19, none⟩), bv, .bool true, .bool true, .bool true, .pointer (some ⟨g1, 20, none⟩), t.nv]
def tx_a95 (t : Th) (sv : Value) (bv : Value) (nv : Value) (g1 : Nat) (g3 : Nat) : Act := ⟨((tx_l30 t sv bv nv g1 g3) ++ ((tx_l63 t g1 g3) ++ ((tx_l95 t sv bv g1 g3) ++ (tx_l4)))).toArray, []⟩
def tx_l97 (g3 : Nat) : List Value := [.pointer (some ⟨g3, 20, none⟩), zz, zz, zz, zz, zz, zz, zz, zz, zz, zz]
def tx_a97 (t : Th) (sv : Value) (bv : Value) (nv : Value) (g1 : Nat) (g3 : Nat) : Act := ⟨((tx_l30 t sv bv nv g1 g3) ++ ((tx_l63 t g1 g3) ++ ((tx_l95 t sv bv g1 g3) ++ ((tx_l97 g3))))).toArray, []⟩
def tx_l99 (nv : Value) (g3 : Nat) : List Value := [.pointer (some ⟨g3, 20, none⟩), nv, zz, zz, zz, zz, zz, zz, zz, zz, zz]
def tx_a99 (t : Th) (sv : Value) (bv : Value) (nv : Value) (g1 : Nat) (g3 : Nat) : Act := ⟨((tx_l30 t sv bv nv g1 g3) ++ ((tx_l63 t g1 g3) ++ ((tx_l95 t sv bv g1 g3) ++ ((tx_l99 nv g3))))).toArray, []⟩
def tx_l101 (nv : Value) (g3 : Nat) : List Value := [.pointer (some ⟨g3, 20, none⟩), nv, .bool true, zz, zz, zz, zz, zz, zz, zz, zz]
def tx_a101 (t : Th) (sv : Value) (bv : Value) (nv : Value) (g1 : Nat) (g3 : Nat) : Act := ⟨((tx_l30 t sv bv nv g1 g3) ++ ((tx_l63 t g1 g3) ++ ((tx_l95 t sv bv g1 g3) ++ ((tx_l101 nv g3))))).toArray, []⟩
def tx_l103 (nv : Value) (g3 : Nat) : List Value := [.pointer (some ⟨g3, 20, none⟩), nv, .bool true, .bool true, zz, zz, zz, zz, zz, zz, zz]
def tx_a103 (t : Th) (sv : Value) (bv : Value) (nv : Value) (g1 : Nat) (g3 : Nat) : Act := ⟨((tx_l30 t sv bv nv g1 g3) ++ ((tx_l63 t g1 g3) ++ ((tx_l95 t sv bv g1 g3) ++ ((tx_l103 nv g3))))).toArray, []⟩
def tx_l105 (nv : Value) (g3 : Nat) : List Value := [.pointer (some ⟨g3, 20, none⟩), nv, .bool true, .bool true, .bool true, zz, zz, zz, zz, zz, zz]
def tx_a105 (t : Th) (sv : Value) (bv : Value) (nv : Value) (g1 : Nat) (g3 : Nat) : Act := ⟨((tx_l30 t sv bv nv g1 g3) ++ ((tx_l63 t g1 g3) ++ ((tx_l95 t sv bv g1 g3) ++ ((tx_l105 nv g3))))).toArray, []⟩
def tx_l107 (nv : Value) (g1 : Nat) (g3 : Nat) : List Value := [.pointer (some ⟨g3, 20, none⟩), nv, .bool true, .bool true, .bool true, .pointer (some ⟨g1, 21, none⟩), zz, zz, zz, zz, zz]
def tx_a107 (t : Th) (sv : Value) (bv : Value) (nv : Value) (g1 : Nat) (g3 : Nat) : Act := ⟨((tx_l30 t sv bv nv g1 g3) ++ ((tx_l63 t g1 g3) ++ ((tx_l95 t sv bv g1 g3) ++ ((tx_l107 nv g1 g3))))).toArray, []⟩
def tx_l109 (t : Th) (nv : Value) (g1 : Nat) (g3 : Nat) : List Value := [.pointer (some ⟨g3, 20, none⟩), nv, .bool true, .bool true, .bool true, .pointer (some ⟨g1, 21, none⟩), .int .i64 t.old, zz, zz, zz, zz]
def tx_a109 (t : Th) (sv : Value) (bv : Value) (nv : Value) (g1 : Nat) (g3 : Nat) : Act := ⟨((tx_l30 t sv bv nv g1 g3) ++ ((tx_l63 t g1 g3) ++ ((tx_l95 t sv bv g1 g3) ++ ((tx_l109 t nv g1 g3))))).toArray, []⟩
def tx_l111 (t : Th) (nv : Value) (g1 : Nat) (g3 : Nat) : List Value := [.pointer (some ⟨g3, 20, none⟩), nv, .bool true, .bool true, .bool true, .pointer (some ⟨g1, 21, none⟩), .int .i64 t.old, .pointer (some ⟨g3, 21, none⟩), zz, zz, zz]
def tx_a111 (t : Th) (sv : Value) (bv : Value) (nv : Value) (g1 : Nat) (g3 : Nat) : Act := ⟨((tx_l30 t sv bv nv g1 g3) ++ ((tx_l63 t g1 g3) ++ ((tx_l95 t sv bv g1 g3) ++ ((tx_l111 t nv g1 g3))))).toArray, []⟩
def tx_l113 (t : Th) (nv : Value) (g1 : Nat) (g3 : Nat) : List Value := [.pointer (some ⟨g3, 20, none⟩), nv, .bool true, .bool true, .bool true, .pointer (some ⟨g1, 21, none⟩), .int .i64 t.old, .pointer (some ⟨g3, 21, none⟩), .int .i64 t.old, zz, zz]
def tx_a113 (t : Th) (sv : Value) (bv : Value) (nv : Value) (g1 : Nat) (g3 : Nat) : Act := ⟨((tx_l30 t sv bv nv g1 g3) ++ ((tx_l63 t g1 g3) ++ ((tx_l95 t sv bv g1 g3) ++ ((tx_l113 t nv g1 g3))))).toArray, []⟩
def tx_l115 (t : Th) (nv : Value) (g1 : Nat) (g3 : Nat) : List Value := [.pointer (some ⟨g3, 20, none⟩), nv, .bool true, .bool true, .bool true, .pointer (some ⟨g1, 21, none⟩), .int .i64 t.old, .pointer (some ⟨g3, 21, none⟩), .int .i64 t.old, .bool true, zz]
def tx_a115 (t : Th) (sv : Value) (bv : Value) (nv : Value) (g1 : Nat) (g3 : Nat) : Act := ⟨((tx_l30 t sv bv nv g1 g3) ++ ((tx_l63 t g1 g3) ++ ((tx_l95 t sv bv g1 g3) ++ ((tx_l115 t nv g1 g3))))).toArray, []⟩
def tx_l117 (t : Th) (nv : Value) (g1 : Nat) (g3 : Nat) : List Value := [.pointer (some ⟨g3, 20, none⟩), nv, .bool true, .bool true, .bool true, .pointer (some ⟨g1, 21, none⟩), .int .i64 t.old, .pointer (some ⟨g3, 21, none⟩), .int .i64 t.old, .bool true, .bool true]
def tx_a117 (t : Th) (sv : Value) (bv : Value) (nv : Value) (g1 : Nat) (g3 : Nat) : Act := ⟨((tx_l30 t sv bv nv g1 g3) ++ ((tx_l63 t g1 g3) ++ ((tx_l95 t sv bv g1 g3) ++ ((tx_l117 t nv g1 g3))))).toArray, []⟩
def tx_l119 (t : Th) (sv : Value) (bv : Value) (nv : Value) (g1 : Nat) (g3 : Nat) : List Value := [.agg (tx_c0 t), .agg (tx_c1 t sv bv nv), .pointer (some ⟨g1, 0, none⟩), .pointer (some ⟨g3, 0, none⟩), .bool true, .pointer (some ⟨g1, 0, none⟩), .int .i64 t.pc, .pointer (some ⟨g3, 0, none⟩), .int .i64 t.pc, .bool true, .bool true, .pointer (some ⟨g1, 1, none⟩), .int .i64 t.fu, .pointer (some ⟨g3, 1, none⟩), .int .i64 t.fu, .bool true]
def tx_a119 (t : Th) (sv : Value) (bv : Value) (nv : Value) (g1 : Nat) (g3 : Nat) : Act := ⟨((tx_l119 t sv bv nv g1 g3) ++ ((tx_l63 t g1 g3) ++ ((tx_l95 t sv bv g1 g3) ++ ((tx_l117 t nv g1 g3))))).toArray, []⟩
set_option maxHeartbeats 8000000 in
set_option maxRecDepth 100000 in
theorem th_same {w : World} {t : Th} {sv bv nv : Value} {xs : List Int} {bs : List S42} {ns : List Int} (h : t.reads w xs bs ns) (h2 : (t.rows sv bv nv).reads w xs bs ns) (hl : xs.length ≤ 1000 ∧ bs.length ≤ 1000 ∧ ns.length ≤ 1000) : Calls Try.prog 12 #[.agg t.cells, .agg (t.rows sv bv nv).cells] w fun e w' => e = .returned (.bool true) ∧ Below w.heap.size w w' := by
  refine calls_of_wp Try.func12 rfl ?_
  have hW := Ws.nil w
  refine wp_seq ?_
  refine wp_region_list ?_
  obtain ⟨g1, W2, hr, hW, hbb, hge⟩ := hW.mk1 (P := Try.prog) (s := Instr.box 32 (.agg (tx_c0 t))) (tx_c0 t) 32 (by kernel_rfl)
  refine se (a' := (tx_a2 t sv bv nv g1)) (.pointer (some ⟨g1, 0, none⟩)) (Eq.trans (b := (do pure (Next.value (← Instr.box 32 (.agg (tx_c0 t)))) : Sem Next).run Try.prog w) (by kernel_rfl) (st_val hr)) ?_
  obtain ⟨g3, W4, hr, hW, hbb, hge⟩ := hW.mk1 (P := Try.prog) (s := Instr.box 32 (.agg (tx_c1 t sv bv nv))) (tx_c1 t sv bv nv) 32 (by kernel_rfl)
  refine se (a' := (tx_a6 t sv bv nv g1 g3)) (.pointer (some ⟨g3, 0, none⟩)) (Eq.trans (b := (do pure (Next.value (← Instr.box 32 (.agg (tx_c1 t sv bv nv)))) : Sem Next).run Try.prog W2) (by kernel_rfl) (st_val hr)) ?_
  refine sk (a' := (tx_a8 t sv bv nv g1 g3)) (.bool false) ?_
  refine wpList_nil ?_
  refine wp_seq ?_
  refine wp_region_list ?_
  refine sk (a' := (tx_a10 t sv bv nv g1 g3)) (.pointer (some ⟨g1, 0, none⟩)) ?_
  refine se (a' := (tx_a12 t sv bv nv g1 g3)) (.int .i64 t.pc) (ev1 hW 1 0 Try.underlying3) ?_
  refine sk (a' := (tx_a14 t sv bv nv g1 g3)) (.pointer (some ⟨g3, 0, none⟩)) ?_
  refine se (a' := (tx_a16 t sv bv nv g1 g3)) (.int .i64 t.pc) (ev1 hW 0 0 Try.underlying3) ?_
  refine se (a' := (tx_a18 t sv bv nv g1 g3)) (.bool true) (Eq.trans (b := .ok (.value (.bool ((t.pc : Int) == t.pc))) W4) (by kernel_rfl) (st_ok (beq_iff_eq.2 (by omega)))) ?_
  refine sk (a' := (tx_a20 t sv bv nv g1 g3)) (.bool true) ?_
  refine sk (a' := (tx_a22 t sv bv nv g1 g3)) (.pointer (some ⟨g1, 1, none⟩)) ?_
  refine se (a' := (tx_a24 t sv bv nv g1 g3)) (.int .i64 t.fu) (ev1 hW 1 1 Try.underlying3) ?_
  refine sk (a' := (tx_a26 t sv bv nv g1 g3)) (.pointer (some ⟨g3, 1, none⟩)) ?_
  refine se (a' := (tx_a28 t sv bv nv g1 g3)) (.int .i64 t.fu) (ev1 hW 0 1 Try.underlying3) ?_
  refine se (a' := (tx_a30 t sv bv nv g1 g3)) (.bool true) (Eq.trans (b := .ok (.value (.bool ((t.fu : Int) == t.fu))) W4) (by kernel_rfl) (st_ok (beq_iff_eq.2 (by omega)))) ?_
  refine sk (a' := (tx_a32 t sv bv nv g1 g3)) (.bool true) ?_
  refine sk (a' := (tx_a34 t sv bv nv g1 g3)) (.bool true) ?_
  refine sk (a' := (tx_a36 t sv bv nv g1 g3)) (.pointer (some ⟨g1, 2, none⟩)) ?_
  refine se (a' := (tx_a38 t sv bv nv g1 g3)) (.int .i64 t.st) (ev1 hW 1 2 Try.underlying3) ?_
  refine sk (a' := (tx_a40 t sv bv nv g1 g3)) (.pointer (some ⟨g3, 2, none⟩)) ?_
  refine se (a' := (tx_a42 t sv bv nv g1 g3)) (.int .i64 t.st) (ev1 hW 0 2 Try.underlying3) ?_
  refine se (a' := (tx_a44 t sv bv nv g1 g3)) (.bool true) (Eq.trans (b := .ok (.value (.bool ((t.st : Int) == t.st))) W4) (by kernel_rfl) (st_ok (beq_iff_eq.2 (by omega)))) ?_
  refine sk (a' := (tx_a46 t sv bv nv g1 g3)) (.bool true) ?_
  refine sk (a' := (tx_a48 t sv bv nv g1 g3)) (.bool true) ?_
  refine sk (a' := (tx_a50 t sv bv nv g1 g3)) (.pointer (some ⟨g1, 3, none⟩)) ?_
  refine se (a' := (tx_a53 t sv bv nv g1 g3)) (.agg (tx_c2 t)) (evA hW 1 3 Try.underlying26) ?_
  refine sk (a' := (tx_a55 t sv bv nv g1 g3)) (.pointer (some ⟨g3, 3, none⟩)) ?_
  refine se (a' := (tx_a57 t sv bv nv g1 g3)) (.agg (tx_c2 t)) (evA hW 0 3 Try.underlying26) ?_
  refine se (a' := (tx_a59 t sv bv nv g1 g3)) (.bool true) (Eq.trans (b := (do pure (Next.value (← (do pure (Value.bool (← Op.equal 26 (.agg #[.int .i64 (t.R 0), .int .i64 (t.R 1), .int .i64 (t.R 2), .int .i64 (t.R 3), .int .i64 (t.R 4), .int .i64 (t.R 5), .int .i64 (t.R 6), .int .i64 (t.R 7), .int .i64 (t.R 8), .int .i64 (t.R 9), .int .i64 (t.R 10), .int .i64 (t.R 11)]) (.agg #[.int .i64 (t.R 0), .int .i64 (t.R 1), .int .i64 (t.R 2), .int .i64 (t.R 3), .int .i64 (t.R 4), .int .i64 (t.R 5), .int .i64 (t.R 6), .int .i64 (t.R 7), .int .i64 (t.R 8), .int .i64 (t.R 9), .int .i64 (t.R 10), .int .i64 (t.R 11)]))) : Sem Value))) : Sem Next).run Try.prog W4) (by kernel_rfl) (st_val (st_valb (regs_eq t.R W4)))) ?_
  refine sk (a' := (tx_a61 t sv bv nv g1 g3)) (.bool true) ?_
  refine sk (a' := (tx_a63 t sv bv nv g1 g3)) (.bool true) ?_
  refine sk (a' := (tx_a65 t sv bv nv g1 g3)) (.pointer (some ⟨g1, 15, none⟩)) ?_
  refine se (a' := (tx_a67 t sv bv nv g1 g3)) (.agg #[.int .i64 t.kd, .int .i64 t.mi, .int .i64 t.mn, t.sv]) (evA hW 1 15 Try.underlying29) ?_
  refine sk (a' := (tx_a69 t sv bv nv g1 g3)) (.pointer (some ⟨g3, 15, none⟩)) ?_
  refine se (a' := (tx_a71 t sv bv nv g1 g3)) (.agg #[.int .i64 t.kd, .int .i64 t.mi, .int .i64 t.mn, sv]) (evA hW 0 15 Try.underlying29) ?_
  refine st_call (c_micro (h.s.below hW.below) (h2.s.below hW.below) hl.1 t.kd t.mi t.mn) (by kernel_rfl) (by kernel_rfl) ?_
  rintro _ W5 ⟨rfl, hB⟩
  have hW := hW.step hB
  refine ⟨_, (tx_a73 t sv bv nv g1 g3), rfl, by kernel_rfl, ?_⟩
  refine sk (a' := (tx_a75 t sv bv nv g1 g3)) (.bool true) ?_
  refine sk (a' := (tx_a77 t sv bv nv g1 g3)) (.bool true) ?_
  refine sk (a' := (tx_a79 t sv bv nv g1 g3)) (.pointer (some ⟨g1, 19, none⟩)) ?_
  refine se (a' := (tx_a81 t sv bv nv g1 g3)) (t.bv) (ev1 hW 1 19 Try.underlying30) ?_
  refine sk (a' := (tx_a83 t sv bv nv g1 g3)) (.pointer (some ⟨g3, 19, none⟩)) ?_
  refine se (a' := (tx_a85 t sv bv nv g1 g3)) (bv) (ev1 hW 0 19 Try.underlying30) ?_
  refine st_call (c_bags (h.b.below hW.below) (h2.b.below hW.below) hl.2.1) (by kernel_rfl) (by kernel_rfl) ?_
  rintro _ W6 ⟨rfl, hB⟩
  have hW := hW.step hB
  refine ⟨_, (tx_a87 t sv bv nv g1 g3), rfl, by kernel_rfl, ?_⟩
  refine sk (a' := (tx_a89 t sv bv nv g1 g3)) (.bool true) ?_
  refine sk (a' := (tx_a91 t sv bv nv g1 g3)) (.bool true) ?_
  refine sk (a' := (tx_a93 t sv bv nv g1 g3)) (.pointer (some ⟨g1, 20, none⟩)) ?_
  refine se (a' := (tx_a95 t sv bv nv g1 g3)) (t.nv) (ev1 hW 1 20 Try.underlying27) ?_
  refine sk (a' := (tx_a97 t sv bv nv g1 g3)) (.pointer (some ⟨g3, 20, none⟩)) ?_
  refine se (a' := (tx_a99 t sv bv nv g1 g3)) (nv) (ev1 hW 0 20 Try.underlying27) ?_
  refine st_call (c_nums (h.n.below hW.below) (h2.n.below hW.below) hl.2.2) (by kernel_rfl) (by kernel_rfl) ?_
  rintro _ W7 ⟨rfl, hB⟩
  have hW := hW.step hB
  refine ⟨_, (tx_a101 t sv bv nv g1 g3), rfl, by kernel_rfl, ?_⟩
  refine sk (a' := (tx_a103 t sv bv nv g1 g3)) (.bool true) ?_
  refine sk (a' := (tx_a105 t sv bv nv g1 g3)) (.bool true) ?_
  refine sk (a' := (tx_a107 t sv bv nv g1 g3)) (.pointer (some ⟨g1, 21, none⟩)) ?_
  refine se (a' := (tx_a109 t sv bv nv g1 g3)) (.int .i64 t.old) (ev1 hW 1 21 Try.underlying3) ?_
  refine sk (a' := (tx_a111 t sv bv nv g1 g3)) (.pointer (some ⟨g3, 21, none⟩)) ?_
  refine se (a' := (tx_a113 t sv bv nv g1 g3)) (.int .i64 t.old) (ev1 hW 0 21 Try.underlying3) ?_
  refine se (a' := (tx_a115 t sv bv nv g1 g3)) (.bool true) (Eq.trans (b := .ok (.value (.bool ((t.old : Int) == t.old))) W7) (by kernel_rfl) (st_ok (beq_iff_eq.2 (by omega)))) ?_
  refine sk (a' := (tx_a117 t sv bv nv g1 g3)) (.bool true) ?_
  refine sk (a' := (tx_a119 t sv bv nv g1 g3)) (.bool true) ?_
  refine wpList_nil ?_
  refine wp_ret ?_
  (try simp only [Exit.then, Exit.inBlock])
  change bodyPost Try.prog Try.f12 _ .ret _ _
  refine bodyPost_ret (results_tmp rfl _ _ _) rfl ?_
  exact ⟨rfl, hW.below⟩
end Go.Proofs.Ythcmcekjgecnhaa.Th
