/- What Next answers. No condition beside those that each theorem names. -/
import Derived.Test.YthcmcekjgecnhaaTeB
import Derived.Test.YthcmcekjgecnhaaTeH
namespace Go.Proofs.Ythcmcekjgecnhaa.Th
open Go.RowKit Go.Proofs.YthcmcekjgecnhaaW.PrintWords Go.Proofs.YthcmcekjgecnhaaW.PrintLast
open Go.Proofs.YthcmcekjgecnhaaW.HWords Go.Proofs.Ythcmcekjgecnhaa.QThreadLocals
set_option linter.unusedVariables false
set_option linter.unusedSimpArgs false
def tna_c0 (t : Th) : Array Value := #[.int .i64 t.pc, .int .i64 t.fu, .int .i64 t.st, .int .i64 (t.R 0), .int .i64 (t.R 1), .int .i64 (t.R 2), .int .i64 (t.R 3), .int .i64 (t.R 4), .int .i64 (t.R 5), .int .i64 (t.R 6), .int .i64 (t.R 7), .int .i64 (t.R 8), .int .i64 (t.R 9), .int .i64 (t.R 10), .int .i64 (t.R 11), .int .i64 t.kd, .int .i64 t.mi, .int .i64 t.mn, t.sv, t.bv, t.nv, .int .i64 t.old]
def tna_a1 (t : Th) (A : Option Addr) (n : Nat) (cc : Nat) (g1 : Nat) : Act := ⟨#[.agg (tna_c0 t), .slice A n cc, .pointer (some ⟨g1, 0, none⟩), zz, zz, zz, zz, zz, zz, zz, zz, zz, zz, zz, zz, zz, zz, zz, zz, zz, zz], []⟩
def tna_a2 (t : Th) (A : Option Addr) (n : Nat) (cc : Nat) (g1 : Nat) (g3 : Nat) : Act := ⟨#[.agg (tna_c0 t), .slice A n cc, .pointer (some ⟨g1, 0, none⟩), zz, .pointer (some ⟨g3, 0, none⟩), zz, zz, zz, zz, zz, zz, zz, zz, zz, zz, zz, zz, zz, zz, zz, zz], []⟩
def tna_a3 (t : Th) (A : Option Addr) (n : Nat) (cc : Nat) (g1 : Nat) (g3 : Nat) : Act := ⟨#[.agg (tna_c0 t), .slice A n cc, .pointer (some ⟨g1, 0, none⟩), zz, .pointer (some ⟨g3, 0, none⟩), .bool false, zz, zz, zz, zz, zz, zz, zz, zz, zz, zz, zz, zz, zz, zz, zz], []⟩
def tna_a4 (t : Th) (A : Option Addr) (n : Nat) (cc : Nat) (g1 : Nat) (g3 : Nat) : Act := ⟨#[.agg (tna_c0 t), .slice A n cc, .pointer (some ⟨g1, 0, none⟩), zz, .pointer (some ⟨g3, 0, none⟩), .bool false, .agg (tna_c0 t), zz, zz, zz, zz, zz, zz, zz, zz, zz, zz, zz, zz, zz, zz], []⟩
def tna_a5 (t : Th) (A : Option Addr) (n : Nat) (cc : Nat) (g1 : Nat) (g3 : Nat) : Act := ⟨#[.agg (tna_c0 t), .slice A n cc, .pointer (some ⟨g1, 0, none⟩), zz, .pointer (some ⟨g3, 0, none⟩), .bool false, .agg (tna_c0 t), .slice A n cc, zz, zz, zz, zz, zz, zz, zz, zz, zz, zz, zz, zz, zz], []⟩
def tna_a6 (t : Th) (A : Option Addr) (n : Nat) (cc : Nat) (g1 : Nat) (g3 : Nat) : Act := ⟨#[.agg (tna_c0 t), .slice A n cc, .pointer (some ⟨g1, 0, none⟩), zz, .pointer (some ⟨g3, 0, none⟩), .bool false, .agg (tna_c0 t), .slice A n cc, .bool true, zz, zz, zz, zz, zz, zz, zz, zz, zz, zz, zz, zz], []⟩
def tna_a7 (t : Th) (A : Option Addr) (n : Nat) (cc : Nat) (g1 : Nat) (g3 : Nat) : Act := ⟨#[.agg (tna_c0 t), .slice A n cc, .pointer (some ⟨g1, 0, none⟩), zz, .pointer (some ⟨g3, 0, none⟩), .bool false, .agg (tna_c0 t), .slice A n cc, .bool true, .bool true, zz, zz, zz, zz, zz, zz, zz, zz, zz, zz, zz], []⟩
def tna_a8 (t : Th) (A : Option Addr) (n : Nat) (cc : Nat) (g1 : Nat) (g3 : Nat) : Act := ⟨#[.agg (tna_c0 t), .slice A n cc, .pointer (some ⟨g1, 0, none⟩), zz, .pointer (some ⟨g3, 0, none⟩), .bool false, .agg (tna_c0 t), .slice A n cc, .bool true, .bool true, zz, zz, zz, zz, .bool true, zz, zz, zz, zz, zz, zz], []⟩
def tna_a9 (t : Th) (A : Option Addr) (n : Nat) (cc : Nat) (g1 : Nat) (g3 : Nat) : Act := ⟨#[.agg (tna_c0 t), .slice A n cc, .pointer (some ⟨g1, 0, none⟩), zz, .pointer (some ⟨g3, 0, none⟩), .bool false, .agg (tna_c0 t), .slice A n cc, .bool true, .bool true, zz, zz, zz, zz, .bool true, .agg #[.int .i64 0, .int .i64 0, .int .i64 0, .int .i64 0, .int .i64 0], zz, zz, zz, zz, zz], []⟩
def tnb_c0 (t : Th) : Array Value := #[.int .i64 t.pc, .int .i64 t.fu, .int .i64 t.st, .int .i64 (t.R 0), .int .i64 (t.R 1), .int .i64 (t.R 2), .int .i64 (t.R 3), .int .i64 (t.R 4), .int .i64 (t.R 5), .int .i64 (t.R 6), .int .i64 (t.R 7), .int .i64 (t.R 8), .int .i64 (t.R 9), .int .i64 (t.R 10), .int .i64 (t.R 11), .int .i64 t.kd, .int .i64 t.mi, .int .i64 t.mn, t.sv, t.bv, t.nv, .int .i64 t.old]
def tnb_a1 (t : Th) (A : Option Addr) (n : Nat) (cc : Nat) (g1 : Nat) : Act := ⟨#[.agg (tnb_c0 t), .slice A n cc, .pointer (some ⟨g1, 0, none⟩), zz, zz, zz, zz, zz, zz, zz, zz, zz, zz, zz, zz, zz, zz, zz, zz, zz, zz], []⟩
def tnb_a2 (t : Th) (A : Option Addr) (n : Nat) (cc : Nat) (g1 : Nat) (g3 : Nat) : Act := ⟨#[.agg (tnb_c0 t), .slice A n cc, .pointer (some ⟨g1, 0, none⟩), zz, .pointer (some ⟨g3, 0, none⟩), zz, zz, zz, zz, zz, zz, zz, zz, zz, zz, zz, zz, zz, zz, zz, zz], []⟩
def tnb_a3 (t : Th) (A : Option Addr) (n : Nat) (cc : Nat) (g1 : Nat) (g3 : Nat) : Act := ⟨#[.agg (tnb_c0 t), .slice A n cc, .pointer (some ⟨g1, 0, none⟩), zz, .pointer (some ⟨g3, 0, none⟩), .bool false, zz, zz, zz, zz, zz, zz, zz, zz, zz, zz, zz, zz, zz, zz, zz], []⟩
def tnb_a4 (t : Th) (A : Option Addr) (n : Nat) (cc : Nat) (g1 : Nat) (g3 : Nat) : Act := ⟨#[.agg (tnb_c0 t), .slice A n cc, .pointer (some ⟨g1, 0, none⟩), zz, .pointer (some ⟨g3, 0, none⟩), .bool false, .agg (tnb_c0 t), zz, zz, zz, zz, zz, zz, zz, zz, zz, zz, zz, zz, zz, zz], []⟩
def tnb_a5 (t : Th) (A : Option Addr) (n : Nat) (cc : Nat) (g1 : Nat) (g3 : Nat) : Act := ⟨#[.agg (tnb_c0 t), .slice A n cc, .pointer (some ⟨g1, 0, none⟩), zz, .pointer (some ⟨g3, 0, none⟩), .bool false, .agg (tnb_c0 t), .slice A n cc, zz, zz, zz, zz, zz, zz, zz, zz, zz, zz, zz, zz, zz], []⟩
def tnb_a6 (t : Th) (A : Option Addr) (n : Nat) (cc : Nat) (g1 : Nat) (g3 : Nat) : Act := ⟨#[.agg (tnb_c0 t), .slice A n cc, .pointer (some ⟨g1, 0, none⟩), zz, .pointer (some ⟨g3, 0, none⟩), .bool false, .agg (tnb_c0 t), .slice A n cc, .bool false, zz, zz, zz, zz, zz, zz, zz, zz, zz, zz, zz, zz], []⟩
def tnb_a7 (t : Th) (A : Option Addr) (n : Nat) (cc : Nat) (g1 : Nat) (g3 : Nat) : Act := ⟨#[.agg (tnb_c0 t), .slice A n cc, .pointer (some ⟨g1, 0, none⟩), zz, .pointer (some ⟨g3, 0, none⟩), .bool false, .agg (tnb_c0 t), .slice A n cc, .bool false, .bool false, zz, zz, zz, zz, zz, zz, zz, zz, zz, zz, zz], []⟩
def tnb_a8 (t : Th) (A : Option Addr) (n : Nat) (cc : Nat) (g1 : Nat) (g3 : Nat) : Act := ⟨#[.agg (tnb_c0 t), .slice A n cc, .pointer (some ⟨g1, 0, none⟩), zz, .pointer (some ⟨g3, 0, none⟩), .bool false, .agg (tnb_c0 t), .slice A n cc, .bool false, .bool false, .pointer (some ⟨g1, 15, none⟩), zz, zz, zz, zz, zz, zz, zz, zz, zz, zz], []⟩
def tnb_a9 (t : Th) (A : Option Addr) (n : Nat) (cc : Nat) (g1 : Nat) (g3 : Nat) : Act := ⟨#[.agg (tnb_c0 t), .slice A n cc, .pointer (some ⟨g1, 0, none⟩), zz, .pointer (some ⟨g3, 0, none⟩), .bool false, .agg (tnb_c0 t), .slice A n cc, .bool false, .bool false, .pointer (some ⟨g1, 15, none⟩), .pointer (some ⟨g1, 15, none⟩), zz, zz, zz, zz, zz, zz, zz, zz, zz], []⟩
def tnb_a10 (t : Th) (A : Option Addr) (n : Nat) (cc : Nat) (g1 : Nat) (g3 : Nat) : Act := ⟨#[.agg (tnb_c0 t), .slice A n cc, .pointer (some ⟨g1, 0, none⟩), zz, .pointer (some ⟨g3, 0, none⟩), .bool false, .agg (tnb_c0 t), .slice A n cc, .bool false, .bool false, .pointer (some ⟨g1, 15, none⟩), .pointer (some ⟨g1, 15, none⟩), .int .i64 t.kd, zz, zz, zz, zz, zz, zz, zz, zz], []⟩
def tnb_a11 (t : Th) (A : Option Addr) (n : Nat) (cc : Nat) (g1 : Nat) (g3 : Nat) : Act := ⟨#[.agg (tnb_c0 t), .slice A n cc, .pointer (some ⟨g1, 0, none⟩), zz, .pointer (some ⟨g3, 0, none⟩), .bool false, .agg (tnb_c0 t), .slice A n cc, .bool false, .bool false, .pointer (some ⟨g1, 15, none⟩), .pointer (some ⟨g1, 15, none⟩), .int .i64 t.kd, .bool true, zz, zz, zz, zz, zz, zz, zz], []⟩
def tnb_a12 (t : Th) (A : Option Addr) (n : Nat) (cc : Nat) (g1 : Nat) (g3 : Nat) : Act := ⟨#[.agg (tnb_c0 t), .slice A n cc, .pointer (some ⟨g1, 0, none⟩), zz, .pointer (some ⟨g3, 0, none⟩), .bool false, .agg (tnb_c0 t), .slice A n cc, .bool false, .bool false, .pointer (some ⟨g1, 15, none⟩), .pointer (some ⟨g1, 15, none⟩), .int .i64 t.kd, .bool true, .bool true, zz, zz, zz, zz, zz, zz], []⟩
def tnb_a13 (t : Th) (A : Option Addr) (n : Nat) (cc : Nat) (g1 : Nat) (g3 : Nat) : Act := ⟨#[.agg (tnb_c0 t), .slice A n cc, .pointer (some ⟨g1, 0, none⟩), zz, .pointer (some ⟨g3, 0, none⟩), .bool false, .agg (tnb_c0 t), .slice A n cc, .bool false, .bool false, .pointer (some ⟨g1, 15, none⟩), .pointer (some ⟨g1, 15, none⟩), .int .i64 t.kd, .bool true, .bool true, .agg #[.int .i64 0, .int .i64 0, .int .i64 0, .int .i64 0, .int .i64 0], zz, zz, zz, zz, zz], []⟩
def tnc_c0 (t : Th) : Array Value := #[.int .i64 t.pc, .int .i64 t.fu, .int .i64 t.st, .int .i64 (t.R 0), .int .i64 (t.R 1), .int .i64 (t.R 2), .int .i64 (t.R 3), .int .i64 (t.R 4), .int .i64 (t.R 5), .int .i64 (t.R 6), .int .i64 (t.R 7), .int .i64 (t.R 8), .int .i64 (t.R 9), .int .i64 (t.R 10), .int .i64 (t.R 11), .int .i64 t.kd, .int .i64 t.mi, .int .i64 t.mn, t.sv, t.bv, t.nv, .int .i64 t.old]
def tnc_a1 (t : Th) (ad : Addr) (n : Nat) (cc : Nat) (g1 : Nat) : Act := ⟨#[.agg (tnc_c0 t), .slice (some ad) n cc, .pointer (some ⟨g1, 0, none⟩), zz, zz, zz, zz, zz, zz, zz, zz, zz, zz, zz, zz, zz, zz, zz, zz, zz, zz], []⟩
def tnc_a2 (t : Th) (ad : Addr) (n : Nat) (cc : Nat) (g1 : Nat) (g3 : Nat) : Act := ⟨#[.agg (tnc_c0 t), .slice (some ad) n cc, .pointer (some ⟨g1, 0, none⟩), zz, .pointer (some ⟨g3, 0, none⟩), zz, zz, zz, zz, zz, zz, zz, zz, zz, zz, zz, zz, zz, zz, zz, zz], []⟩
def tnc_a3 (t : Th) (ad : Addr) (n : Nat) (cc : Nat) (g1 : Nat) (g3 : Nat) : Act := ⟨#[.agg (tnc_c0 t), .slice (some ad) n cc, .pointer (some ⟨g1, 0, none⟩), zz, .pointer (some ⟨g3, 0, none⟩), .bool false, zz, zz, zz, zz, zz, zz, zz, zz, zz, zz, zz, zz, zz, zz, zz], []⟩
def tnc_a4 (t : Th) (ad : Addr) (n : Nat) (cc : Nat) (g1 : Nat) (g3 : Nat) : Act := ⟨#[.agg (tnc_c0 t), .slice (some ad) n cc, .pointer (some ⟨g1, 0, none⟩), zz, .pointer (some ⟨g3, 0, none⟩), .bool false, .agg (tnc_c0 t), zz, zz, zz, zz, zz, zz, zz, zz, zz, zz, zz, zz, zz, zz], []⟩
def tnc_a5 (t : Th) (ad : Addr) (n : Nat) (cc : Nat) (g1 : Nat) (g3 : Nat) : Act := ⟨#[.agg (tnc_c0 t), .slice (some ad) n cc, .pointer (some ⟨g1, 0, none⟩), zz, .pointer (some ⟨g3, 0, none⟩), .bool false, .agg (tnc_c0 t), .slice (some ad) n cc, zz, zz, zz, zz, zz, zz, zz, zz, zz, zz, zz, zz, zz], []⟩
def tnc_a6 (t : Th) (ad : Addr) (n : Nat) (cc : Nat) (g1 : Nat) (g3 : Nat) : Act := ⟨#[.agg (tnc_c0 t), .slice (some ad) n cc, .pointer (some ⟨g1, 0, none⟩), zz, .pointer (some ⟨g3, 0, none⟩), .bool false, .agg (tnc_c0 t), .slice (some ad) n cc, .bool false, zz, zz, zz, zz, zz, zz, zz, zz, zz, zz, zz, zz], []⟩
def tnc_a7 (t : Th) (ad : Addr) (n : Nat) (cc : Nat) (g1 : Nat) (g3 : Nat) : Act := ⟨#[.agg (tnc_c0 t), .slice (some ad) n cc, .pointer (some ⟨g1, 0, none⟩), zz, .pointer (some ⟨g3, 0, none⟩), .bool false, .agg (tnc_c0 t), .slice (some ad) n cc, .bool false, .bool false, zz, zz, zz, zz, zz, zz, zz, zz, zz, zz, zz], []⟩
def tnc_a8 (t : Th) (ad : Addr) (n : Nat) (cc : Nat) (g1 : Nat) (g3 : Nat) : Act := ⟨#[.agg (tnc_c0 t), .slice (some ad) n cc, .pointer (some ⟨g1, 0, none⟩), zz, .pointer (some ⟨g3, 0, none⟩), .bool false, .agg (tnc_c0 t), .slice (some ad) n cc, .bool false, .bool false, .pointer (some ⟨g1, 15, none⟩), zz, zz, zz, zz, zz, zz, zz, zz, zz, zz], []⟩
def tnc_a9 (t : Th) (ad : Addr) (n : Nat) (cc : Nat) (g1 : Nat) (g3 : Nat) : Act := ⟨#[.agg (tnc_c0 t), .slice (some ad) n cc, .pointer (some ⟨g1, 0, none⟩), zz, .pointer (some ⟨g3, 0, none⟩), .bool false, .agg (tnc_c0 t), .slice (some ad) n cc, .bool false, .bool false, .pointer (some ⟨g1, 15, none⟩), .pointer (some ⟨g1, 15, none⟩), zz, zz, zz, zz, zz, zz, zz, zz, zz], []⟩
def tnc_a10 (t : Th) (ad : Addr) (n : Nat) (cc : Nat) (g1 : Nat) (g3 : Nat) : Act := ⟨#[.agg (tnc_c0 t), .slice (some ad) n cc, .pointer (some ⟨g1, 0, none⟩), zz, .pointer (some ⟨g3, 0, none⟩), .bool false, .agg (tnc_c0 t), .slice (some ad) n cc, .bool false, .bool false, .pointer (some ⟨g1, 15, none⟩), .pointer (some ⟨g1, 15, none⟩), .int .i64 t.kd, zz, zz, zz, zz, zz, zz, zz, zz], []⟩
def tnc_a11 (t : Th) (ad : Addr) (n : Nat) (cc : Nat) (g1 : Nat) (g3 : Nat) : Act := ⟨#[.agg (tnc_c0 t), .slice (some ad) n cc, .pointer (some ⟨g1, 0, none⟩), zz, .pointer (some ⟨g3, 0, none⟩), .bool false, .agg (tnc_c0 t), .slice (some ad) n cc, .bool false, .bool false, .pointer (some ⟨g1, 15, none⟩), .pointer (some ⟨g1, 15, none⟩), .int .i64 t.kd, .bool false, zz, zz, zz, zz, zz, zz, zz], []⟩
def tnc_a12 (t : Th) (ad : Addr) (n : Nat) (cc : Nat) (g1 : Nat) (g3 : Nat) : Act := ⟨#[.agg (tnc_c0 t), .slice (some ad) n cc, .pointer (some ⟨g1, 0, none⟩), zz, .pointer (some ⟨g3, 0, none⟩), .bool false, .agg (tnc_c0 t), .slice (some ad) n cc, .bool false, .bool false, .pointer (some ⟨g1, 15, none⟩), .pointer (some ⟨g1, 15, none⟩), .int .i64 t.kd, .bool false, .bool false, zz, zz, zz, zz, zz, zz], []⟩
def tnc_a13 (t : Th) (ad : Addr) (n : Nat) (cc : Nat) (g1 : Nat) (g3 : Nat) : Act := ⟨#[.agg (tnc_c0 t), .slice (some ad) n cc, .pointer (some ⟨g1, 0, none⟩), zz, .pointer (some ⟨g3, 0, none⟩), .bool false, .agg (tnc_c0 t), .slice (some ad) n cc, .bool false, .bool false, .pointer (some ⟨g1, 15, none⟩), .pointer (some ⟨g1, 15, none⟩), .int .i64 t.kd, .bool false, .bool false, zz, .slice (some ad) n cc, zz, zz, zz, zz], []⟩
def tnc_a14 (t : Th) (ad : Addr) (n : Nat) (cc : Nat) (g1 : Nat) (g3 : Nat) : Act := ⟨#[.agg (tnc_c0 t), .slice (some ad) n cc, .pointer (some ⟨g1, 0, none⟩), zz, .pointer (some ⟨g3, 0, none⟩), .bool false, .agg (tnc_c0 t), .slice (some ad) n cc, .bool false, .bool false, .pointer (some ⟨g1, 15, none⟩), .pointer (some ⟨g1, 15, none⟩), .int .i64 t.kd, .bool false, .bool false, zz, .slice (some ad) n cc, .pointer (some ⟨g1, 0, none⟩), zz, zz, zz], []⟩
def tnc_a15 (t : Th) (ad : Addr) (n : Nat) (cc : Nat) (g1 : Nat) (g3 : Nat) : Act := ⟨#[.agg (tnc_c0 t), .slice (some ad) n cc, .pointer (some ⟨g1, 0, none⟩), zz, .pointer (some ⟨g3, 0, none⟩), .bool false, .agg (tnc_c0 t), .slice (some ad) n cc, .bool false, .bool false, .pointer (some ⟨g1, 15, none⟩), .pointer (some ⟨g1, 15, none⟩), .int .i64 t.kd, .bool false, .bool false, zz, .slice (some ad) n cc, .pointer (some ⟨g1, 0, none⟩), .int .i64 t.pc, zz, zz], []⟩
def tnc_a16 (t : Th) (ad : Addr) (n : Nat) (cc : Nat) (g1 : Nat) (g3 : Nat) : Act := ⟨#[.agg (tnc_c0 t), .slice (some ad) n cc, .pointer (some ⟨g1, 0, none⟩), zz, .pointer (some ⟨g3, 0, none⟩), .bool false, .agg (tnc_c0 t), .slice (some ad) n cc, .bool false, .bool false, .pointer (some ⟨g1, 15, none⟩), .pointer (some ⟨g1, 15, none⟩), .int .i64 t.kd, .bool false, .bool false, zz, .slice (some ad) n cc, .pointer (some ⟨g1, 0, none⟩), .int .i64 t.pc, .pointer (some (ad.add (t.pc.toNat * 5))), zz], []⟩
def tnc_a17 (t : Th) (ad : Addr) (n : Nat) (cc : Nat) (o : Int) (ia : Int) (ib : Int) (ic : Int) (id_ : Int) (g1 : Nat) (g3 : Nat) : Act := ⟨#[.agg (tnc_c0 t), .slice (some ad) n cc, .pointer (some ⟨g1, 0, none⟩), zz, .pointer (some ⟨g3, 0, none⟩), .bool false, .agg (tnc_c0 t), .slice (some ad) n cc, .bool false, .bool false, .pointer (some ⟨g1, 15, none⟩), .pointer (some ⟨g1, 15, none⟩), .int .i64 t.kd, .bool false, .bool false, zz, .slice (some ad) n cc, .pointer (some ⟨g1, 0, none⟩), .int .i64 t.pc, .pointer (some (ad.add (t.pc.toNat * 5))), .agg #[.int .i64 o, .int .i64 ia, .int .i64 ib, .int .i64 ic, .int .i64 id_]], []⟩
def tnc_a18 (t : Th) (ad : Addr) (n : Nat) (cc : Nat) (o : Int) (ia : Int) (ib : Int) (ic : Int) (id_ : Int) (g1 : Nat) (g3 : Nat) : Act := ⟨#[.agg (tnc_c0 t), .slice (some ad) n cc, .pointer (some ⟨g1, 0, none⟩), zz, .pointer (some ⟨g3, 0, none⟩), .bool true, .agg (tnc_c0 t), .slice (some ad) n cc, .bool false, .bool false, .pointer (some ⟨g1, 15, none⟩), .pointer (some ⟨g1, 15, none⟩), .int .i64 t.kd, .bool false, .bool false, zz, .slice (some ad) n cc, .pointer (some ⟨g1, 0, none⟩), .int .i64 t.pc, .pointer (some (ad.add (t.pc.toNat * 5))), .agg #[.int .i64 o, .int .i64 ia, .int .i64 ib, .int .i64 ic, .int .i64 id_]], []⟩
theorem th_Doneb {b : Bool} {t : Th} {A : Option Addr} {n c : Nat} (hd : doneB t n = b) (hn : n ≤ 9223372036854775807) (w : World) : Calls Try.prog 25 #[.agg t.cells, .slice A n c] w fun e w' => e = .returned (.bool b) ∧ Below w.heap.size w w' := by
  subst hd
  exact th_Done t A n c hn w
set_option maxHeartbeats 8000000 in
set_option maxRecDepth 100000 in
theorem th_Next_a {t : Th} {A : Option Addr} {n cc : Nat} (hn : n ≤ 9223372036854775807) (hd : doneB t n = true) (w : World) : Calls Try.prog 24 #[.agg t.cells, .slice A n cc] w fun e w' => e = .returned (.tuple #[.agg #[.int .i64 0, .int .i64 0, .int .i64 0, .int .i64 0, .int .i64 0], .bool false]) ∧ Below w.heap.size w w' := by
  refine calls_of_wp Try.func24 rfl ?_
  have hW := Ws.nil w
  refine wp_seq ?_
  refine wp_region_list ?_
  obtain ⟨g1, W2, hr, hW, hbb, hge⟩ := hW.mk1 (P := Try.prog) (s := Instr.box 32 (.agg (tna_c0 t))) (tna_c0 t) 32 (by kernel_rfl)
  refine se (a' := (tna_a1 t A n cc g1)) (.pointer (some ⟨g1, 0, none⟩)) (Eq.trans (b := (do pure (Next.value (← Instr.box 32 (.agg (tna_c0 t)))) : Sem Next).run Try.prog w) (by kernel_rfl) (st_val hr)) ?_
  obtain ⟨g3, W4, hr, hW, hbb, hge⟩ := hW.mk1 (P := Try.prog) (s := Instr.alloc 45 true (.tuple #[])) #[.int .i64 0, .int .i64 0, .int .i64 0, .int .i64 0, .int .i64 0] 45 (by kernel_rfl)
  refine se (a' := (tna_a2 t A n cc g1 g3)) (.pointer (some ⟨g3, 0, none⟩)) (Eq.trans (b := (do pure (Next.value (← Instr.alloc 45 true (.tuple #[]))) : Sem Next).run Try.prog W2) (by kernel_rfl) (st_val hr)) ?_
  refine sk (a' := (tna_a3 t A n cc g1 g3)) (.bool false) ?_
  refine wpList_nil ?_
  refine wp_seq ?_
  refine wp_seq ?_
  refine wp_region_list ?_
  refine se (a' := (tna_a4 t A n cc g1 g3)) (.agg (tna_c0 t)) (evA hW 1 0 Try.underlying32) ?_
  refine sk (a' := (tna_a5 t A n cc g1 g3)) (.slice A n cc) ?_
  refine st_call (th_Doneb (t := (⟨t.pc, t.fu, t.st, t.R, t.kd, t.mi, t.mn, t.sv, t.bv, t.nv, t.old⟩ : Th)) (A := A) (n := n) (c := cc) hd hn W4) (by kernel_rfl) (by kernel_rfl) ?_
  rintro _ W5 ⟨rfl, hB⟩
  have hW := hW.step hB
  refine ⟨_, (tna_a6 t A n cc g1 g3), rfl, by kernel_rfl, ?_⟩
  refine st_ones (w' := W5) (a' := (tna_a7 t A n cc g1 g3)) (a2 := (tna_a7 t A n cc g1 g3)) 4 (.bool true) (by kernel_rfl) (by kernel_rfl) (by kernel_rfl) (by kernel_rfl) (by kernel_rfl) ?_
  refine sk (a' := (tna_a8 t A n cc g1 g3)) (.bool true) ?_
  refine wpList_nil ?_
  refine wp_cond (t := true) (by kernel_rfl) ?_
  refine wp_seq ?_
  refine wp_region_list ?_
  refine sk (a' := (tna_a9 t A n cc g1 g3)) (.agg #[.int .i64 0, .int .i64 0, .int .i64 0, .int .i64 0, .int .i64 0]) ?_
  obtain ⟨W6, hr, hW, hF⟩ := hW.storeN (P := Try.prog) (o := 0) (cs' := #[.int .i64 0, .int .i64 0, .int .i64 0, .int .i64 0, .int .i64 0]) (L' := [(g3, 45, #[.int .i64 0, .int .i64 0, .int .i64 0, .int .i64 0, .int .i64 0]), (g1, 32, (tna_c0 t))]) 0 rfl #[.int .i64 0, .int .i64 0, .int .i64 0, .int .i64 0, .int .i64 0] (by kernel_rfl) (Nat.le_of_ble_eq_true rfl) (by kernel_rfl) rfl 45 (by kernel_rfl)
  refine st_none (w' := W6) (a' := (tna_a9 t A n cc g1 g3)) (by kernel_rfl) (Eq.trans (b := (do Instr.storeAt 45 (.pointer (some ⟨g3, 0, none⟩)) (.agg #[.int .i64 0, .int .i64 0, .int .i64 0, .int .i64 0, .int .i64 0]); pure Next.skip : Sem Next).run Try.prog W5) (by kernel_rfl) (st_unit hr)) (by kernel_rfl) ?_
  refine sk (a' := (tna_a9 t A n cc g1 g3)) (.bool false) ?_
  refine wpList_nil ?_
  refine wp_ret ?_
  (try simp only [Exit.then, Exit.inBlock])
  change bodyPost Try.prog Try.f24 _ .ret _ _
  refine bodyPost_ret (results_ct rfl _ _ g3 45 _ (0, 0) _ (by kernel_rfl) (hW.blk 0 _ _ _ rfl).1 Try.underlying45 rfl (by kernel_rfl)) rfl ?_
  exact ⟨rfl, hW.below⟩
set_option maxHeartbeats 8000000 in
set_option maxRecDepth 100000 in
theorem th_Next_b {t : Th} {A : Option Addr} {n cc : Nat} (hn : n ≤ 9223372036854775807) (hd : doneB t n = false) (hk : t.kd ≠ 0) (w : World) : Calls Try.prog 24 #[.agg t.cells, .slice A n cc] w fun e w' => e = .returned (.tuple #[.agg #[.int .i64 0, .int .i64 0, .int .i64 0, .int .i64 0, .int .i64 0], .bool false]) ∧ Below w.heap.size w w' := by
  refine calls_of_wp Try.func24 rfl ?_
  have hW := Ws.nil w
  refine wp_seq ?_
  refine wp_region_list ?_
  obtain ⟨g1, W2, hr, hW, hbb, hge⟩ := hW.mk1 (P := Try.prog) (s := Instr.box 32 (.agg (tnb_c0 t))) (tnb_c0 t) 32 (by kernel_rfl)
  refine se (a' := (tnb_a1 t A n cc g1)) (.pointer (some ⟨g1, 0, none⟩)) (Eq.trans (b := (do pure (Next.value (← Instr.box 32 (.agg (tnb_c0 t)))) : Sem Next).run Try.prog w) (by kernel_rfl) (st_val hr)) ?_
  obtain ⟨g3, W4, hr, hW, hbb, hge⟩ := hW.mk1 (P := Try.prog) (s := Instr.alloc 45 true (.tuple #[])) #[.int .i64 0, .int .i64 0, .int .i64 0, .int .i64 0, .int .i64 0] 45 (by kernel_rfl)
  refine se (a' := (tnb_a2 t A n cc g1 g3)) (.pointer (some ⟨g3, 0, none⟩)) (Eq.trans (b := (do pure (Next.value (← Instr.alloc 45 true (.tuple #[]))) : Sem Next).run Try.prog W2) (by kernel_rfl) (st_val hr)) ?_
  refine sk (a' := (tnb_a3 t A n cc g1 g3)) (.bool false) ?_
  refine wpList_nil ?_
  refine wp_seq ?_
  refine wp_seq ?_
  refine wp_region_list ?_
  refine se (a' := (tnb_a4 t A n cc g1 g3)) (.agg (tnb_c0 t)) (evA hW 1 0 Try.underlying32) ?_
  refine sk (a' := (tnb_a5 t A n cc g1 g3)) (.slice A n cc) ?_
  refine st_call (th_Doneb (t := (⟨t.pc, t.fu, t.st, t.R, t.kd, t.mi, t.mn, t.sv, t.bv, t.nv, t.old⟩ : Th)) (A := A) (n := n) (c := cc) hd hn W4) (by kernel_rfl) (by kernel_rfl) ?_
  rintro _ W5 ⟨rfl, hB⟩
  have hW := hW.step hB
  refine ⟨_, (tnb_a6 t A n cc g1 g3), rfl, by kernel_rfl, ?_⟩
  refine sk (a' := (tnb_a7 t A n cc g1 g3)) (.bool false) ?_
  refine sk (a' := (tnb_a8 t A n cc g1 g3)) (.pointer (some ⟨g1, 15, none⟩)) ?_
  refine sk (a' := (tnb_a9 t A n cc g1 g3)) (.pointer (some ⟨g1, 15, none⟩)) ?_
  refine se (a' := (tnb_a10 t A n cc g1 g3)) (.int .i64 t.kd) (ev1 hW 1 15 Try.underlying3) ?_
  refine se (a' := (tnb_a11 t A n cc g1 g3)) (.bool true) (Eq.trans (b := .ok (.value (.bool ((t.kd : Int) != 0))) W5) (by kernel_rfl) (st_ok (bne_iff_ne.2 (by omega)))) ?_
  refine sk (a' := (tnb_a12 t A n cc g1 g3)) (.bool true) ?_
  refine wpList_nil ?_
  refine wp_cond (t := true) (by kernel_rfl) ?_
  refine wp_seq ?_
  refine wp_region_list ?_
  refine sk (a' := (tnb_a13 t A n cc g1 g3)) (.agg #[.int .i64 0, .int .i64 0, .int .i64 0, .int .i64 0, .int .i64 0]) ?_
  obtain ⟨W6, hr, hW, hF⟩ := hW.storeN (P := Try.prog) (o := 0) (cs' := #[.int .i64 0, .int .i64 0, .int .i64 0, .int .i64 0, .int .i64 0]) (L' := [(g3, 45, #[.int .i64 0, .int .i64 0, .int .i64 0, .int .i64 0, .int .i64 0]), (g1, 32, (tnb_c0 t))]) 0 rfl #[.int .i64 0, .int .i64 0, .int .i64 0, .int .i64 0, .int .i64 0] (by kernel_rfl) (Nat.le_of_ble_eq_true rfl) (by kernel_rfl) rfl 45 (by kernel_rfl)
  refine st_none (w' := W6) (a' := (tnb_a13 t A n cc g1 g3)) (by kernel_rfl) (Eq.trans (b := (do Instr.storeAt 45 (.pointer (some ⟨g3, 0, none⟩)) (.agg #[.int .i64 0, .int .i64 0, .int .i64 0, .int .i64 0, .int .i64 0]); pure Next.skip : Sem Next).run Try.prog W5) (by kernel_rfl) (st_unit hr)) (by kernel_rfl) ?_
  refine sk (a' := (tnb_a13 t A n cc g1 g3)) (.bool false) ?_
  refine wpList_nil ?_
  refine wp_ret ?_
  (try simp only [Exit.then, Exit.inBlock])
  change bodyPost Try.prog Try.f24 _ .ret _ _
  refine bodyPost_ret (results_ct rfl _ _ g3 45 _ (0, 0) _ (by kernel_rfl) (hW.blk 0 _ _ _ rfl).1 Try.underlying45 rfl (by kernel_rfl)) rfl ?_
  exact ⟨rfl, hW.below⟩
set_option maxHeartbeats 8000000 in
set_option maxRecDepth 100000 in
theorem th_Next_c {t : Th} {ad : Addr} {n cc : Nat} (hn : n ≤ 9223372036854775807) {o ia ib ic id_ : Int} (hd : doneB t n = false) (hk : t.kd = 0) (hp : 0 ≤ t.pc ∧ t.pc < n) (w : World) (hcode : CodeAt w ad t.pc o ia ib ic id_) : Calls Try.prog 24 #[.agg t.cells, .slice (some ad) n cc] w fun e w' => e = .returned (.tuple #[.agg #[.int .i64 o, .int .i64 ia, .int .i64 ib, .int .i64 ic, .int .i64 id_], .bool true]) ∧ Below w.heap.size w w' := by
  refine calls_of_wp Try.func24 rfl ?_
  have hW := Ws.nil w
  refine wp_seq ?_
  refine wp_region_list ?_
  obtain ⟨g1, W2, hr, hW, hbb, hge⟩ := hW.mk1 (P := Try.prog) (s := Instr.box 32 (.agg (tnc_c0 t))) (tnc_c0 t) 32 (by kernel_rfl)
  refine se (a' := (tnc_a1 t ad n cc g1)) (.pointer (some ⟨g1, 0, none⟩)) (Eq.trans (b := (do pure (Next.value (← Instr.box 32 (.agg (tnc_c0 t)))) : Sem Next).run Try.prog w) (by kernel_rfl) (st_val hr)) ?_
  obtain ⟨g3, W4, hr, hW, hbb, hge⟩ := hW.mk1 (P := Try.prog) (s := Instr.alloc 45 true (.tuple #[])) #[.int .i64 0, .int .i64 0, .int .i64 0, .int .i64 0, .int .i64 0] 45 (by kernel_rfl)
  refine se (a' := (tnc_a2 t ad n cc g1 g3)) (.pointer (some ⟨g3, 0, none⟩)) (Eq.trans (b := (do pure (Next.value (← Instr.alloc 45 true (.tuple #[]))) : Sem Next).run Try.prog W2) (by kernel_rfl) (st_val hr)) ?_
  refine sk (a' := (tnc_a3 t ad n cc g1 g3)) (.bool false) ?_
  refine wpList_nil ?_
  refine wp_seq ?_
  refine wp_seq ?_
  refine wp_region_list ?_
  refine se (a' := (tnc_a4 t ad n cc g1 g3)) (.agg (tnc_c0 t)) (evA hW 1 0 Try.underlying32) ?_
  refine sk (a' := (tnc_a5 t ad n cc g1 g3)) (.slice (some ad) n cc) ?_
  refine st_call (th_Doneb (t := (⟨t.pc, t.fu, t.st, t.R, t.kd, t.mi, t.mn, t.sv, t.bv, t.nv, t.old⟩ : Th)) (A := (some ad)) (n := n) (c := cc) hd hn W4) (by kernel_rfl) (by kernel_rfl) ?_
  rintro _ W5 ⟨rfl, hB⟩
  have hW := hW.step hB
  refine ⟨_, (tnc_a6 t ad n cc g1 g3), rfl, by kernel_rfl, ?_⟩
  refine sk (a' := (tnc_a7 t ad n cc g1 g3)) (.bool false) ?_
  refine sk (a' := (tnc_a8 t ad n cc g1 g3)) (.pointer (some ⟨g1, 15, none⟩)) ?_
  refine sk (a' := (tnc_a9 t ad n cc g1 g3)) (.pointer (some ⟨g1, 15, none⟩)) ?_
  refine se (a' := (tnc_a10 t ad n cc g1 g3)) (.int .i64 t.kd) (ev1 hW 1 15 Try.underlying3) ?_
  refine se (a' := (tnc_a11 t ad n cc g1 g3)) (.bool false) (Eq.trans (b := .ok (.value (.bool ((t.kd : Int) != 0))) W5) (by kernel_rfl) (st_ok (bne_eq_false_iff_eq.2 (by omega)))) ?_
  refine sk (a' := (tnc_a12 t ad n cc g1 g3)) (.bool false) ?_
  refine wpList_nil ?_
  refine wp_cond (t := false) (by kernel_rfl) ?_
  refine wp_skip ?_
  refine wp_seq ?_
  refine wp_region_list ?_
  refine sk (a' := (tnc_a13 t ad n cc g1 g3)) (.slice (some ad) n cc) ?_
  refine sk (a' := (tnc_a14 t ad n cc g1 g3)) (.pointer (some ⟨g1, 0, none⟩)) ?_
  refine se (a' := (tnc_a15 t ad n cc g1 g3)) (.int .i64 t.pc) (ev1 hW 1 0 Try.underlying3) ?_
  refine se (a' := (tnc_a16 t ad n cc g1 g3)) (.pointer (some (ad.add (t.pc.toNat * 5)))) (Eq.trans (b := (do pure (Next.value (← Instr.indexAt 49 (.slice (some ad) n cc) (.int .i64 t.pc))) : Sem Next).run Try.prog W5) (by kernel_rfl) (st_val (idx_code hp.1 hp.2 W5))) ?_
  refine se (a' := (tnc_a17 t ad n cc o ia ib ic id_ g1 g3)) (.agg #[.int .i64 o, .int .i64 ia, .int .i64 ib, .int .i64 ic, .int .i64 id_]) (Eq.trans (b := (do pure (Next.value (← Instr.loadAt 45 (.pointer (some (ad.add (t.pc.toNat * 5)))))) : Sem Next).run Try.prog W5) (by kernel_rfl) (st_val (load_row W5 _ 45 _ _ (hcode.below hW.below).cell Try.underlying45 rfl (by kernel_rfl)))) ?_
  obtain ⟨W6, hr, hW, hF⟩ := hW.storeN (P := Try.prog) (o := 0) (cs' := #[.int .i64 o, .int .i64 ia, .int .i64 ib, .int .i64 ic, .int .i64 id_]) (L' := [(g3, 45, #[.int .i64 o, .int .i64 ia, .int .i64 ib, .int .i64 ic, .int .i64 id_]), (g1, 32, (tnc_c0 t))]) 0 rfl #[.int .i64 o, .int .i64 ia, .int .i64 ib, .int .i64 ic, .int .i64 id_] (by kernel_rfl) (Nat.le_of_ble_eq_true rfl) (by kernel_rfl) rfl 45 (by kernel_rfl)
  refine st_none (w' := W6) (a' := (tnc_a17 t ad n cc o ia ib ic id_ g1 g3)) (by kernel_rfl) (Eq.trans (b := (do Instr.storeAt 45 (.pointer (some ⟨g3, 0, none⟩)) (.agg #[.int .i64 o, .int .i64 ia, .int .i64 ib, .int .i64 ic, .int .i64 id_]); pure Next.skip : Sem Next).run Try.prog W5) (by kernel_rfl) (st_unit hr)) (by kernel_rfl) ?_
  refine sk (a' := (tnc_a18 t ad n cc o ia ib ic id_ g1 g3)) (.bool true) ?_
  refine wpList_nil ?_
  refine wp_ret ?_
  (try simp only [Exit.then, Exit.inBlock])
  change bodyPost Try.prog Try.f24 _ .ret _ _
  refine bodyPost_ret (results_ct rfl _ _ g3 45 _ (0, 0) _ (by kernel_rfl) (hW.blk 0 _ _ _ rfl).1 Try.underlying45 rfl (by kernel_rfl)) rfl ?_
  exact ⟨rfl, hW.below⟩
end Go.Proofs.Ythcmcekjgecnhaa.Th
