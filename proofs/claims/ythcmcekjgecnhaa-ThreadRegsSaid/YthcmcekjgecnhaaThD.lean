/- What thread.Local answers at two instructions, and the liveliness of the layer. No condition beside those that each theorem names. -/
import Derived.Test.YthcmcekjgecnhaaThB
namespace Go.Proofs.Ythcmcekjgecnhaa.Th
open Go.RowKit Go.Proofs.YthcmcekjgecnhaaW.PrintWords Go.Proofs.YthcmcekjgecnhaaW.PrintLast Go.Proofs.YthcmcekjgecnhaaW.PrintMore
open Go.Proofs.YthcmcekjgecnhaaW.HWords Go.Proofs.Ythcmcekjgecnhaa.QThreadLocals
set_option linter.unusedVariables false
set_option linter.unusedSimpArgs false
def tk_c0 (t : Th) : Array Value := #[.int .i64 t.pc, .int .i64 t.fu, .int .i64 t.st, .int .i64 (t.R 0), .int .i64 (t.R 1), .int .i64 (t.R 2), .int .i64 (t.R 3), .int .i64 (t.R 4), .int .i64 (t.R 5), .int .i64 (t.R 6), .int .i64 (t.R 7), .int .i64 (t.R 8), .int .i64 (t.R 9), .int .i64 (t.R 10), .int .i64 (t.R 11), .int .i64 t.kd, .int .i64 t.mi, .int .i64 t.mn, t.sv, t.bv, t.nv, .int .i64 t.old]
def tk_l1 (t : Th) (op : Int) (a : Int) (b : Int) (c : Int) (n : Int) (g1 : Nat) : List Value := [.agg (tk_c0 t), .agg #[.int .i64 op, .int .i64 a, .int .i64 b, .int .i64 c, .int .i64 n], .pointer (some ⟨g1, 0, none⟩), zz, zz, zz, zz, zz, zz, zz, zz, zz, zz, zz, zz, zz]
def tk_l2 : List Value := [zz, zz, zz, zz, zz, zz, zz, zz, zz, zz, zz, zz, zz, zz, zz, zz]
def tk_l3 : List Value := [zz]
def tk_a1 (t : Th) (op : Int) (a : Int) (b : Int) (c : Int) (n : Int) (g1 : Nat) : Act := ⟨((tk_l1 t op a b c n g1) ++ (tk_l2 ++ (tk_l2 ++ (tk_l2 ++ (tk_l2 ++ (tk_l2 ++ (tk_l3))))))).toArray, []⟩
def tk_l5 (t : Th) (op : Int) (a : Int) (b : Int) (c : Int) (n : Int) (g1 : Nat) (g3 : Nat) : List Value := [.agg (tk_c0 t), .agg #[.int .i64 op, .int .i64 a, .int .i64 b, .int .i64 c, .int .i64 n], .pointer (some ⟨g1, 0, none⟩), .pointer (some ⟨g3, 0, none⟩), zz, zz, zz, zz, zz, zz, zz, zz, zz, zz, zz, zz]
def tk_a5 (t : Th) (op : Int) (a : Int) (b : Int) (c : Int) (n : Int) (g1 : Nat) (g3 : Nat) : Act := ⟨((tk_l5 t op a b c n g1 g3) ++ (tk_l2 ++ (tk_l2 ++ (tk_l2 ++ (tk_l2 ++ (tk_l2 ++ (tk_l3))))))).toArray, []⟩
def tk_c1 : Array Value := #[.int .i64 0, .int .i64 0, .int .i64 0, .int .i64 0, .int .i64 0, .int .i64 0, .int .i64 0, .int .i64 0, .int .i64 0, .int .i64 0, .int .i64 0, .int .i64 0, .int .i64 0, .int .i64 0, .int .i64 0, .int .i64 0, .int .i64 0, .int .i64 0, .slice none 0 0, .slice none 0 0, .slice none 0 0, .int .i64 0]
def tk_l8 (t : Th) (op : Int) (a : Int) (b : Int) (c : Int) (n : Int) (g1 : Nat) (g3 : Nat) (g5 : Nat) : List Value := [.agg (tk_c0 t), .agg #[.int .i64 op, .int .i64 a, .int .i64 b, .int .i64 c, .int .i64 n], .pointer (some ⟨g1, 0, none⟩), .pointer (some ⟨g3, 0, none⟩), .pointer (some ⟨g5, 0, none⟩), zz, zz, zz, zz, zz, zz, zz, zz, zz, zz, zz]
def tk_a8 (t : Th) (op : Int) (a : Int) (b : Int) (c : Int) (n : Int) (g1 : Nat) (g3 : Nat) (g5 : Nat) : Act := ⟨((tk_l8 t op a b c n g1 g3 g5) ++ (tk_l2 ++ (tk_l2 ++ (tk_l2 ++ (tk_l2 ++ (tk_l2 ++ (tk_l3))))))).toArray, []⟩
def tk_l10 (t : Th) (op : Int) (a : Int) (b : Int) (c : Int) (n : Int) (g1 : Nat) (g3 : Nat) (g5 : Nat) : List Value := [.agg (tk_c0 t), .agg #[.int .i64 op, .int .i64 a, .int .i64 b, .int .i64 c, .int .i64 n], .pointer (some ⟨g1, 0, none⟩), .pointer (some ⟨g3, 0, none⟩), .pointer (some ⟨g5, 0, none⟩), .bool false, zz, zz, zz, zz, zz, zz, zz, zz, zz, zz]
def tk_a10 (t : Th) (op : Int) (a : Int) (b : Int) (c : Int) (n : Int) (g1 : Nat) (g3 : Nat) (g5 : Nat) : Act := ⟨((tk_l10 t op a b c n g1 g3 g5) ++ (tk_l2 ++ (tk_l2 ++ (tk_l2 ++ (tk_l2 ++ (tk_l2 ++ (tk_l3))))))).toArray, []⟩
def tk_l12 (t : Th) (op : Int) (a : Int) (b : Int) (c : Int) (n : Int) (g1 : Nat) (g3 : Nat) (g5 : Nat) : List Value := [.agg (tk_c0 t), .agg #[.int .i64 op, .int .i64 a, .int .i64 b, .int .i64 c, .int .i64 n], .pointer (some ⟨g1, 0, none⟩), .pointer (some ⟨g3, 0, none⟩), .pointer (some ⟨g5, 0, none⟩), .bool false, zz, zz, zz, zz, .agg (tk_c0 t), zz, zz, zz, zz, zz]
def tk_a12 (t : Th) (op : Int) (a : Int) (b : Int) (c : Int) (n : Int) (g1 : Nat) (g3 : Nat) (g5 : Nat) : Act := ⟨((tk_l12 t op a b c n g1 g3 g5) ++ (tk_l2 ++ (tk_l2 ++ (tk_l2 ++ (tk_l2 ++ (tk_l2 ++ (tk_l3))))))).toArray, []⟩
def tk_c2 (t : Th) (r7 : Rw) : Array Value := #[.int .i64 t.pc, .int .i64 t.fu, .int .i64 t.st, .int .i64 (t.R 0), .int .i64 (t.R 1), .int .i64 (t.R 2), .int .i64 (t.R 3), .int .i64 (t.R 4), .int .i64 (t.R 5), .int .i64 (t.R 6), .int .i64 (t.R 7), .int .i64 (t.R 8), .int .i64 (t.R 9), .int .i64 (t.R 10), .int .i64 (t.R 11), .int .i64 t.kd, .int .i64 t.mi, .int .i64 t.mn, r7.s, r7.b, r7.n, .int .i64 t.old]
def tk_l15 (t : Th) (op : Int) (a : Int) (b : Int) (c : Int) (n : Int) (g1 : Nat) (g3 : Nat) (g5 : Nat) (r7 : Rw) : List Value := [.agg (tk_c0 t), .agg #[.int .i64 op, .int .i64 a, .int .i64 b, .int .i64 c, .int .i64 n], .pointer (some ⟨g1, 0, none⟩), .pointer (some ⟨g3, 0, none⟩), .pointer (some ⟨g5, 0, none⟩), .bool false, zz, zz, zz, zz, .agg (tk_c0 t), .agg (tk_c2 t r7), zz, zz, zz, zz]
def tk_a15 (t : Th) (op : Int) (a : Int) (b : Int) (c : Int) (n : Int) (g1 : Nat) (g3 : Nat) (g5 : Nat) (r7 : Rw) : Act := ⟨((tk_l15 t op a b c n g1 g3 g5 r7) ++ (tk_l2 ++ (tk_l2 ++ (tk_l2 ++ (tk_l2 ++ (tk_l2 ++ (tk_l3))))))).toArray, []⟩
def tk_l17 (t : Th) (op : Int) (a : Int) (b : Int) (c : Int) (n : Int) (g1 : Nat) (g3 : Nat) (g5 : Nat) (r7 : Rw) : List Value := [.agg (tk_c0 t), .agg #[.int .i64 op, .int .i64 a, .int .i64 b, .int .i64 c, .int .i64 n], .pointer (some ⟨g1, 0, none⟩), .pointer (some ⟨g3, 0, none⟩), .pointer (some ⟨g5, 0, none⟩), .bool false, zz, zz, zz, zz, .agg (tk_c0 t), .agg (tk_c2 t r7), .pointer (some ⟨g3, 0, none⟩), zz, zz, zz]
def tk_a17 (t : Th) (op : Int) (a : Int) (b : Int) (c : Int) (n : Int) (g1 : Nat) (g3 : Nat) (g5 : Nat) (r7 : Rw) : Act := ⟨((tk_l17 t op a b c n g1 g3 g5 r7) ++ (tk_l2 ++ (tk_l2 ++ (tk_l2 ++ (tk_l2 ++ (tk_l2 ++ (tk_l3))))))).toArray, []⟩
def tk_l19 (t : Th) (op : Int) (a : Int) (b : Int) (c : Int) (n : Int) (g1 : Nat) (g3 : Nat) (g5 : Nat) (r7 : Rw) : List Value := [.agg (tk_c0 t), .agg #[.int .i64 op, .int .i64 a, .int .i64 b, .int .i64 c, .int .i64 n], .pointer (some ⟨g1, 0, none⟩), .pointer (some ⟨g3, 0, none⟩), .pointer (some ⟨g5, 0, none⟩), .bool false, zz, zz, zz, zz, .agg (tk_c0 t), .agg (tk_c2 t r7), .pointer (some ⟨g3, 0, none⟩), .int .i64 op, zz, zz]
def tk_a19 (t : Th) (op : Int) (a : Int) (b : Int) (c : Int) (n : Int) (g1 : Nat) (g3 : Nat) (g5 : Nat) (r7 : Rw) : Act := ⟨((tk_l19 t op a b c n g1 g3 g5 r7) ++ (tk_l2 ++ (tk_l2 ++ (tk_l2 ++ (tk_l2 ++ (tk_l2 ++ (tk_l3))))))).toArray, []⟩
def tk_l21 (t : Th) (op : Int) (a : Int) (b : Int) (c : Int) (n : Int) (g1 : Nat) (g3 : Nat) (g5 : Nat) (r7 : Rw) (sn9 : ByteArray) : List Value := [.agg (tk_c0 t), .agg #[.int .i64 op, .int .i64 a, .int .i64 b, .int .i64 c, .int .i64 n], .pointer (some ⟨g1, 0, none⟩), .pointer (some ⟨g3, 0, none⟩), .pointer (some ⟨g5, 0, none⟩), .bool false, zz, zz, zz, zz, .agg (tk_c0 t), .agg (tk_c2 t r7), .pointer (some ⟨g3, 0, none⟩), .int .i64 op, .string sn9, zz]
def tk_a21 (t : Th) (op : Int) (a : Int) (b : Int) (c : Int) (n : Int) (g1 : Nat) (g3 : Nat) (g5 : Nat) (r7 : Rw) (sn9 : ByteArray) : Act := ⟨((tk_l21 t op a b c n g1 g3 g5 r7 sn9) ++ (tk_l2 ++ (tk_l2 ++ (tk_l2 ++ (tk_l2 ++ (tk_l2 ++ (tk_l3))))))).toArray, []⟩
def tk_l23 (t : Th) (op : Int) (a : Int) (b : Int) (c : Int) (n : Int) (g1 : Nat) (g3 : Nat) (g5 : Nat) (r7 : Rw) (sn9 : ByteArray) : List Value := [.agg (tk_c0 t), .agg #[.int .i64 op, .int .i64 a, .int .i64 b, .int .i64 c, .int .i64 n], .pointer (some ⟨g1, 0, none⟩), .pointer (some ⟨g3, 0, none⟩), .pointer (some ⟨g5, 0, none⟩), .bool false, zz, zz, zz, zz, .agg (tk_c0 t), .agg (tk_c2 t r7), .pointer (some ⟨g3, 0, none⟩), .int .i64 op, .string sn9, .bool false]
def tk_a23 (t : Th) (op : Int) (a : Int) (b : Int) (c : Int) (n : Int) (g1 : Nat) (g3 : Nat) (g5 : Nat) (r7 : Rw) (sn9 : ByteArray) : Act := ⟨((tk_l23 t op a b c n g1 g3 g5 r7 sn9) ++ (tk_l2 ++ (tk_l2 ++ (tk_l2 ++ (tk_l2 ++ (tk_l2 ++ (tk_l3))))))).toArray, []⟩
def tk_l25 : List Value := [.bool false, zz, zz, zz, zz, zz, zz, zz, zz, zz, zz, zz, zz, zz, zz, zz]
def tk_a25 (t : Th) (op : Int) (a : Int) (b : Int) (c : Int) (n : Int) (g1 : Nat) (g3 : Nat) (g5 : Nat) (r7 : Rw) (sn9 : ByteArray) : Act := ⟨((tk_l23 t op a b c n g1 g3 g5 r7 sn9) ++ (tk_l25 ++ (tk_l2 ++ (tk_l2 ++ (tk_l2 ++ (tk_l2 ++ (tk_l3))))))).toArray, []⟩
def tk_l27 (g3 : Nat) : List Value := [.bool false, .pointer (some ⟨g3, 0, none⟩), zz, zz, zz, zz, zz, zz, zz, zz, zz, zz, zz, zz, zz, zz]
def tk_a27 (t : Th) (op : Int) (a : Int) (b : Int) (c : Int) (n : Int) (g1 : Nat) (g3 : Nat) (g5 : Nat) (r7 : Rw) (sn9 : ByteArray) : Act := ⟨((tk_l23 t op a b c n g1 g3 g5 r7 sn9) ++ ((tk_l27 g3) ++ (tk_l2 ++ (tk_l2 ++ (tk_l2 ++ (tk_l2 ++ (tk_l3))))))).toArray, []⟩
def tk_l29 (op : Int) (g3 : Nat) : List Value := [.bool false, .pointer (some ⟨g3, 0, none⟩), .int .i64 op, zz, zz, zz, zz, zz, zz, zz, zz, zz, zz, zz, zz, zz]
def tk_a29 (t : Th) (op : Int) (a : Int) (b : Int) (c : Int) (n : Int) (g1 : Nat) (g3 : Nat) (g5 : Nat) (r7 : Rw) (sn9 : ByteArray) : Act := ⟨((tk_l23 t op a b c n g1 g3 g5 r7 sn9) ++ ((tk_l29 op g3) ++ (tk_l2 ++ (tk_l2 ++ (tk_l2 ++ (tk_l2 ++ (tk_l3))))))).toArray, []⟩
def tk_l31 (op : Int) (g3 : Nat) : List Value := [.bool false, .pointer (some ⟨g3, 0, none⟩), .int .i64 op, .bool false, zz, zz, zz, zz, zz, zz, zz, zz, zz, zz, zz, zz]
def tk_a31 (t : Th) (op : Int) (a : Int) (b : Int) (c : Int) (n : Int) (g1 : Nat) (g3 : Nat) (g5 : Nat) (r7 : Rw) (sn9 : ByteArray) : Act := ⟨((tk_l23 t op a b c n g1 g3 g5 r7 sn9) ++ ((tk_l31 op g3) ++ (tk_l2 ++ (tk_l2 ++ (tk_l2 ++ (tk_l2 ++ (tk_l3))))))).toArray, []⟩
def tk_l33 (op : Int) (g3 : Nat) : List Value := [.bool false, .pointer (some ⟨g3, 0, none⟩), .int .i64 op, .bool false, .bool false, zz, zz, zz, zz, zz, zz, zz, zz, zz, zz, zz]
def tk_a33 (t : Th) (op : Int) (a : Int) (b : Int) (c : Int) (n : Int) (g1 : Nat) (g3 : Nat) (g5 : Nat) (r7 : Rw) (sn9 : ByteArray) : Act := ⟨((tk_l23 t op a b c n g1 g3 g5 r7 sn9) ++ ((tk_l33 op g3) ++ (tk_l2 ++ (tk_l2 ++ (tk_l2 ++ (tk_l2 ++ (tk_l3))))))).toArray, []⟩
def tk_l35 (op : Int) (g3 : Nat) : List Value := [.bool false, .pointer (some ⟨g3, 0, none⟩), .int .i64 op, .bool false, .bool false, .bool false, zz, zz, zz, zz, zz, zz, zz, zz, zz, zz]
def tk_a35 (t : Th) (op : Int) (a : Int) (b : Int) (c : Int) (n : Int) (g1 : Nat) (g3 : Nat) (g5 : Nat) (r7 : Rw) (sn9 : ByteArray) : Act := ⟨((tk_l23 t op a b c n g1 g3 g5 r7 sn9) ++ ((tk_l35 op g3) ++ (tk_l2 ++ (tk_l2 ++ (tk_l2 ++ (tk_l2 ++ (tk_l3))))))).toArray, []⟩
def tk_l37 (op : Int) (g3 : Nat) : List Value := [.bool false, .pointer (some ⟨g3, 0, none⟩), .int .i64 op, .bool false, .bool false, .bool false, .pointer (some ⟨g3, 0, none⟩), zz, zz, zz, zz, zz, zz, zz, zz, zz]
def tk_a37 (t : Th) (op : Int) (a : Int) (b : Int) (c : Int) (n : Int) (g1 : Nat) (g3 : Nat) (g5 : Nat) (r7 : Rw) (sn9 : ByteArray) : Act := ⟨((tk_l23 t op a b c n g1 g3 g5 r7 sn9) ++ ((tk_l37 op g3) ++ (tk_l2 ++ (tk_l2 ++ (tk_l2 ++ (tk_l2 ++ (tk_l3))))))).toArray, []⟩
def tk_l39 (op : Int) (g3 : Nat) : List Value := [.bool false, .pointer (some ⟨g3, 0, none⟩), .int .i64 op, .bool false, .bool false, .bool false, .pointer (some ⟨g3, 0, none⟩), .int .i64 op, zz, zz, zz, zz, zz, zz, zz, zz]
def tk_a39 (t : Th) (op : Int) (a : Int) (b : Int) (c : Int) (n : Int) (g1 : Nat) (g3 : Nat) (g5 : Nat) (r7 : Rw) (sn9 : ByteArray) : Act := ⟨((tk_l23 t op a b c n g1 g3 g5 r7 sn9) ++ ((tk_l39 op g3) ++ (tk_l2 ++ (tk_l2 ++ (tk_l2 ++ (tk_l2 ++ (tk_l3))))))).toArray, []⟩
def tk_l41 (op : Int) (g3 : Nat) : List Value := [.bool false, .pointer (some ⟨g3, 0, none⟩), .int .i64 op, .bool false, .bool false, .bool false, .pointer (some ⟨g3, 0, none⟩), .int .i64 op, .bool false, zz, zz, zz, zz, zz, zz, zz]
def tk_a41 (t : Th) (op : Int) (a : Int) (b : Int) (c : Int) (n : Int) (g1 : Nat) (g3 : Nat) (g5 : Nat) (r7 : Rw) (sn9 : ByteArray) : Act := ⟨((tk_l23 t op a b c n g1 g3 g5 r7 sn9) ++ ((tk_l41 op g3) ++ (tk_l2 ++ (tk_l2 ++ (tk_l2 ++ (tk_l2 ++ (tk_l3))))))).toArray, []⟩
def tk_l43 (op : Int) (g3 : Nat) : List Value := [.bool false, .pointer (some ⟨g3, 0, none⟩), .int .i64 op, .bool false, .bool false, .bool false, .pointer (some ⟨g3, 0, none⟩), .int .i64 op, .bool false, .bool false, zz, zz, zz, zz, zz, zz]
def tk_a43 (t : Th) (op : Int) (a : Int) (b : Int) (c : Int) (n : Int) (g1 : Nat) (g3 : Nat) (g5 : Nat) (r7 : Rw) (sn9 : ByteArray) : Act := ⟨((tk_l23 t op a b c n g1 g3 g5 r7 sn9) ++ ((tk_l43 op g3) ++ (tk_l2 ++ (tk_l2 ++ (tk_l2 ++ (tk_l2 ++ (tk_l3))))))).toArray, []⟩
def tk_l45 (t : Th) (op : Int) (g3 : Nat) (r7 : Rw) : List Value := [.bool false, .pointer (some ⟨g3, 0, none⟩), .int .i64 op, .bool false, .bool false, .bool false, .pointer (some ⟨g3, 0, none⟩), .int .i64 op, .bool false, .bool false, zz, .agg (tk_c2 t r7), zz, zz, zz, zz]
def tk_a45 (t : Th) (op : Int) (a : Int) (b : Int) (c : Int) (n : Int) (g1 : Nat) (g3 : Nat) (g5 : Nat) (r7 : Rw) (sn9 : ByteArray) : Act := ⟨((tk_l23 t op a b c n g1 g3 g5 r7 sn9) ++ ((tk_l45 t op g3 r7) ++ (tk_l2 ++ (tk_l2 ++ (tk_l2 ++ (tk_l2 ++ (tk_l3))))))).toArray, []⟩
def tk_l47 (t : Th) (op : Int) (g3 : Nat) (r7 : Rw) : List Value := [.bool false, .pointer (some ⟨g3, 0, none⟩), .int .i64 op, .bool false, .bool false, .bool false, .pointer (some ⟨g3, 0, none⟩), .int .i64 op, .bool false, .bool false, zz, .agg (tk_c2 t r7), .pointer (some ⟨g3, 1, none⟩), zz, zz, zz]
def tk_a47 (t : Th) (op : Int) (a : Int) (b : Int) (c : Int) (n : Int) (g1 : Nat) (g3 : Nat) (g5 : Nat) (r7 : Rw) (sn9 : ByteArray) : Act := ⟨((tk_l23 t op a b c n g1 g3 g5 r7 sn9) ++ ((tk_l47 t op g3 r7) ++ (tk_l2 ++ (tk_l2 ++ (tk_l2 ++ (tk_l2 ++ (tk_l3))))))).toArray, []⟩
def tk_l49 (t : Th) (op : Int) (a : Int) (g3 : Nat) (r7 : Rw) : List Value := [.bool false, .pointer (some ⟨g3, 0, none⟩), .int .i64 op, .bool false, .bool false, .bool false, .pointer (some ⟨g3, 0, none⟩), .int .i64 op, .bool false, .bool false, zz, .agg (tk_c2 t r7), .pointer (some ⟨g3, 1, none⟩), .int .i64 a, zz, zz]
def tk_a49 (t : Th) (op : Int) (a : Int) (b : Int) (c : Int) (n : Int) (g1 : Nat) (g3 : Nat) (g5 : Nat) (r7 : Rw) (sn9 : ByteArray) : Act := ⟨((tk_l23 t op a b c n g1 g3 g5 r7 sn9) ++ ((tk_l49 t op a g3 r7) ++ (tk_l2 ++ (tk_l2 ++ (tk_l2 ++ (tk_l2 ++ (tk_l3))))))).toArray, []⟩
def tk_l51 (t : Th) (op : Int) (a : Int) (g3 : Nat) (r7 : Rw) : List Value := [.bool false, .pointer (some ⟨g3, 0, none⟩), .int .i64 op, .bool false, .bool false, .bool false, .pointer (some ⟨g3, 0, none⟩), .int .i64 op, .bool false, .bool false, zz, .agg (tk_c2 t r7), .pointer (some ⟨g3, 1, none⟩), .int .i64 a, zz, .agg (tk_c2 t r7)]
def tk_a51 (t : Th) (op : Int) (a : Int) (b : Int) (c : Int) (n : Int) (g1 : Nat) (g3 : Nat) (g5 : Nat) (r7 : Rw) (sn9 : ByteArray) : Act := ⟨((tk_l23 t op a b c n g1 g3 g5 r7 sn9) ++ ((tk_l51 t op a g3 r7) ++ (tk_l2 ++ (tk_l2 ++ (tk_l2 ++ (tk_l2 ++ (tk_l3))))))).toArray, []⟩
def tk_l53 (g3 : Nat) : List Value := [.pointer (some ⟨g3, 2, none⟩), zz, zz, zz, zz, zz, zz, zz, zz, zz, zz, zz, zz, zz, zz, zz]
def tk_a53 (t : Th) (op : Int) (a : Int) (b : Int) (c : Int) (n : Int) (g1 : Nat) (g3 : Nat) (g5 : Nat) (r7 : Rw) (sn9 : ByteArray) : Act := ⟨((tk_l23 t op a b c n g1 g3 g5 r7 sn9) ++ ((tk_l51 t op a g3 r7) ++ ((tk_l53 g3) ++ (tk_l2 ++ (tk_l2 ++ (tk_l2 ++ (tk_l3))))))).toArray, []⟩
def tk_l55 (b : Int) (g3 : Nat) : List Value := [.pointer (some ⟨g3, 2, none⟩), .int .i64 b, zz, zz, zz, zz, zz, zz, zz, zz, zz, zz, zz, zz, zz, zz]
def tk_a55 (t : Th) (op : Int) (a : Int) (b : Int) (c : Int) (n : Int) (g1 : Nat) (g3 : Nat) (g5 : Nat) (r7 : Rw) (sn9 : ByteArray) : Act := ⟨((tk_l23 t op a b c n g1 g3 g5 r7 sn9) ++ ((tk_l51 t op a g3 r7) ++ ((tk_l55 b g3) ++ (tk_l2 ++ (tk_l2 ++ (tk_l2 ++ (tk_l3))))))).toArray, []⟩
def tk_l57 (t : Th) (op : Int) (a : Int) (g3 : Nat) (r7 : Rw) : List Value := [.bool false, .pointer (some ⟨g3, 0, none⟩), .int .i64 op, .bool false, .bool false, .bool false, .pointer (some ⟨g3, 0, none⟩), .int .i64 op, .bool false, .bool false, zz, .agg (tk_c2 t r7), .pointer (some ⟨g3, 1, none⟩), .int .i64 a, .agg #[.int .i64 (getR t.R a 0), .int .i64 (getR t.R a 1), .int .i64 (getR t.R a 2)], .agg (tk_c2 t r7)]
def tk_a57 (t : Th) (op : Int) (a : Int) (b : Int) (c : Int) (n : Int) (g1 : Nat) (g3 : Nat) (g5 : Nat) (r7 : Rw) (sn9 : ByteArray) : Act := ⟨((tk_l23 t op a b c n g1 g3 g5 r7 sn9) ++ ((tk_l57 t op a g3 r7) ++ ((tk_l55 b g3) ++ (tk_l2 ++ (tk_l2 ++ (tk_l2 ++ (tk_l3))))))).toArray, []⟩
def tk_l59 (t : Th) (b : Int) (g3 : Nat) : List Value := [.pointer (some ⟨g3, 2, none⟩), .int .i64 b, .agg #[.int .i64 (getR t.R b 0), .int .i64 (getR t.R b 1), .int .i64 (getR t.R b 2)], zz, zz, zz, zz, zz, zz, zz, zz, zz, zz, zz, zz, zz]
def tk_a59 (t : Th) (op : Int) (a : Int) (b : Int) (c : Int) (n : Int) (g1 : Nat) (g3 : Nat) (g5 : Nat) (r7 : Rw) (sn9 : ByteArray) : Act := ⟨((tk_l23 t op a b c n g1 g3 g5 r7 sn9) ++ ((tk_l57 t op a g3 r7) ++ ((tk_l59 t b g3) ++ (tk_l2 ++ (tk_l2 ++ (tk_l2 ++ (tk_l3))))))).toArray, []⟩
def tk_l61 (t : Th) (op : Int) (a : Int) (b : Int) (c : Int) (n : Int) (g1 : Nat) (g3 : Nat) (g5 : Nat) (r7 : Rw) (sn9 : ByteArray) (g4q8 : Nat) : List Value := [.agg (tk_c0 t), .agg #[.int .i64 op, .int .i64 a, .int .i64 b, .int .i64 c, .int .i64 n], .pointer (some ⟨g1, 0, none⟩), .pointer (some ⟨g3, 0, none⟩), .pointer (some ⟨g5, 0, none⟩), .bool false, .pointer (some ⟨g4q8, 0, none⟩), zz, zz, zz, .agg (tk_c0 t), .agg (tk_c2 t r7), .pointer (some ⟨g3, 0, none⟩), .int .i64 op, .string sn9, .bool false]
def tk_a61 (t : Th) (op : Int) (a : Int) (b : Int) (c : Int) (n : Int) (g1 : Nat) (g3 : Nat) (g5 : Nat) (r7 : Rw) (sn9 : ByteArray) (g4q8 : Nat) : Act := ⟨((tk_l61 t op a b c n g1 g3 g5 r7 sn9 g4q8) ++ ((tk_l57 t op a g3 r7) ++ ((tk_l59 t b g3) ++ (tk_l2 ++ (tk_l2 ++ (tk_l2 ++ (tk_l3))))))).toArray, []⟩
def tk_l63 (t : Th) (op : Int) (a : Int) (b : Int) (c : Int) (n : Int) (g1 : Nat) (g3 : Nat) (g5 : Nat) (r7 : Rw) (sn9 : ByteArray) (g4q8 : Nat) (g4q9 : Nat) : List Value := [.agg (tk_c0 t), .agg #[.int .i64 op, .int .i64 a, .int .i64 b, .int .i64 c, .int .i64 n], .pointer (some ⟨g1, 0, none⟩), .pointer (some ⟨g3, 0, none⟩), .pointer (some ⟨g5, 0, none⟩), .bool false, .pointer (some ⟨g4q8, 0, none⟩), .pointer (some ⟨g4q9, 0, none⟩), zz, zz, .agg (tk_c0 t), .agg (tk_c2 t r7), .pointer (some ⟨g3, 0, none⟩), .int .i64 op, .string sn9, .bool false]
def tk_a63 (t : Th) (op : Int) (a : Int) (b : Int) (c : Int) (n : Int) (g1 : Nat) (g3 : Nat) (g5 : Nat) (r7 : Rw) (sn9 : ByteArray) (g4q8 : Nat) (g4q9 : Nat) : Act := ⟨((tk_l63 t op a b c n g1 g3 g5 r7 sn9 g4q8 g4q9) ++ ((tk_l57 t op a g3 r7) ++ ((tk_l59 t b g3) ++ (tk_l2 ++ (tk_l2 ++ (tk_l2 ++ (tk_l3))))))).toArray, []⟩
def tk_l65 (t : Th) (op : Int) (a : Int) (b : Int) (c : Int) (n : Int) (g1 : Nat) (g3 : Nat) (g5 : Nat) (r7 : Rw) (sn9 : ByteArray) (g4q9 : Nat) : List Value := [.agg (tk_c0 t), .agg #[.int .i64 op, .int .i64 a, .int .i64 b, .int .i64 c, .int .i64 n], .pointer (some ⟨g1, 0, none⟩), .pointer (some ⟨g3, 0, none⟩), .pointer (some ⟨g5, 0, none⟩), .bool false, zz, .pointer (some ⟨g4q9, 0, none⟩), zz, zz, .agg (tk_c0 t), .agg (tk_c2 t r7), .pointer (some ⟨g3, 0, none⟩), .int .i64 op, .string sn9, .bool false]
def tk_a65 (t : Th) (op : Int) (a : Int) (b : Int) (c : Int) (n : Int) (g1 : Nat) (g3 : Nat) (g5 : Nat) (r7 : Rw) (sn9 : ByteArray) (g4q9 : Nat) : Act := ⟨((tk_l65 t op a b c n g1 g3 g5 r7 sn9 g4q9) ++ ((tk_l57 t op a g3 r7) ++ ((tk_l59 t b g3) ++ (tk_l2 ++ (tk_l2 ++ (tk_l2 ++ (tk_l3))))))).toArray, []⟩
def tk_l67 (t : Th) (op : Int) (a : Int) (b : Int) (c : Int) (n : Int) (g1 : Nat) (g3 : Nat) (g5 : Nat) (r7 : Rw) (sn9 : ByteArray) (g4q9 : Nat) (g4q8 : Nat) : List Value := [.agg (tk_c0 t), .agg #[.int .i64 op, .int .i64 a, .int .i64 b, .int .i64 c, .int .i64 n], .pointer (some ⟨g1, 0, none⟩), .pointer (some ⟨g3, 0, none⟩), .pointer (some ⟨g5, 0, none⟩), .bool false, .pointer (some ⟨g4q8, 0, none⟩), .pointer (some ⟨g4q9, 0, none⟩), zz, zz, .agg (tk_c0 t), .agg (tk_c2 t r7), .pointer (some ⟨g3, 0, none⟩), .int .i64 op, .string sn9, .bool false]
def tk_a67 (t : Th) (op : Int) (a : Int) (b : Int) (c : Int) (n : Int) (g1 : Nat) (g3 : Nat) (g5 : Nat) (r7 : Rw) (sn9 : ByteArray) (g4q9 : Nat) (g4q8 : Nat) : Act := ⟨((tk_l67 t op a b c n g1 g3 g5 r7 sn9 g4q9 g4q8) ++ ((tk_l57 t op a g3 r7) ++ ((tk_l59 t b g3) ++ (tk_l2 ++ (tk_l2 ++ (tk_l2 ++ (tk_l3))))))).toArray, []⟩
def tk_a69 (t : Th) (op : Int) (a : Int) (b : Int) (c : Int) (n : Int) (g1 : Nat) (g3 : Nat) (g5 : Nat) (r7 : Rw) (sn9 : ByteArray) (g4q8 : Nat) : Act := ⟨((tk_l61 t op a b c n g1 g3 g5 r7 sn9 g4q8) ++ ((tk_l57 t op a g3 r7) ++ ((tk_l55 b g3) ++ (tk_l2 ++ (tk_l2 ++ (tk_l2 ++ (tk_l3))))))).toArray, []⟩
def tk_a70 (t : Th) (op : Int) (a : Int) (b : Int) (c : Int) (n : Int) (g1 : Nat) (g3 : Nat) (g5 : Nat) (r7 : Rw) (sn9 : ByteArray) (g4q8 : Nat) (g4q9 : Nat) : Act := ⟨((tk_l63 t op a b c n g1 g3 g5 r7 sn9 g4q8 g4q9) ++ ((tk_l57 t op a g3 r7) ++ ((tk_l55 b g3) ++ (tk_l2 ++ (tk_l2 ++ (tk_l2 ++ (tk_l3))))))).toArray, []⟩
def tk_a71 (t : Th) (op : Int) (a : Int) (b : Int) (c : Int) (n : Int) (g1 : Nat) (g3 : Nat) (g5 : Nat) (r7 : Rw) (sn9 : ByteArray) (g4q9 : Nat) : Act := ⟨((tk_l65 t op a b c n g1 g3 g5 r7 sn9 g4q9) ++ ((tk_l57 t op a g3 r7) ++ ((tk_l55 b g3) ++ (tk_l2 ++ (tk_l2 ++ (tk_l2 ++ (tk_l3))))))).toArray, []⟩
def tk_a72 (t : Th) (op : Int) (a : Int) (b : Int) (c : Int) (n : Int) (g1 : Nat) (g3 : Nat) (g5 : Nat) (r7 : Rw) (sn9 : ByteArray) (g4q9 : Nat) (g4q8 : Nat) : Act := ⟨((tk_l67 t op a b c n g1 g3 g5 r7 sn9 g4q9 g4q8) ++ ((tk_l57 t op a g3 r7) ++ ((tk_l55 b g3) ++ (tk_l2 ++ (tk_l2 ++ (tk_l2 ++ (tk_l3))))))).toArray, []⟩
def tk_a73 (t : Th) (op : Int) (a : Int) (b : Int) (c : Int) (n : Int) (g1 : Nat) (g3 : Nat) (g5 : Nat) (r7 : Rw) (sn9 : ByteArray) (g4q8 : Nat) : Act := ⟨((tk_l61 t op a b c n g1 g3 g5 r7 sn9 g4q8) ++ ((tk_l51 t op a g3 r7) ++ ((tk_l55 b g3) ++ (tk_l2 ++ (tk_l2 ++ (tk_l2 ++ (tk_l3))))))).toArray, []⟩
def tk_a74 (t : Th) (op : Int) (a : Int) (b : Int) (c : Int) (n : Int) (g1 : Nat) (g3 : Nat) (g5 : Nat) (r7 : Rw) (sn9 : ByteArray) (g4q8 : Nat) (g4q9 : Nat) : Act := ⟨((tk_l63 t op a b c n g1 g3 g5 r7 sn9 g4q8 g4q9) ++ ((tk_l51 t op a g3 r7) ++ ((tk_l55 b g3) ++ (tk_l2 ++ (tk_l2 ++ (tk_l2 ++ (tk_l3))))))).toArray, []⟩
def tk_a75 (t : Th) (op : Int) (a : Int) (b : Int) (c : Int) (n : Int) (g1 : Nat) (g3 : Nat) (g5 : Nat) (r7 : Rw) (sn9 : ByteArray) (g4q9 : Nat) : Act := ⟨((tk_l65 t op a b c n g1 g3 g5 r7 sn9 g4q9) ++ ((tk_l51 t op a g3 r7) ++ ((tk_l55 b g3) ++ (tk_l2 ++ (tk_l2 ++ (tk_l2 ++ (tk_l3))))))).toArray, []⟩
def tk_a76 (t : Th) (op : Int) (a : Int) (b : Int) (c : Int) (n : Int) (g1 : Nat) (g3 : Nat) (g5 : Nat) (r7 : Rw) (sn9 : ByteArray) (g4q9 : Nat) (g4q8 : Nat) : Act := ⟨((tk_l67 t op a b c n g1 g3 g5 r7 sn9 g4q9 g4q8) ++ ((tk_l51 t op a g3 r7) ++ ((tk_l55 b g3) ++ (tk_l2 ++ (tk_l2 ++ (tk_l2 ++ (tk_l3))))))).toArray, []⟩
def tk_l77 (t : Th) (b : Int) (g3 : Nat) : List Value := [.pointer (some ⟨g3, 2, none⟩), .int .i64 b, .agg #[.int .i64 (getR t.R b 0), .int .i64 (getR t.R b 1), .int .i64 (getR t.R b 2)], .pointer (some ⟨g3, 0, none⟩), zz, zz, zz, zz, zz, zz, zz, zz, zz, zz, zz, zz]
def tk_a77 (t : Th) (op : Int) (a : Int) (b : Int) (c : Int) (n : Int) (g1 : Nat) (g3 : Nat) (g5 : Nat) (r7 : Rw) (sn9 : ByteArray) (g4q8 : Nat) (g4q9 : Nat) : Act := ⟨((tk_l63 t op a b c n g1 g3 g5 r7 sn9 g4q8 g4q9) ++ ((tk_l57 t op a g3 r7) ++ ((tk_l77 t b g3) ++ (tk_l2 ++ (tk_l2 ++ (tk_l2 ++ (tk_l3))))))).toArray, []⟩
def tk_l79 (t : Th) (op : Int) (b : Int) (g3 : Nat) : List Value := [.pointer (some ⟨g3, 2, none⟩), .int .i64 b, .agg #[.int .i64 (getR t.R b 0), .int .i64 (getR t.R b 1), .int .i64 (getR t.R b 2)], .pointer (some ⟨g3, 0, none⟩), .int .i64 op, zz, zz, zz, zz, zz, zz, zz, zz, zz, zz, zz]
def tk_a79 (t : Th) (op : Int) (a : Int) (b : Int) (c : Int) (n : Int) (g1 : Nat) (g3 : Nat) (g5 : Nat) (r7 : Rw) (sn9 : ByteArray) (g4q8 : Nat) (g4q9 : Nat) : Act := ⟨((tk_l63 t op a b c n g1 g3 g5 r7 sn9 g4q8 g4q9) ++ ((tk_l57 t op a g3 r7) ++ ((tk_l79 t op b g3) ++ (tk_l2 ++ (tk_l2 ++ (tk_l2 ++ (tk_l3))))))).toArray, []⟩
def tk_l81 (t : Th) (a : Int) (b : Int) (c : Int) (n : Int) (g1 : Nat) (g3 : Nat) (g5 : Nat) (r7 : Rw) (sn9 : ByteArray) (g4q8 : Nat) (g4q9 : Nat) : List Value := [.agg (tk_c0 t), .agg #[.int .i64 2, .int .i64 a, .int .i64 b, .int .i64 c, .int .i64 n], .pointer (some ⟨g1, 0, none⟩), .pointer (some ⟨g3, 0, none⟩), .pointer (some ⟨g5, 0, none⟩), .bool false, .pointer (some ⟨g4q8, 0, none⟩), .pointer (some ⟨g4q9, 0, none⟩), zz, zz, .agg (tk_c0 t), .agg (tk_c2 t r7), .pointer (some ⟨g3, 0, none⟩), .int .i64 2, .string sn9, .bool false]
def tk_l82 (t : Th) (a : Int) (g3 : Nat) (r7 : Rw) : List Value := [.bool false, .pointer (some ⟨g3, 0, none⟩), .int .i64 2, .bool false, .bool false, .bool false, .pointer (some ⟨g3, 0, none⟩), .int .i64 2, .bool false, .bool false, zz, .agg (tk_c2 t r7), .pointer (some ⟨g3, 1, none⟩), .int .i64 a, .agg #[.int .i64 (getR t.R a 0), .int .i64 (getR t.R a 1), .int .i64 (getR t.R a 2)], .agg (tk_c2 t r7)]
def tk_l83 (t : Th) (b : Int) (g3 : Nat) : List Value := [.pointer (some ⟨g3, 2, none⟩), .int .i64 b, .agg #[.int .i64 (getR t.R b 0), .int .i64 (getR t.R b 1), .int .i64 (getR t.R b 2)], .pointer (some ⟨g3, 0, none⟩), .int .i64 2, zz, zz, zz, zz, zz, zz, zz, zz, zz, zz, zz]
def tk_l84 : List Value := [zz, zz, zz, zz, zz, zz, zz, zz, zz, .bool false, zz, zz, zz, zz, zz, zz]
def tk_a81 (t : Th) (a : Int) (b : Int) (c : Int) (n : Int) (g1 : Nat) (g3 : Nat) (g5 : Nat) (r7 : Rw) (sn9 : ByteArray) (g4q8 : Nat) (g4q9 : Nat) : Act := ⟨((tk_l81 t a b c n g1 g3 g5 r7 sn9 g4q8 g4q9) ++ ((tk_l82 t a g3 r7) ++ ((tk_l83 t b g3) ++ (tk_l84 ++ (tk_l2 ++ (tk_l2 ++ (tk_l3))))))).toArray, []⟩
def tk_l86 : List Value := [zz, zz, zz, zz, zz, zz, zz, zz, .bool false, .bool false, zz, zz, zz, zz, zz, zz]
def tk_a86 (t : Th) (a : Int) (b : Int) (c : Int) (n : Int) (g1 : Nat) (g3 : Nat) (g5 : Nat) (r7 : Rw) (sn9 : ByteArray) (g4q8 : Nat) (g4q9 : Nat) : Act := ⟨((tk_l81 t a b c n g1 g3 g5 r7 sn9 g4q8 g4q9) ++ ((tk_l82 t a g3 r7) ++ ((tk_l83 t b g3) ++ (tk_l86 ++ (tk_l2 ++ (tk_l2 ++ (tk_l3))))))).toArray, []⟩
def tk_l88 : List Value := [zz, zz, zz, zz, zz, zz, zz, zz, .bool false, .bool false, zz, zz, .bool true, zz, zz, zz]
def tk_a88 (t : Th) (a : Int) (b : Int) (c : Int) (n : Int) (g1 : Nat) (g3 : Nat) (g5 : Nat) (r7 : Rw) (sn9 : ByteArray) (g4q8 : Nat) (g4q9 : Nat) : Act := ⟨((tk_l81 t a b c n g1 g3 g5 r7 sn9 g4q8 g4q9) ++ ((tk_l82 t a g3 r7) ++ ((tk_l83 t b g3) ++ (tk_l88 ++ (tk_l2 ++ (tk_l2 ++ (tk_l3))))))).toArray, []⟩
def tk_l90 : List Value := [zz, zz, zz, zz, zz, zz, zz, zz, .bool false, .bool false, zz, .bool true, .bool true, zz, zz, zz]
def tk_a90 (t : Th) (a : Int) (b : Int) (c : Int) (n : Int) (g1 : Nat) (g3 : Nat) (g5 : Nat) (r7 : Rw) (sn9 : ByteArray) (g4q8 : Nat) (g4q9 : Nat) : Act := ⟨((tk_l81 t a b c n g1 g3 g5 r7 sn9 g4q8 g4q9) ++ ((tk_l82 t a g3 r7) ++ ((tk_l83 t b g3) ++ (tk_l90 ++ (tk_l2 ++ (tk_l2 ++ (tk_l3))))))).toArray, []⟩
def tk_l92 (t : Th) (r7 : Rw) : List Value := [zz, zz, zz, zz, zz, zz, zz, zz, .bool false, .bool false, zz, .bool true, .bool true, .agg (tk_c2 t r7), zz, zz]
def tk_a92 (t : Th) (a : Int) (b : Int) (c : Int) (n : Int) (g1 : Nat) (g3 : Nat) (g5 : Nat) (r7 : Rw) (sn9 : ByteArray) (g4q8 : Nat) (g4q9 : Nat) : Act := ⟨((tk_l81 t a b c n g1 g3 g5 r7 sn9 g4q8 g4q9) ++ ((tk_l82 t a g3 r7) ++ ((tk_l83 t b g3) ++ ((tk_l92 t r7) ++ (tk_l2 ++ (tk_l2 ++ (tk_l3))))))).toArray, []⟩
def tk_l94 (t : Th) (g3 : Nat) (r7 : Rw) : List Value := [zz, zz, zz, zz, zz, zz, zz, zz, .bool false, .bool false, zz, .bool true, .bool true, .agg (tk_c2 t r7), .pointer (some ⟨g3, 1, none⟩), zz]
def tk_a94 (t : Th) (a : Int) (b : Int) (c : Int) (n : Int) (g1 : Nat) (g3 : Nat) (g5 : Nat) (r7 : Rw) (sn9 : ByteArray) (g4q8 : Nat) (g4q9 : Nat) : Act := ⟨((tk_l81 t a b c n g1 g3 g5 r7 sn9 g4q8 g4q9) ++ ((tk_l82 t a g3 r7) ++ ((tk_l83 t b g3) ++ ((tk_l94 t g3 r7) ++ (tk_l2 ++ (tk_l2 ++ (tk_l3))))))).toArray, []⟩
def tk_l96 (t : Th) (a : Int) (g3 : Nat) (r7 : Rw) : List Value := [zz, zz, zz, zz, zz, zz, zz, zz, .bool false, .bool false, zz, .bool true, .bool true, .agg (tk_c2 t r7), .pointer (some ⟨g3, 1, none⟩), .int .i64 a]
def tk_a96 (t : Th) (a : Int) (b : Int) (c : Int) (n : Int) (g1 : Nat) (g3 : Nat) (g5 : Nat) (r7 : Rw) (sn9 : ByteArray) (g4q8 : Nat) (g4q9 : Nat) : Act := ⟨((tk_l81 t a b c n g1 g3 g5 r7 sn9 g4q8 g4q9) ++ ((tk_l82 t a g3 r7) ++ ((tk_l83 t b g3) ++ ((tk_l96 t a g3 r7) ++ (tk_l2 ++ (tk_l2 ++ (tk_l3))))))).toArray, []⟩
def tk_l98 (g3 : Nat) : List Value := [.pointer (some ⟨g3, 4, none⟩), zz, zz, zz, zz, zz, zz, zz, zz, zz, zz, zz, zz, zz, zz, zz]
def tk_a98 (t : Th) (a : Int) (b : Int) (c : Int) (n : Int) (g1 : Nat) (g3 : Nat) (g5 : Nat) (r7 : Rw) (sn9 : ByteArray) (g4q8 : Nat) (g4q9 : Nat) : Act := ⟨((tk_l81 t a b c n g1 g3 g5 r7 sn9 g4q8 g4q9) ++ ((tk_l82 t a g3 r7) ++ ((tk_l83 t b g3) ++ ((tk_l96 t a g3 r7) ++ ((tk_l98 g3) ++ (tk_l2 ++ (tk_l3))))))).toArray, []⟩
def tk_l100 (n : Int) (g3 : Nat) : List Value := [.pointer (some ⟨g3, 4, none⟩), .int .i64 n, zz, zz, zz, zz, zz, zz, zz, zz, zz, zz, zz, zz, zz, zz]
def tk_a100 (t : Th) (a : Int) (b : Int) (c : Int) (n : Int) (g1 : Nat) (g3 : Nat) (g5 : Nat) (r7 : Rw) (sn9 : ByteArray) (g4q8 : Nat) (g4q9 : Nat) : Act := ⟨((tk_l81 t a b c n g1 g3 g5 r7 sn9 g4q8 g4q9) ++ ((tk_l82 t a g3 r7) ++ ((tk_l83 t b g3) ++ ((tk_l96 t a g3 r7) ++ ((tk_l100 n g3) ++ (tk_l2 ++ (tk_l3))))))).toArray, []⟩
def tk_l102 (n : Int) (g3 : Nat) : List Value := [.pointer (some ⟨g3, 4, none⟩), .int .i64 n, .agg #[.int .i64 n, .int .i64 0, .int .i64 0], zz, zz, zz, zz, zz, zz, zz, zz, zz, zz, zz, zz, zz]
def tk_a102 (t : Th) (a : Int) (b : Int) (c : Int) (n : Int) (g1 : Nat) (g3 : Nat) (g5 : Nat) (r7 : Rw) (sn9 : ByteArray) (g4q8 : Nat) (g4q9 : Nat) : Act := ⟨((tk_l81 t a b c n g1 g3 g5 r7 sn9 g4q8 g4q9) ++ ((tk_l82 t a g3 r7) ++ ((tk_l83 t b g3) ++ ((tk_l96 t a g3 r7) ++ ((tk_l102 n g3) ++ (tk_l2 ++ (tk_l3))))))).toArray, []⟩
def tk_c3 (t : Th) (a : Int) (n : Int) (r12 : Rw) : Array Value := #[.int .i64 t.pc, .int .i64 t.fu, .int .i64 t.st, .int .i64 ((setR t.R a n 0 0) 0), .int .i64 ((setR t.R a n 0 0) 1), .int .i64 ((setR t.R a n 0 0) 2), .int .i64 ((setR t.R a n 0 0) 3), .int .i64 ((setR t.R a n 0 0) 4), .int .i64 ((setR t.R a n 0 0) 5), .int .i64 ((setR t.R a n 0 0) 6), .int .i64 ((setR t.R a n 0 0) 7), .int .i64 ((setR t.R a n 0 0) 8), .int .i64 ((setR t.R a n 0 0) 9), .int .i64 ((setR t.R a n 0 0) 10), .int .i64 ((setR t.R a n 0 0) 11), .int .i64 t.kd, .int .i64 t.mi, .int .i64 t.mn, r12.s, r12.b, r12.n, .int .i64 t.old]
def tk_l105 (t : Th) (a : Int) (n : Int) (g3 : Nat) (r12 : Rw) : List Value := [.pointer (some ⟨g3, 4, none⟩), .int .i64 n, .agg #[.int .i64 n, .int .i64 0, .int .i64 0], .agg (tk_c3 t a n r12), zz, zz, zz, zz, zz, zz, zz, zz, zz, zz, zz, zz]
def tk_a105 (t : Th) (a : Int) (b : Int) (c : Int) (n : Int) (g1 : Nat) (g3 : Nat) (g5 : Nat) (r7 : Rw) (sn9 : ByteArray) (g4q8 : Nat) (g4q9 : Nat) (r12 : Rw) : Act := ⟨((tk_l81 t a b c n g1 g3 g5 r7 sn9 g4q8 g4q9) ++ ((tk_l82 t a g3 r7) ++ ((tk_l83 t b g3) ++ ((tk_l96 t a g3 r7) ++ ((tk_l105 t a n g3 r12) ++ (tk_l2 ++ (tk_l3))))))).toArray, []⟩
def tk_l107 (t : Th) (a : Int) (n : Int) (r12 : Rw) : List Value := [.agg (tk_c3 t a n r12)]
def tk_a107 (t : Th) (a : Int) (b : Int) (c : Int) (n : Int) (g1 : Nat) (g3 : Nat) (g5 : Nat) (r7 : Rw) (sn9 : ByteArray) (g4q8 : Nat) (g4q9 : Nat) (r12 : Rw) : Act := ⟨((tk_l81 t a b c n g1 g3 g5 r7 sn9 g4q8 g4q9) ++ ((tk_l82 t a g3 r7) ++ ((tk_l83 t b g3) ++ ((tk_l96 t a g3 r7) ++ ((tk_l105 t a n g3 r12) ++ (tk_l2 ++ ((tk_l107 t a n r12)))))))).toArray, []⟩
def tk_l109 (t : Th) (a : Int) (b : Int) (c : Int) (n : Int) (g1 : Nat) (g3 : Nat) (g5 : Nat) (r7 : Rw) (sn9 : ByteArray) (g4q8 : Nat) (g4q9 : Nat) : List Value := [.agg (tk_c0 t), .agg #[.int .i64 2, .int .i64 a, .int .i64 b, .int .i64 c, .int .i64 n], .pointer (some ⟨g1, 0, none⟩), .pointer (some ⟨g3, 0, none⟩), .pointer (some ⟨g5, 0, none⟩), .bool true, .pointer (some ⟨g4q8, 0, none⟩), .pointer (some ⟨g4q9, 0, none⟩), zz, zz, .agg (tk_c0 t), .agg (tk_c2 t r7), .pointer (some ⟨g3, 0, none⟩), .int .i64 2, .string sn9, .bool false]
def tk_a109 (t : Th) (a : Int) (b : Int) (c : Int) (n : Int) (g1 : Nat) (g3 : Nat) (g5 : Nat) (r7 : Rw) (sn9 : ByteArray) (g4q8 : Nat) (g4q9 : Nat) (r12 : Rw) : Act := ⟨((tk_l109 t a b c n g1 g3 g5 r7 sn9 g4q8 g4q9) ++ ((tk_l82 t a g3 r7) ++ ((tk_l83 t b g3) ++ ((tk_l96 t a g3 r7) ++ ((tk_l105 t a n g3 r12) ++ (tk_l2 ++ ((tk_l107 t a n r12)))))))).toArray, []⟩
def tk_l111 (t : Th) (a : Int) (b : Int) (c : Int) (n : Int) (g1 : Nat) (g3 : Nat) (g5 : Nat) (r7 : Rw) (sn9 : ByteArray) (g4q8 : Nat) (g4q9 : Nat) : List Value := [.agg (tk_c0 t), .agg #[.int .i64 3, .int .i64 a, .int .i64 b, .int .i64 c, .int .i64 n], .pointer (some ⟨g1, 0, none⟩), .pointer (some ⟨g3, 0, none⟩), .pointer (some ⟨g5, 0, none⟩), .bool false, .pointer (some ⟨g4q8, 0, none⟩), .pointer (some ⟨g4q9, 0, none⟩), zz, zz, .agg (tk_c0 t), .agg (tk_c2 t r7), .pointer (some ⟨g3, 0, none⟩), .int .i64 3, .string sn9, .bool false]
def tk_l112 (t : Th) (a : Int) (g3 : Nat) (r7 : Rw) : List Value := [.bool false, .pointer (some ⟨g3, 0, none⟩), .int .i64 3, .bool false, .bool false, .bool false, .pointer (some ⟨g3, 0, none⟩), .int .i64 3, .bool false, .bool false, zz, .agg (tk_c2 t r7), .pointer (some ⟨g3, 1, none⟩), .int .i64 a, .agg #[.int .i64 (getR t.R a 0), .int .i64 (getR t.R a 1), .int .i64 (getR t.R a 2)], .agg (tk_c2 t r7)]
def tk_l113 (t : Th) (b : Int) (g3 : Nat) : List Value := [.pointer (some ⟨g3, 2, none⟩), .int .i64 b, .agg #[.int .i64 (getR t.R b 0), .int .i64 (getR t.R b 1), .int .i64 (getR t.R b 2)], .pointer (some ⟨g3, 0, none⟩), .int .i64 3, zz, zz, zz, zz, zz, zz, zz, zz, zz, zz, zz]
def tk_a111 (t : Th) (a : Int) (b : Int) (c : Int) (n : Int) (g1 : Nat) (g3 : Nat) (g5 : Nat) (r7 : Rw) (sn9 : ByteArray) (g4q8 : Nat) (g4q9 : Nat) : Act := ⟨((tk_l111 t a b c n g1 g3 g5 r7 sn9 g4q8 g4q9) ++ ((tk_l112 t a g3 r7) ++ ((tk_l113 t b g3) ++ (tk_l84 ++ (tk_l2 ++ (tk_l2 ++ (tk_l3))))))).toArray, []⟩
def tk_a115 (t : Th) (a : Int) (b : Int) (c : Int) (n : Int) (g1 : Nat) (g3 : Nat) (g5 : Nat) (r7 : Rw) (sn9 : ByteArray) (g4q8 : Nat) (g4q9 : Nat) : Act := ⟨((tk_l111 t a b c n g1 g3 g5 r7 sn9 g4q8 g4q9) ++ ((tk_l112 t a g3 r7) ++ ((tk_l113 t b g3) ++ (tk_l86 ++ (tk_l2 ++ (tk_l2 ++ (tk_l3))))))).toArray, []⟩
def tk_l116 : List Value := [zz, zz, zz, zz, zz, zz, zz, zz, .bool false, .bool false, zz, zz, .bool false, zz, zz, zz]
def tk_a116 (t : Th) (a : Int) (b : Int) (c : Int) (n : Int) (g1 : Nat) (g3 : Nat) (g5 : Nat) (r7 : Rw) (sn9 : ByteArray) (g4q8 : Nat) (g4q9 : Nat) : Act := ⟨((tk_l111 t a b c n g1 g3 g5 r7 sn9 g4q8 g4q9) ++ ((tk_l112 t a g3 r7) ++ ((tk_l113 t b g3) ++ (tk_l116 ++ (tk_l2 ++ (tk_l2 ++ (tk_l3))))))).toArray, []⟩
def tk_l118 : List Value := [zz, zz, zz, zz, zz, zz, zz, zz, .bool false, .bool false, zz, .bool false, .bool false, zz, zz, zz]
def tk_a118 (t : Th) (a : Int) (b : Int) (c : Int) (n : Int) (g1 : Nat) (g3 : Nat) (g5 : Nat) (r7 : Rw) (sn9 : ByteArray) (g4q8 : Nat) (g4q9 : Nat) : Act := ⟨((tk_l111 t a b c n g1 g3 g5 r7 sn9 g4q8 g4q9) ++ ((tk_l112 t a g3 r7) ++ ((tk_l113 t b g3) ++ (tk_l118 ++ (tk_l2 ++ (tk_l2 ++ (tk_l3))))))).toArray, []⟩
def tk_l120 : List Value := [zz, zz, zz, zz, zz, .bool true, zz, zz, zz, zz, zz, zz, zz, zz, zz, zz]
def tk_a120 (t : Th) (a : Int) (b : Int) (c : Int) (n : Int) (g1 : Nat) (g3 : Nat) (g5 : Nat) (r7 : Rw) (sn9 : ByteArray) (g4q8 : Nat) (g4q9 : Nat) : Act := ⟨((tk_l111 t a b c n g1 g3 g5 r7 sn9 g4q8 g4q9) ++ ((tk_l112 t a g3 r7) ++ ((tk_l113 t b g3) ++ (tk_l118 ++ (tk_l120 ++ (tk_l2 ++ (tk_l3))))))).toArray, []⟩
def tk_l122 : List Value := [zz, zz, zz, zz, .bool true, .bool true, zz, zz, zz, zz, zz, zz, zz, zz, zz, zz]
def tk_a122 (t : Th) (a : Int) (b : Int) (c : Int) (n : Int) (g1 : Nat) (g3 : Nat) (g5 : Nat) (r7 : Rw) (sn9 : ByteArray) (g4q8 : Nat) (g4q9 : Nat) : Act := ⟨((tk_l111 t a b c n g1 g3 g5 r7 sn9 g4q8 g4q9) ++ ((tk_l112 t a g3 r7) ++ ((tk_l113 t b g3) ++ (tk_l118 ++ (tk_l122 ++ (tk_l2 ++ (tk_l3))))))).toArray, []⟩
def tk_l124 (t : Th) (r7 : Rw) : List Value := [zz, zz, zz, zz, .bool true, .bool true, .agg (tk_c2 t r7), zz, zz, zz, zz, zz, zz, zz, zz, zz]
def tk_a124 (t : Th) (a : Int) (b : Int) (c : Int) (n : Int) (g1 : Nat) (g3 : Nat) (g5 : Nat) (r7 : Rw) (sn9 : ByteArray) (g4q8 : Nat) (g4q9 : Nat) : Act := ⟨((tk_l111 t a b c n g1 g3 g5 r7 sn9 g4q8 g4q9) ++ ((tk_l112 t a g3 r7) ++ ((tk_l113 t b g3) ++ (tk_l118 ++ ((tk_l124 t r7) ++ (tk_l2 ++ (tk_l3))))))).toArray, []⟩
def tk_l126 (t : Th) (g3 : Nat) (r7 : Rw) : List Value := [zz, zz, zz, zz, .bool true, .bool true, .agg (tk_c2 t r7), .pointer (some ⟨g3, 1, none⟩), zz, zz, zz, zz, zz, zz, zz, zz]
def tk_a126 (t : Th) (a : Int) (b : Int) (c : Int) (n : Int) (g1 : Nat) (g3 : Nat) (g5 : Nat) (r7 : Rw) (sn9 : ByteArray) (g4q8 : Nat) (g4q9 : Nat) : Act := ⟨((tk_l111 t a b c n g1 g3 g5 r7 sn9 g4q8 g4q9) ++ ((tk_l112 t a g3 r7) ++ ((tk_l113 t b g3) ++ (tk_l118 ++ ((tk_l126 t g3 r7) ++ (tk_l2 ++ (tk_l3))))))).toArray, []⟩
def tk_l128 (t : Th) (a : Int) (g3 : Nat) (r7 : Rw) : List Value := [zz, zz, zz, zz, .bool true, .bool true, .agg (tk_c2 t r7), .pointer (some ⟨g3, 1, none⟩), .int .i64 a, zz, zz, zz, zz, zz, zz, zz]
def tk_a128 (t : Th) (a : Int) (b : Int) (c : Int) (n : Int) (g1 : Nat) (g3 : Nat) (g5 : Nat) (r7 : Rw) (sn9 : ByteArray) (g4q8 : Nat) (g4q9 : Nat) : Act := ⟨((tk_l111 t a b c n g1 g3 g5 r7 sn9 g4q8 g4q9) ++ ((tk_l112 t a g3 r7) ++ ((tk_l113 t b g3) ++ (tk_l118 ++ ((tk_l128 t a g3 r7) ++ (tk_l2 ++ (tk_l3))))))).toArray, []⟩
def tk_l130 (t : Th) (a : Int) (b : Int) (g3 : Nat) (r7 : Rw) : List Value := [zz, zz, zz, zz, .bool true, .bool true, .agg (tk_c2 t r7), .pointer (some ⟨g3, 1, none⟩), .int .i64 a, .agg #[.int .i64 (getR t.R b 0), .int .i64 (getR t.R b 1), .int .i64 (getR t.R b 2)], zz, zz, zz, zz, zz, zz]
def tk_a130 (t : Th) (a : Int) (b : Int) (c : Int) (n : Int) (g1 : Nat) (g3 : Nat) (g5 : Nat) (r7 : Rw) (sn9 : ByteArray) (g4q8 : Nat) (g4q9 : Nat) : Act := ⟨((tk_l111 t a b c n g1 g3 g5 r7 sn9 g4q8 g4q9) ++ ((tk_l112 t a g3 r7) ++ ((tk_l113 t b g3) ++ (tk_l118 ++ ((tk_l130 t a b g3 r7) ++ (tk_l2 ++ (tk_l3))))))).toArray, []⟩
def tk_c4 (t : Th) (a : Int) (b : Int) (r11 : Rw) : Array Value := #[.int .i64 t.pc, .int .i64 t.fu, .int .i64 t.st, .int .i64 ((setR t.R a (getR t.R b 0) (getR t.R b 1) (getR t.R b 2)) 0), .int .i64 ((setR t.R a (getR t.R b 0) (getR t.R b 1) (getR t.R b 2)) 1), .int .i64 ((setR t.R a (getR t.R b 0) (getR t.R b 1) (getR t.R b 2)) 2), .int .i64 ((setR t.R a (getR t.R b 0) (getR t.R b 1) (getR t.R b 2)) 3), .int .i64 ((setR t.R a (getR t.R b 0) (getR t.R b 1) (getR t.R b 2)) 4), .int .i64 ((setR t.R a (getR t.R b 0) (getR t.R b 1) (getR t.R b 2)) 5), .int .i64 ((setR t.R a (getR t.R b 0) (getR t.R b 1) (getR t.R b 2)) 6), .int .i64 ((setR t.R a (getR t.R b 0) (getR t.R b 1) (getR t.R b 2)) 7), .int .i64 ((setR t.R a (getR t.R b 0) (getR t.R b 1) (getR t.R b 2)) 8), .int .i64 ((setR t.R a (getR t.R b 0) (getR t.R b 1) (getR t.R b 2)) 9), .int .i64 ((setR t.R a (getR t.R b 0) (getR t.R b 1) (getR t.R b 2)) 10), .int .i64 ((setR t.R a (getR t.R b 0) (getR t.R b 1) (getR t.R b 2)) 11), .int .i64 t.kd, .int .i64 t.mi, .int .i64 t.mn, r11.s, r11.b, r11.n, .int .i64 t.old]
def tk_l133 (t : Th) (a : Int) (b : Int) (g3 : Nat) (r7 : Rw) (r11 : Rw) : List Value := [zz, zz, zz, zz, .bool true, .bool true, .agg (tk_c2 t r7), .pointer (some ⟨g3, 1, none⟩), .int .i64 a, .agg #[.int .i64 (getR t.R b 0), .int .i64 (getR t.R b 1), .int .i64 (getR t.R b 2)], .agg (tk_c4 t a b r11), zz, zz, zz, zz, zz]
def tk_a133 (t : Th) (a : Int) (b : Int) (c : Int) (n : Int) (g1 : Nat) (g3 : Nat) (g5 : Nat) (r7 : Rw) (sn9 : ByteArray) (g4q8 : Nat) (g4q9 : Nat) (r11 : Rw) : Act := ⟨((tk_l111 t a b c n g1 g3 g5 r7 sn9 g4q8 g4q9) ++ ((tk_l112 t a g3 r7) ++ ((tk_l113 t b g3) ++ (tk_l118 ++ ((tk_l133 t a b g3 r7 r11) ++ (tk_l2 ++ (tk_l3))))))).toArray, []⟩
def tk_l135 (t : Th) (a : Int) (b : Int) (r11 : Rw) : List Value := [.agg (tk_c4 t a b r11)]
def tk_a135 (t : Th) (a : Int) (b : Int) (c : Int) (n : Int) (g1 : Nat) (g3 : Nat) (g5 : Nat) (r7 : Rw) (sn9 : ByteArray) (g4q8 : Nat) (g4q9 : Nat) (r11 : Rw) : Act := ⟨((tk_l111 t a b c n g1 g3 g5 r7 sn9 g4q8 g4q9) ++ ((tk_l112 t a g3 r7) ++ ((tk_l113 t b g3) ++ (tk_l118 ++ ((tk_l133 t a b g3 r7 r11) ++ (tk_l2 ++ ((tk_l135 t a b r11)))))))).toArray, []⟩
def tk_l137 (t : Th) (a : Int) (b : Int) (c : Int) (n : Int) (g1 : Nat) (g3 : Nat) (g5 : Nat) (r7 : Rw) (sn9 : ByteArray) (g4q8 : Nat) (g4q9 : Nat) : List Value := [.agg (tk_c0 t), .agg #[.int .i64 3, .int .i64 a, .int .i64 b, .int .i64 c, .int .i64 n], .pointer (some ⟨g1, 0, none⟩), .pointer (some ⟨g3, 0, none⟩), .pointer (some ⟨g5, 0, none⟩), .bool true, .pointer (some ⟨g4q8, 0, none⟩), .pointer (some ⟨g4q9, 0, none⟩), zz, zz, .agg (tk_c0 t), .agg (tk_c2 t r7), .pointer (some ⟨g3, 0, none⟩), .int .i64 3, .string sn9, .bool false]
def tk_a137 (t : Th) (a : Int) (b : Int) (c : Int) (n : Int) (g1 : Nat) (g3 : Nat) (g5 : Nat) (r7 : Rw) (sn9 : ByteArray) (g4q8 : Nat) (g4q9 : Nat) (r11 : Rw) : Act := ⟨((tk_l137 t a b c n g1 g3 g5 r7 sn9 g4q8 g4q9) ++ ((tk_l112 t a g3 r7) ++ ((tk_l113 t b g3) ++ (tk_l118 ++ ((tk_l133 t a b g3 r7 r11) ++ (tk_l2 ++ ((tk_l135 t a b r11)))))))).toArray, []⟩
set_option maxHeartbeats 8000000 in
set_option maxRecDepth 100000 in
theorem th_Local23 {w : World} {t : Th} {xs : List Int} {bs : List S42} {ns : List Int} (h : t.reads w xs bs ns) (hl : xs.length ≤ 1000 ∧ bs.length ≤ 1000 ∧ ns.length ≤ 1000) (op a b c n : Int) (hop : op = 2 ∨ op = 3) : Calls Try.prog 21 #[.agg t.cells, .agg #[.int .i64 op, .int .i64 a, .int .i64 b, .int .i64 c, .int .i64 n]] w fun e w' => ∃ As cs Ab cb An cn, e = .returned (.tuple #[.agg ((localT t op a b c n).1.rows (.slice As xs.length cs) (.slice Ab bs.length cb) (.slice An ns.length cn)).cells, .bool (localT t op a b c n).2]) ∧ ((localT t op a b c n).1.rows (.slice As xs.length cs) (.slice Ab bs.length cb) (.slice An ns.length cn)).owns w' w.heap.size xs bs ns ∧ Below w.heap.size w w' := by
  · skip
    refine calls_of_wp Try.func21 rfl ?_
    have hW := Ws.nil w
    refine wp_seq ?_
    refine wp_region_list ?_
    obtain ⟨g1, W2, hr, hW, hbb, hge⟩ := hW.mk1 (P := Try.prog) (s := Instr.box 32 (.agg (tk_c0 t))) (tk_c0 t) 32 (by kernel_rfl)
    refine se (a' := (tk_a1 t op a b c n g1)) (.pointer (some ⟨g1, 0, none⟩)) (Eq.trans (b := (do pure (Next.value (← Instr.box 32 (.agg (tk_c0 t)))) : Sem Next).run Try.prog w) (by kernel_rfl) (st_val hr)) ?_
    obtain ⟨g3, W4, hr, hW, hbb, hge⟩ := hW.mk1 (P := Try.prog) (s := Instr.box 45 (.agg #[.int .i64 op, .int .i64 a, .int .i64 b, .int .i64 c, .int .i64 n])) #[.int .i64 op, .int .i64 a, .int .i64 b, .int .i64 c, .int .i64 n] 45 (by kernel_rfl)
    refine se (a' := (tk_a5 t op a b c n g1 g3)) (.pointer (some ⟨g3, 0, none⟩)) (Eq.trans (b := (do pure (Next.value (← Instr.box 45 (.agg #[.int .i64 op, .int .i64 a, .int .i64 b, .int .i64 c, .int .i64 n]))) : Sem Next).run Try.prog W2) (by kernel_rfl) (st_val hr)) ?_
    obtain ⟨g5, W6, hr, hW, hbb, hge⟩ := hW.mk1 (P := Try.prog) (s := Instr.alloc 32 true (.tuple #[])) tk_c1 32 (by kernel_rfl)
    refine se (a' := (tk_a8 t op a b c n g1 g3 g5)) (.pointer (some ⟨g5, 0, none⟩)) (Eq.trans (b := (do pure (Next.value (← Instr.alloc 32 true (.tuple #[]))) : Sem Next).run Try.prog W4) (by kernel_rfl) (st_val hr)) ?_
    refine sk (a' := (tk_a10 t op a b c n g1 g3 g5)) (.bool false) ?_
    refine wpList_nil ?_
    refine wp_seq ?_
    refine wp_region_list ?_
    refine se (a' := (tk_a12 t op a b c n g1 g3 g5)) (.agg (tk_c0 t)) (evA hW 2 0 Try.underlying32) ?_
    have hK7_g5 : g5 < W6.heap.size := blk_lt (hW.blk 0 _ _ _ rfl).1
    have hK7_g3 : g3 < W6.heap.size := blk_lt (hW.blk 1 _ _ _ rfl).1
    have hK7_g1 : g1 < W6.heap.size := blk_lt (hW.blk 2 _ _ _ rfl).1
    have hK7_le : w.heap.size ≤ W6.heap.size := hW.below.size
    refine st_call (th_Clone (t := (⟨t.pc, t.fu, t.st, t.R, t.kd, t.mi, t.mn, t.sv, t.bv, t.nv, t.old⟩ : Th)) (xs := xs) (bs := bs) (ns := ns) ⟨h.s.below hW.below, h.b.below hW.below, h.n.below hW.below⟩ hl) (by kernel_rfl) (by kernel_rfl) ?_
    rintro _ W7 ⟨As7, cs7, Ab7, cb7, An7, cn7, rfl, hO7, hB⟩
    have hW := hW.step hB
    have hK7 := KeepUp.refl W6.heap.size W7
    obtain ⟨r7, e7⟩ : ∃ r : Rw, r = ⟨.slice As7 xs.length cs7, .slice Ab7 bs.length cb7, .slice An7 ns.length cn7⟩ := ⟨_, rfl⟩
    refine ⟨_, (tk_a15 t op a b c n g1 g3 g5 r7), rfl, by (try subst e7); kernel_rfl, ?_⟩
    obtain ⟨W8, hr, hW, hF⟩ := hW.storeN (P := Try.prog) (o := 0) (cs' := (tk_c2 t r7)) (L' := [(g5, 32, tk_c1), (g3, 45, #[.int .i64 op, .int .i64 a, .int .i64 b, .int .i64 c, .int .i64 n]), (g1, 32, (tk_c2 t r7))]) 2 rfl (tk_c2 t r7) (by (try subst e7); kernel_rfl) (Nat.le_of_ble_eq_true rfl) (by kernel_rfl) rfl 32 (by kernel_rfl)
    have hK7 := hK7.store hF (.inl hK7_g1)
    refine st_none (w' := W8) (a' := (tk_a15 t op a b c n g1 g3 g5 r7)) (by kernel_rfl) (Eq.trans (b := (do Instr.storeAt 32 (.pointer (some ⟨g1, 0, none⟩)) (.agg (tk_c2 t r7)); pure Next.skip : Sem Next).run Try.prog W7) (by kernel_rfl) (st_unit hr)) (by kernel_rfl) ?_
    refine wpList_nil ?_
    refine wp_seq ?_
    refine wp_seq ?_
    refine wp_region_list ?_
    refine sk (a' := (tk_a17 t op a b c n g1 g3 g5 r7)) (.pointer (some ⟨g3, 0, none⟩)) ?_
    refine se (a' := (tk_a19 t op a b c n g1 g3 g5 r7)) (.int .i64 op) (ev1 hW 1 0 Try.underlying3) ?_
    refine st_call (name_yes op (by omega) W8) (by kernel_rfl) (by kernel_rfl) ?_
    rintro _ W9 ⟨sn9, rfl, hs9, hB⟩
    have hW := hW.step hB
    have hK7 := hK7.below hB
    refine ⟨_, (tk_a21 t op a b c n g1 g3 g5 r7 sn9), rfl, by (try subst e7); kernel_rfl, ?_⟩
    refine se (a' := (tk_a23 t op a b c n g1 g3 g5 r7 sn9)) (.bool false) (Eq.trans (b := .ok (.value (.bool (sn9.toList == (⟨#[]⟩ : ByteArray).toList))) W9) (by kernel_rfl) (st_ok hs9)) ?_
    refine sk (a' := (tk_a25 t op a b c n g1 g3 g5 r7 sn9)) (.bool false) ?_
    refine sk (a' := (tk_a27 t op a b c n g1 g3 g5 r7 sn9)) (.pointer (some ⟨g3, 0, none⟩)) ?_
    refine se (a' := (tk_a29 t op a b c n g1 g3 g5 r7 sn9)) (.int .i64 op) (ev1 hW 1 0 Try.underlying3) ?_
    refine st_call (shares_is op false (by rw [if_neg (by omega)]) W9) (by kernel_rfl) (by kernel_rfl) ?_
    rintro _ W10 ⟨rfl, hB⟩
    have hW := hW.step hB
    have hK7 := hK7.below hB
    refine ⟨_, (tk_a31 t op a b c n g1 g3 g5 r7 sn9), rfl, by (try subst e7); kernel_rfl, ?_⟩
    refine sk (a' := (tk_a33 t op a b c n g1 g3 g5 r7 sn9)) (.bool false) ?_
    refine sk (a' := (tk_a35 t op a b c n g1 g3 g5 r7 sn9)) (.bool false) ?_
    refine sk (a' := (tk_a37 t op a b c n g1 g3 g5 r7 sn9)) (.pointer (some ⟨g3, 0, none⟩)) ?_
    refine se (a' := (tk_a39 t op a b c n g1 g3 g5 r7 sn9)) (.int .i64 op) (ev1 hW 1 0 Try.underlying3) ?_
    refine se (a' := (tk_a41 t op a b c n g1 g3 g5 r7 sn9)) (.bool false) (Eq.trans (b := .ok (.value (.bool ((op : Int) == 17))) W10) (by kernel_rfl) (st_ok (beq_eq_false_iff_ne.2 (by omega)))) ?_
    refine sk (a' := (tk_a43 t op a b c n g1 g3 g5 r7 sn9)) (.bool false) ?_
    refine wpList_nil ?_
    refine wp_cond (t := false) (by kernel_rfl) ?_
    refine wp_skip ?_
    refine wp_seq ?_
    have hW := hW.drew
    have hK7 := hK7.below (below_drew (Below.refl _ _))
    refine wp_mid (M := fun a' W' => ∃ g4q8 : Nat, ∃ g4q9 : Nat, a' = (tk_a63 t op a b c n g1 g3 g5 r7 sn9 g4q8 g4q9) ∧ Ws w W' [(g4q9, 25, #[.int .i64 (getR t.R b 0), .int .i64 (getR t.R b 1), .int .i64 (getR t.R b 2)]), (g4q8, 25, #[.int .i64 (getR t.R a 0), .int .i64 (getR t.R a 1), .int .i64 (getR t.R a 2)]), (g5, 32, tk_c1), (g3, 45, #[.int .i64 op, .int .i64 a, .int .i64 b, .int .i64 c, .int .i64 n]), (g1, 32, (tk_c2 t r7))] ∧ KeepUp W6.heap.size W7 W' ∧ W7.heap.size ≤ g4q8 ∧ W7.heap.size ≤ g4q9) ?_ ?_
    · skip
      refine wp_region_held_drew (S := fun W => Ws w W [(g5, 32, tk_c1), (g3, 45, #[.int .i64 op, .int .i64 a, .int .i64 b, .int .i64 c, .int .i64 n]), (g1, 32, (tk_c2 t r7))]) (by kernel_rfl) hW (fun _ => ?_)
      refine de (a' := (tk_a45 t op a b c n g1 g3 g5 r7 sn9)) 0 (.agg (tk_c2 t r7)) rfl (fun W hH => (evA hH 2 0 Try.underlying32)) hW ?_
      refine dk (a' := (tk_a47 t op a b c n g1 g3 g5 r7 sn9)) 1 (.pointer (some ⟨g3, 1, none⟩)) hW ?_
      refine de (a' := (tk_a49 t op a b c n g1 g3 g5 r7 sn9)) 2 (.int .i64 a) rfl (fun W hH => (ev1 hH 1 1 Try.underlying3)) hW ?_
      refine de (a' := (tk_a51 t op a b c n g1 g3 g5 r7 sn9)) 4 (.agg (tk_c2 t r7)) rfl (fun W hH => (evA hH 2 0 Try.underlying32)) hW ?_
      refine dk (a' := (tk_a53 t op a b c n g1 g3 g5 r7 sn9)) 5 (.pointer (some ⟨g3, 2, none⟩)) hW ?_
      refine de (a' := (tk_a55 t op a b c n g1 g3 g5 r7 sn9)) 6 (.int .i64 b) rfl (fun W hH => (ev1 hH 1 2 Try.underlying3)) hW ?_
      refine wpAnyH_all (rs := [3, 8, 9]) (by kernel_rfl) (by simp) ?_
      refine all_cons ?_ ?_
      · skip
        refine op_call rfl (th_Get (⟨t.pc, t.fu, t.st, t.R, t.kd, t.mi, t.mn, r7.s, r7.b, r7.n, t.old⟩ : Th) a W10.drew) (by kernel_rfl) (by kernel_rfl) ?_
        rintro _ W4q3 ⟨rfl, hB⟩
        have hW := hW.step hB
        have hK7 := hK7.below hB
        refine ⟨_, (tk_a57 t op a b c n g1 g3 g5 r7 sn9), rfl, by (try subst e7); kernel_rfl, ?_⟩
        refine ⟨hW, ?_⟩
        refine wpAnyH_all (rs := [7, 8, 9]) (by kernel_rfl) (by simp) ?_
        refine all_cons ?_ ?_
        · skip
          refine op_call rfl (th_Get (⟨t.pc, t.fu, t.st, t.R, t.kd, t.mi, t.mn, r7.s, r7.b, r7.n, t.old⟩ : Th) b W4q3) (by kernel_rfl) (by kernel_rfl) ?_
          rintro _ W4q7 ⟨rfl, hB⟩
          have hW := hW.step hB
          have hK7 := hK7.below hB
          refine ⟨_, (tk_a59 t op a b c n g1 g3 g5 r7 sn9), rfl, by (try subst e7); kernel_rfl, ?_⟩
          refine ⟨hW, ?_⟩
          refine wpAnyH_all (rs := [8, 9]) (by kernel_rfl) (by simp) ?_
          refine all_cons ?_ ?_
          · skip
            obtain ⟨g4q8, W4q8, hr, hW, hbb, hge⟩ := hW.mk1 (P := Try.prog) (s := Instr.alloc 25 true (.tuple #[])) #[.int .i64 0, .int .i64 0, .int .i64 0] 25 (by kernel_rfl)
            have hK7_g4q8 := Nat.le_trans hK7.size hge
            have hK7 := hK7.below hbb
            refine op_val (w' := W4q8) (a' := (tk_a61 t op a b c n g1 g3 g5 r7 sn9 g4q8)) (.pointer (some ⟨g4q8, 0, none⟩)) rfl (by kernel_rfl) (Eq.trans (b := (do pure (Next.value (← Instr.alloc 25 true (.tuple #[]))) : Sem Next).run Try.prog W4q7) (by kernel_rfl) (st_val hr)) (by kernel_rfl) ?_
            refine ⟨hW.tail, ?_⟩
            refine wpAnyH_all (rs := [9]) (by kernel_rfl) (by simp) ?_
            refine all_cons ?_ all_nil
            obtain ⟨g4q9, W4q9, hr, hW, hbb, hge⟩ := hW.mk1 (P := Try.prog) (s := Instr.alloc 25 true (.tuple #[])) #[.int .i64 0, .int .i64 0, .int .i64 0] 25 (by kernel_rfl)
            have hK7_g4q9 := Nat.le_trans hK7.size hge
            have hK7 := hK7.below hbb
            refine op_val (w' := W4q9) (a' := (tk_a63 t op a b c n g1 g3 g5 r7 sn9 g4q8 g4q9)) (.pointer (some ⟨g4q9, 0, none⟩)) rfl (by kernel_rfl) (Eq.trans (b := (do pure (Next.value (← Instr.alloc 25 true (.tuple #[]))) : Sem Next).run Try.prog W4q8) (by kernel_rfl) (st_val hr)) (by kernel_rfl) ?_
            refine ⟨hW.tail.tail, ?_⟩
            refine wpAnyH_all (rs := [10]) (by kernel_rfl) (by simp) ?_
            refine all_cons ?_ all_nil
            obtain ⟨W4q10, hr, hW, hF⟩ := hW.storeN (P := Try.prog) (o := 0) (cs' := #[.int .i64 (getR t.R a 0), .int .i64 (getR t.R a 1), .int .i64 (getR t.R a 2)]) (L' := [(g4q9, 25, #[.int .i64 0, .int .i64 0, .int .i64 0]), (g4q8, 25, #[.int .i64 (getR t.R a 0), .int .i64 (getR t.R a 1), .int .i64 (getR t.R a 2)]), (g5, 32, tk_c1), (g3, 45, #[.int .i64 op, .int .i64 a, .int .i64 b, .int .i64 c, .int .i64 n]), (g1, 32, (tk_c2 t r7))]) 1 rfl #[.int .i64 (getR t.R a 0), .int .i64 (getR t.R a 1), .int .i64 (getR t.R a 2)] (by (try subst e7); kernel_rfl) (Nat.le_of_ble_eq_true rfl) (by kernel_rfl) rfl 25 (by kernel_rfl)
            have hK7 := hK7.store hF (.inr hK7_g4q8)
            refine op_none (w' := W4q10) (a' := (tk_a63 t op a b c n g1 g3 g5 r7 sn9 g4q8 g4q9)) rfl (by kernel_rfl) (Eq.trans (b := (do Instr.storeAt 25 (.pointer (some ⟨g4q8, 0, none⟩)) (.agg #[.int .i64 (getR t.R a 0), .int .i64 (getR t.R a 1), .int .i64 (getR t.R a 2)]); pure Next.skip : Sem Next).run Try.prog W4q9) (by kernel_rfl) (st_unit hr)) (by kernel_rfl) ?_
            refine ⟨hW.tail.tail, ?_⟩
            refine wpAnyH_all (rs := [11]) (by kernel_rfl) (by simp) ?_
            refine all_cons ?_ all_nil
            obtain ⟨W4q11, hr, hW, hF⟩ := hW.storeN (P := Try.prog) (o := 0) (cs' := #[.int .i64 (getR t.R b 0), .int .i64 (getR t.R b 1), .int .i64 (getR t.R b 2)]) (L' := [(g4q9, 25, #[.int .i64 (getR t.R b 0), .int .i64 (getR t.R b 1), .int .i64 (getR t.R b 2)]), (g4q8, 25, #[.int .i64 (getR t.R a 0), .int .i64 (getR t.R a 1), .int .i64 (getR t.R a 2)]), (g5, 32, tk_c1), (g3, 45, #[.int .i64 op, .int .i64 a, .int .i64 b, .int .i64 c, .int .i64 n]), (g1, 32, (tk_c2 t r7))]) 0 rfl #[.int .i64 (getR t.R b 0), .int .i64 (getR t.R b 1), .int .i64 (getR t.R b 2)] (by (try subst e7); kernel_rfl) (Nat.le_of_ble_eq_true rfl) (by kernel_rfl) rfl 25 (by kernel_rfl)
            have hK7 := hK7.store hF (.inr hK7_g4q9)
            refine op_none (w' := W4q11) (a' := (tk_a63 t op a b c n g1 g3 g5 r7 sn9 g4q8 g4q9)) rfl (by kernel_rfl) (Eq.trans (b := (do Instr.storeAt 25 (.pointer (some ⟨g4q9, 0, none⟩)) (.agg #[.int .i64 (getR t.R b 0), .int .i64 (getR t.R b 1), .int .i64 (getR t.R b 2)]); pure Next.skip : Sem Next).run Try.prog W4q10) (by kernel_rfl) (st_unit hr)) (by kernel_rfl) ?_
            refine ⟨hW.tail.tail, ?_⟩
            refine wpAnyH_done (by kernel_rfl) ?_ _
            simp only [Exit.then]
            exact ⟨g4q8, g4q9, rfl, hW, hK7, hK7_g4q8, hK7_g4q9⟩
          refine all_cons ?_ all_nil
          obtain ⟨g4q9, W4q9, hr, hW, hbb, hge⟩ := hW.mk1 (P := Try.prog) (s := Instr.alloc 25 true (.tuple #[])) #[.int .i64 0, .int .i64 0, .int .i64 0] 25 (by kernel_rfl)
          have hK7_g4q9 := Nat.le_trans hK7.size hge
          have hK7 := hK7.below hbb
          refine op_val (w' := W4q9) (a' := (tk_a65 t op a b c n g1 g3 g5 r7 sn9 g4q9)) (.pointer (some ⟨g4q9, 0, none⟩)) rfl (by kernel_rfl) (Eq.trans (b := (do pure (Next.value (← Instr.alloc 25 true (.tuple #[]))) : Sem Next).run Try.prog W4q7) (by kernel_rfl) (st_val hr)) (by kernel_rfl) ?_
          refine ⟨hW.tail, ?_⟩
          refine wpAnyH_all (rs := [8]) (by kernel_rfl) (by simp) ?_
          refine all_cons ?_ all_nil
          obtain ⟨g4q8, W4q8, hr, hW, hbb, hge⟩ := hW.mk1 (P := Try.prog) (s := Instr.alloc 25 true (.tuple #[])) #[.int .i64 0, .int .i64 0, .int .i64 0] 25 (by kernel_rfl)
          have hK7_g4q8 := Nat.le_trans hK7.size hge
          have hK7 := hK7.below hbb
          refine op_val (w' := W4q8) (a' := (tk_a67 t op a b c n g1 g3 g5 r7 sn9 g4q9 g4q8)) (.pointer (some ⟨g4q8, 0, none⟩)) rfl (by kernel_rfl) (Eq.trans (b := (do pure (Next.value (← Instr.alloc 25 true (.tuple #[]))) : Sem Next).run Try.prog W4q9) (by kernel_rfl) (st_val hr)) (by kernel_rfl) ?_
          refine ⟨hW.tail.tail, ?_⟩
          refine wpAnyH_all (rs := [10]) (by kernel_rfl) (by simp) ?_
          refine all_cons ?_ all_nil
          obtain ⟨W4q10, hr, hW, hF⟩ := hW.storeN (P := Try.prog) (o := 0) (cs' := #[.int .i64 (getR t.R a 0), .int .i64 (getR t.R a 1), .int .i64 (getR t.R a 2)]) (L' := [(g4q8, 25, #[.int .i64 (getR t.R a 0), .int .i64 (getR t.R a 1), .int .i64 (getR t.R a 2)]), (g4q9, 25, #[.int .i64 0, .int .i64 0, .int .i64 0]), (g5, 32, tk_c1), (g3, 45, #[.int .i64 op, .int .i64 a, .int .i64 b, .int .i64 c, .int .i64 n]), (g1, 32, (tk_c2 t r7))]) 0 rfl #[.int .i64 (getR t.R a 0), .int .i64 (getR t.R a 1), .int .i64 (getR t.R a 2)] (by (try subst e7); kernel_rfl) (Nat.le_of_ble_eq_true rfl) (by kernel_rfl) rfl 25 (by kernel_rfl)
          have hK7 := hK7.store hF (.inr hK7_g4q8)
          refine op_none (w' := W4q10) (a' := (tk_a67 t op a b c n g1 g3 g5 r7 sn9 g4q9 g4q8)) rfl (by kernel_rfl) (Eq.trans (b := (do Instr.storeAt 25 (.pointer (some ⟨g4q8, 0, none⟩)) (.agg #[.int .i64 (getR t.R a 0), .int .i64 (getR t.R a 1), .int .i64 (getR t.R a 2)]); pure Next.skip : Sem Next).run Try.prog W4q8) (by kernel_rfl) (st_unit hr)) (by kernel_rfl) ?_
          refine ⟨hW.tail.tail, ?_⟩
          refine wpAnyH_all (rs := [11]) (by kernel_rfl) (by simp) ?_
          refine all_cons ?_ all_nil
          obtain ⟨W4q11, hr, hW, hF⟩ := hW.storeN (P := Try.prog) (o := 0) (cs' := #[.int .i64 (getR t.R b 0), .int .i64 (getR t.R b 1), .int .i64 (getR t.R b 2)]) (L' := [(g4q8, 25, #[.int .i64 (getR t.R a 0), .int .i64 (getR t.R a 1), .int .i64 (getR t.R a 2)]), (g4q9, 25, #[.int .i64 (getR t.R b 0), .int .i64 (getR t.R b 1), .int .i64 (getR t.R b 2)]), (g5, 32, tk_c1), (g3, 45, #[.int .i64 op, .int .i64 a, .int .i64 b, .int .i64 c, .int .i64 n]), (g1, 32, (tk_c2 t r7))]) 1 rfl #[.int .i64 (getR t.R b 0), .int .i64 (getR t.R b 1), .int .i64 (getR t.R b 2)] (by (try subst e7); kernel_rfl) (Nat.le_of_ble_eq_true rfl) (by kernel_rfl) rfl 25 (by kernel_rfl)
          have hK7 := hK7.store hF (.inr hK7_g4q9)
          refine op_none (w' := W4q11) (a' := (tk_a67 t op a b c n g1 g3 g5 r7 sn9 g4q9 g4q8)) rfl (by kernel_rfl) (Eq.trans (b := (do Instr.storeAt 25 (.pointer (some ⟨g4q9, 0, none⟩)) (.agg #[.int .i64 (getR t.R b 0), .int .i64 (getR t.R b 1), .int .i64 (getR t.R b 2)]); pure Next.skip : Sem Next).run Try.prog W4q10) (by kernel_rfl) (st_unit hr)) (by kernel_rfl) ?_
          refine ⟨hW.tail.tail, ?_⟩
          refine wpAnyH_done (by kernel_rfl) ?_ _
          have hW := hW.swap
          simp only [Exit.then]
          exact ⟨g4q8, g4q9, rfl, hW, hK7, hK7_g4q8, hK7_g4q9⟩
        refine all_cons ?_ ?_
        · skip
          obtain ⟨g4q8, W4q8, hr, hW, hbb, hge⟩ := hW.mk1 (P := Try.prog) (s := Instr.alloc 25 true (.tuple #[])) #[.int .i64 0, .int .i64 0, .int .i64 0] 25 (by kernel_rfl)
          have hK7_g4q8 := Nat.le_trans hK7.size hge
          have hK7 := hK7.below hbb
          refine op_val (w' := W4q8) (a' := (tk_a69 t op a b c n g1 g3 g5 r7 sn9 g4q8)) (.pointer (some ⟨g4q8, 0, none⟩)) rfl (by kernel_rfl) (Eq.trans (b := (do pure (Next.value (← Instr.alloc 25 true (.tuple #[]))) : Sem Next).run Try.prog W4q3) (by kernel_rfl) (st_val hr)) (by kernel_rfl) ?_
          refine ⟨hW.tail, ?_⟩
          refine wpAnyH_all (rs := [7, 9]) (by kernel_rfl) (by simp) ?_
          refine all_cons ?_ ?_
          · skip
            refine op_call rfl (th_Get (⟨t.pc, t.fu, t.st, t.R, t.kd, t.mi, t.mn, r7.s, r7.b, r7.n, t.old⟩ : Th) b W4q8) (by kernel_rfl) (by kernel_rfl) ?_
            rintro _ W4q7 ⟨rfl, hB⟩
            have hW := hW.step hB
            have hK7 := hK7.below hB
            refine ⟨_, (tk_a61 t op a b c n g1 g3 g5 r7 sn9 g4q8), rfl, by (try subst e7); kernel_rfl, ?_⟩
            refine ⟨hW.tail, ?_⟩
            refine wpAnyH_all (rs := [9]) (by kernel_rfl) (by simp) ?_
            refine all_cons ?_ all_nil
            obtain ⟨g4q9, W4q9, hr, hW, hbb, hge⟩ := hW.mk1 (P := Try.prog) (s := Instr.alloc 25 true (.tuple #[])) #[.int .i64 0, .int .i64 0, .int .i64 0] 25 (by kernel_rfl)
            have hK7_g4q9 := Nat.le_trans hK7.size hge
            have hK7 := hK7.below hbb
            refine op_val (w' := W4q9) (a' := (tk_a63 t op a b c n g1 g3 g5 r7 sn9 g4q8 g4q9)) (.pointer (some ⟨g4q9, 0, none⟩)) rfl (by kernel_rfl) (Eq.trans (b := (do pure (Next.value (← Instr.alloc 25 true (.tuple #[]))) : Sem Next).run Try.prog W4q7) (by kernel_rfl) (st_val hr)) (by kernel_rfl) ?_
            refine ⟨hW.tail.tail, ?_⟩
            refine wpAnyH_all (rs := [10]) (by kernel_rfl) (by simp) ?_
            refine all_cons ?_ all_nil
            obtain ⟨W4q10, hr, hW, hF⟩ := hW.storeN (P := Try.prog) (o := 0) (cs' := #[.int .i64 (getR t.R a 0), .int .i64 (getR t.R a 1), .int .i64 (getR t.R a 2)]) (L' := [(g4q9, 25, #[.int .i64 0, .int .i64 0, .int .i64 0]), (g4q8, 25, #[.int .i64 (getR t.R a 0), .int .i64 (getR t.R a 1), .int .i64 (getR t.R a 2)]), (g5, 32, tk_c1), (g3, 45, #[.int .i64 op, .int .i64 a, .int .i64 b, .int .i64 c, .int .i64 n]), (g1, 32, (tk_c2 t r7))]) 1 rfl #[.int .i64 (getR t.R a 0), .int .i64 (getR t.R a 1), .int .i64 (getR t.R a 2)] (by (try subst e7); kernel_rfl) (Nat.le_of_ble_eq_true rfl) (by kernel_rfl) rfl 25 (by kernel_rfl)
            have hK7 := hK7.store hF (.inr hK7_g4q8)
            refine op_none (w' := W4q10) (a' := (tk_a63 t op a b c n g1 g3 g5 r7 sn9 g4q8 g4q9)) rfl (by kernel_rfl) (Eq.trans (b := (do Instr.storeAt 25 (.pointer (some ⟨g4q8, 0, none⟩)) (.agg #[.int .i64 (getR t.R a 0), .int .i64 (getR t.R a 1), .int .i64 (getR t.R a 2)]); pure Next.skip : Sem Next).run Try.prog W4q9) (by kernel_rfl) (st_unit hr)) (by kernel_rfl) ?_
            refine ⟨hW.tail.tail, ?_⟩
            refine wpAnyH_all (rs := [11]) (by kernel_rfl) (by simp) ?_
            refine all_cons ?_ all_nil
            obtain ⟨W4q11, hr, hW, hF⟩ := hW.storeN (P := Try.prog) (o := 0) (cs' := #[.int .i64 (getR t.R b 0), .int .i64 (getR t.R b 1), .int .i64 (getR t.R b 2)]) (L' := [(g4q9, 25, #[.int .i64 (getR t.R b 0), .int .i64 (getR t.R b 1), .int .i64 (getR t.R b 2)]), (g4q8, 25, #[.int .i64 (getR t.R a 0), .int .i64 (getR t.R a 1), .int .i64 (getR t.R a 2)]), (g5, 32, tk_c1), (g3, 45, #[.int .i64 op, .int .i64 a, .int .i64 b, .int .i64 c, .int .i64 n]), (g1, 32, (tk_c2 t r7))]) 0 rfl #[.int .i64 (getR t.R b 0), .int .i64 (getR t.R b 1), .int .i64 (getR t.R b 2)] (by (try subst e7); kernel_rfl) (Nat.le_of_ble_eq_true rfl) (by kernel_rfl) rfl 25 (by kernel_rfl)
            have hK7 := hK7.store hF (.inr hK7_g4q9)
            refine op_none (w' := W4q11) (a' := (tk_a63 t op a b c n g1 g3 g5 r7 sn9 g4q8 g4q9)) rfl (by kernel_rfl) (Eq.trans (b := (do Instr.storeAt 25 (.pointer (some ⟨g4q9, 0, none⟩)) (.agg #[.int .i64 (getR t.R b 0), .int .i64 (getR t.R b 1), .int .i64 (getR t.R b 2)]); pure Next.skip : Sem Next).run Try.prog W4q10) (by kernel_rfl) (st_unit hr)) (by kernel_rfl) ?_
            refine ⟨hW.tail.tail, ?_⟩
            refine wpAnyH_done (by kernel_rfl) ?_ _
            simp only [Exit.then]
            exact ⟨g4q8, g4q9, rfl, hW, hK7, hK7_g4q8, hK7_g4q9⟩
          refine all_cons ?_ all_nil
          obtain ⟨g4q9, W4q9, hr, hW, hbb, hge⟩ := hW.mk1 (P := Try.prog) (s := Instr.alloc 25 true (.tuple #[])) #[.int .i64 0, .int .i64 0, .int .i64 0] 25 (by kernel_rfl)
          have hK7_g4q9 := Nat.le_trans hK7.size hge
          have hK7 := hK7.below hbb
          refine op_val (w' := W4q9) (a' := (tk_a70 t op a b c n g1 g3 g5 r7 sn9 g4q8 g4q9)) (.pointer (some ⟨g4q9, 0, none⟩)) rfl (by kernel_rfl) (Eq.trans (b := (do pure (Next.value (← Instr.alloc 25 true (.tuple #[]))) : Sem Next).run Try.prog W4q8) (by kernel_rfl) (st_val hr)) (by kernel_rfl) ?_
          refine ⟨hW.tail.tail, ?_⟩
          refine wpAnyH_all (rs := [7]) (by kernel_rfl) (by simp) ?_
          refine all_cons ?_ all_nil
          refine op_call rfl (th_Get (⟨t.pc, t.fu, t.st, t.R, t.kd, t.mi, t.mn, r7.s, r7.b, r7.n, t.old⟩ : Th) b W4q9) (by kernel_rfl) (by kernel_rfl) ?_
          rintro _ W4q7 ⟨rfl, hB⟩
          have hW := hW.step hB
          have hK7 := hK7.below hB
          refine ⟨_, (tk_a63 t op a b c n g1 g3 g5 r7 sn9 g4q8 g4q9), rfl, by (try subst e7); kernel_rfl, ?_⟩
          refine ⟨hW.tail.tail, ?_⟩
          refine wpAnyH_all (rs := [10]) (by kernel_rfl) (by simp) ?_
          refine all_cons ?_ all_nil
          obtain ⟨W4q10, hr, hW, hF⟩ := hW.storeN (P := Try.prog) (o := 0) (cs' := #[.int .i64 (getR t.R a 0), .int .i64 (getR t.R a 1), .int .i64 (getR t.R a 2)]) (L' := [(g4q9, 25, #[.int .i64 0, .int .i64 0, .int .i64 0]), (g4q8, 25, #[.int .i64 (getR t.R a 0), .int .i64 (getR t.R a 1), .int .i64 (getR t.R a 2)]), (g5, 32, tk_c1), (g3, 45, #[.int .i64 op, .int .i64 a, .int .i64 b, .int .i64 c, .int .i64 n]), (g1, 32, (tk_c2 t r7))]) 1 rfl #[.int .i64 (getR t.R a 0), .int .i64 (getR t.R a 1), .int .i64 (getR t.R a 2)] (by (try subst e7); kernel_rfl) (Nat.le_of_ble_eq_true rfl) (by kernel_rfl) rfl 25 (by kernel_rfl)
          have hK7 := hK7.store hF (.inr hK7_g4q8)
          refine op_none (w' := W4q10) (a' := (tk_a63 t op a b c n g1 g3 g5 r7 sn9 g4q8 g4q9)) rfl (by kernel_rfl) (Eq.trans (b := (do Instr.storeAt 25 (.pointer (some ⟨g4q8, 0, none⟩)) (.agg #[.int .i64 (getR t.R a 0), .int .i64 (getR t.R a 1), .int .i64 (getR t.R a 2)]); pure Next.skip : Sem Next).run Try.prog W4q7) (by kernel_rfl) (st_unit hr)) (by kernel_rfl) ?_
          refine ⟨hW.tail.tail, ?_⟩
          refine wpAnyH_all (rs := [11]) (by kernel_rfl) (by simp) ?_
          refine all_cons ?_ all_nil
          obtain ⟨W4q11, hr, hW, hF⟩ := hW.storeN (P := Try.prog) (o := 0) (cs' := #[.int .i64 (getR t.R b 0), .int .i64 (getR t.R b 1), .int .i64 (getR t.R b 2)]) (L' := [(g4q9, 25, #[.int .i64 (getR t.R b 0), .int .i64 (getR t.R b 1), .int .i64 (getR t.R b 2)]), (g4q8, 25, #[.int .i64 (getR t.R a 0), .int .i64 (getR t.R a 1), .int .i64 (getR t.R a 2)]), (g5, 32, tk_c1), (g3, 45, #[.int .i64 op, .int .i64 a, .int .i64 b, .int .i64 c, .int .i64 n]), (g1, 32, (tk_c2 t r7))]) 0 rfl #[.int .i64 (getR t.R b 0), .int .i64 (getR t.R b 1), .int .i64 (getR t.R b 2)] (by (try subst e7); kernel_rfl) (Nat.le_of_ble_eq_true rfl) (by kernel_rfl) rfl 25 (by kernel_rfl)
          have hK7 := hK7.store hF (.inr hK7_g4q9)
          refine op_none (w' := W4q11) (a' := (tk_a63 t op a b c n g1 g3 g5 r7 sn9 g4q8 g4q9)) rfl (by kernel_rfl) (Eq.trans (b := (do Instr.storeAt 25 (.pointer (some ⟨g4q9, 0, none⟩)) (.agg #[.int .i64 (getR t.R b 0), .int .i64 (getR t.R b 1), .int .i64 (getR t.R b 2)]); pure Next.skip : Sem Next).run Try.prog W4q10) (by kernel_rfl) (st_unit hr)) (by kernel_rfl) ?_
          refine ⟨hW.tail.tail, ?_⟩
          refine wpAnyH_done (by kernel_rfl) ?_ _
          simp only [Exit.then]
          exact ⟨g4q8, g4q9, rfl, hW, hK7, hK7_g4q8, hK7_g4q9⟩
        refine all_cons ?_ all_nil
        obtain ⟨g4q9, W4q9, hr, hW, hbb, hge⟩ := hW.mk1 (P := Try.prog) (s := Instr.alloc 25 true (.tuple #[])) #[.int .i64 0, .int .i64 0, .int .i64 0] 25 (by kernel_rfl)
        have hK7_g4q9 := Nat.le_trans hK7.size hge
        have hK7 := hK7.below hbb
        refine op_val (w' := W4q9) (a' := (tk_a71 t op a b c n g1 g3 g5 r7 sn9 g4q9)) (.pointer (some ⟨g4q9, 0, none⟩)) rfl (by kernel_rfl) (Eq.trans (b := (do pure (Next.value (← Instr.alloc 25 true (.tuple #[]))) : Sem Next).run Try.prog W4q3) (by kernel_rfl) (st_val hr)) (by kernel_rfl) ?_
        refine ⟨hW.tail, ?_⟩
        refine wpAnyH_all (rs := [7, 8]) (by kernel_rfl) (by simp) ?_
        refine all_cons ?_ ?_
        · skip
          refine op_call rfl (th_Get (⟨t.pc, t.fu, t.st, t.R, t.kd, t.mi, t.mn, r7.s, r7.b, r7.n, t.old⟩ : Th) b W4q9) (by kernel_rfl) (by kernel_rfl) ?_
          rintro _ W4q7 ⟨rfl, hB⟩
          have hW := hW.step hB
          have hK7 := hK7.below hB
          refine ⟨_, (tk_a65 t op a b c n g1 g3 g5 r7 sn9 g4q9), rfl, by (try subst e7); kernel_rfl, ?_⟩
          refine ⟨hW.tail, ?_⟩
          refine wpAnyH_all (rs := [8]) (by kernel_rfl) (by simp) ?_
          refine all_cons ?_ all_nil
          obtain ⟨g4q8, W4q8, hr, hW, hbb, hge⟩ := hW.mk1 (P := Try.prog) (s := Instr.alloc 25 true (.tuple #[])) #[.int .i64 0, .int .i64 0, .int .i64 0] 25 (by kernel_rfl)
          have hK7_g4q8 := Nat.le_trans hK7.size hge
          have hK7 := hK7.below hbb
          refine op_val (w' := W4q8) (a' := (tk_a67 t op a b c n g1 g3 g5 r7 sn9 g4q9 g4q8)) (.pointer (some ⟨g4q8, 0, none⟩)) rfl (by kernel_rfl) (Eq.trans (b := (do pure (Next.value (← Instr.alloc 25 true (.tuple #[]))) : Sem Next).run Try.prog W4q7) (by kernel_rfl) (st_val hr)) (by kernel_rfl) ?_
          refine ⟨hW.tail.tail, ?_⟩
          refine wpAnyH_all (rs := [10]) (by kernel_rfl) (by simp) ?_
          refine all_cons ?_ all_nil
          obtain ⟨W4q10, hr, hW, hF⟩ := hW.storeN (P := Try.prog) (o := 0) (cs' := #[.int .i64 (getR t.R a 0), .int .i64 (getR t.R a 1), .int .i64 (getR t.R a 2)]) (L' := [(g4q8, 25, #[.int .i64 (getR t.R a 0), .int .i64 (getR t.R a 1), .int .i64 (getR t.R a 2)]), (g4q9, 25, #[.int .i64 0, .int .i64 0, .int .i64 0]), (g5, 32, tk_c1), (g3, 45, #[.int .i64 op, .int .i64 a, .int .i64 b, .int .i64 c, .int .i64 n]), (g1, 32, (tk_c2 t r7))]) 0 rfl #[.int .i64 (getR t.R a 0), .int .i64 (getR t.R a 1), .int .i64 (getR t.R a 2)] (by (try subst e7); kernel_rfl) (Nat.le_of_ble_eq_true rfl) (by kernel_rfl) rfl 25 (by kernel_rfl)
          have hK7 := hK7.store hF (.inr hK7_g4q8)
          refine op_none (w' := W4q10) (a' := (tk_a67 t op a b c n g1 g3 g5 r7 sn9 g4q9 g4q8)) rfl (by kernel_rfl) (Eq.trans (b := (do Instr.storeAt 25 (.pointer (some ⟨g4q8, 0, none⟩)) (.agg #[.int .i64 (getR t.R a 0), .int .i64 (getR t.R a 1), .int .i64 (getR t.R a 2)]); pure Next.skip : Sem Next).run Try.prog W4q8) (by kernel_rfl) (st_unit hr)) (by kernel_rfl) ?_
          refine ⟨hW.tail.tail, ?_⟩
          refine wpAnyH_all (rs := [11]) (by kernel_rfl) (by simp) ?_
          refine all_cons ?_ all_nil
          obtain ⟨W4q11, hr, hW, hF⟩ := hW.storeN (P := Try.prog) (o := 0) (cs' := #[.int .i64 (getR t.R b 0), .int .i64 (getR t.R b 1), .int .i64 (getR t.R b 2)]) (L' := [(g4q8, 25, #[.int .i64 (getR t.R a 0), .int .i64 (getR t.R a 1), .int .i64 (getR t.R a 2)]), (g4q9, 25, #[.int .i64 (getR t.R b 0), .int .i64 (getR t.R b 1), .int .i64 (getR t.R b 2)]), (g5, 32, tk_c1), (g3, 45, #[.int .i64 op, .int .i64 a, .int .i64 b, .int .i64 c, .int .i64 n]), (g1, 32, (tk_c2 t r7))]) 1 rfl #[.int .i64 (getR t.R b 0), .int .i64 (getR t.R b 1), .int .i64 (getR t.R b 2)] (by (try subst e7); kernel_rfl) (Nat.le_of_ble_eq_true rfl) (by kernel_rfl) rfl 25 (by kernel_rfl)
          have hK7 := hK7.store hF (.inr hK7_g4q9)
          refine op_none (w' := W4q11) (a' := (tk_a67 t op a b c n g1 g3 g5 r7 sn9 g4q9 g4q8)) rfl (by kernel_rfl) (Eq.trans (b := (do Instr.storeAt 25 (.pointer (some ⟨g4q9, 0, none⟩)) (.agg #[.int .i64 (getR t.R b 0), .int .i64 (getR t.R b 1), .int .i64 (getR t.R b 2)]); pure Next.skip : Sem Next).run Try.prog W4q10) (by kernel_rfl) (st_unit hr)) (by kernel_rfl) ?_
          refine ⟨hW.tail.tail, ?_⟩
          refine wpAnyH_done (by kernel_rfl) ?_ _
          have hW := hW.swap
          simp only [Exit.then]
          exact ⟨g4q8, g4q9, rfl, hW, hK7, hK7_g4q8, hK7_g4q9⟩
        refine all_cons ?_ all_nil
        obtain ⟨g4q8, W4q8, hr, hW, hbb, hge⟩ := hW.mk1 (P := Try.prog) (s := Instr.alloc 25 true (.tuple #[])) #[.int .i64 0, .int .i64 0, .int .i64 0] 25 (by kernel_rfl)
        have hK7_g4q8 := Nat.le_trans hK7.size hge
        have hK7 := hK7.below hbb
        refine op_val (w' := W4q8) (a' := (tk_a72 t op a b c n g1 g3 g5 r7 sn9 g4q9 g4q8)) (.pointer (some ⟨g4q8, 0, none⟩)) rfl (by kernel_rfl) (Eq.trans (b := (do pure (Next.value (← Instr.alloc 25 true (.tuple #[]))) : Sem Next).run Try.prog W4q9) (by kernel_rfl) (st_val hr)) (by kernel_rfl) ?_
        refine ⟨hW.tail.tail, ?_⟩
        refine wpAnyH_all (rs := [7]) (by kernel_rfl) (by simp) ?_
        refine all_cons ?_ all_nil
        refine op_call rfl (th_Get (⟨t.pc, t.fu, t.st, t.R, t.kd, t.mi, t.mn, r7.s, r7.b, r7.n, t.old⟩ : Th) b W4q8) (by kernel_rfl) (by kernel_rfl) ?_
        rintro _ W4q7 ⟨rfl, hB⟩
        have hW := hW.step hB
        have hK7 := hK7.below hB
        refine ⟨_, (tk_a67 t op a b c n g1 g3 g5 r7 sn9 g4q9 g4q8), rfl, by (try subst e7); kernel_rfl, ?_⟩
        refine ⟨hW.tail.tail, ?_⟩
        refine wpAnyH_all (rs := [10]) (by kernel_rfl) (by simp) ?_
        refine all_cons ?_ all_nil
        obtain ⟨W4q10, hr, hW, hF⟩ := hW.storeN (P := Try.prog) (o := 0) (cs' := #[.int .i64 (getR t.R a 0), .int .i64 (getR t.R a 1), .int .i64 (getR t.R a 2)]) (L' := [(g4q8, 25, #[.int .i64 (getR t.R a 0), .int .i64 (getR t.R a 1), .int .i64 (getR t.R a 2)]), (g4q9, 25, #[.int .i64 0, .int .i64 0, .int .i64 0]), (g5, 32, tk_c1), (g3, 45, #[.int .i64 op, .int .i64 a, .int .i64 b, .int .i64 c, .int .i64 n]), (g1, 32, (tk_c2 t r7))]) 0 rfl #[.int .i64 (getR t.R a 0), .int .i64 (getR t.R a 1), .int .i64 (getR t.R a 2)] (by (try subst e7); kernel_rfl) (Nat.le_of_ble_eq_true rfl) (by kernel_rfl) rfl 25 (by kernel_rfl)
        have hK7 := hK7.store hF (.inr hK7_g4q8)
        refine op_none (w' := W4q10) (a' := (tk_a67 t op a b c n g1 g3 g5 r7 sn9 g4q9 g4q8)) rfl (by kernel_rfl) (Eq.trans (b := (do Instr.storeAt 25 (.pointer (some ⟨g4q8, 0, none⟩)) (.agg #[.int .i64 (getR t.R a 0), .int .i64 (getR t.R a 1), .int .i64 (getR t.R a 2)]); pure Next.skip : Sem Next).run Try.prog W4q7) (by kernel_rfl) (st_unit hr)) (by kernel_rfl) ?_
        refine ⟨hW.tail.tail, ?_⟩
        refine wpAnyH_all (rs := [11]) (by kernel_rfl) (by simp) ?_
        refine all_cons ?_ all_nil
        obtain ⟨W4q11, hr, hW, hF⟩ := hW.storeN (P := Try.prog) (o := 0) (cs' := #[.int .i64 (getR t.R b 0), .int .i64 (getR t.R b 1), .int .i64 (getR t.R b 2)]) (L' := [(g4q8, 25, #[.int .i64 (getR t.R a 0), .int .i64 (getR t.R a 1), .int .i64 (getR t.R a 2)]), (g4q9, 25, #[.int .i64 (getR t.R b 0), .int .i64 (getR t.R b 1), .int .i64 (getR t.R b 2)]), (g5, 32, tk_c1), (g3, 45, #[.int .i64 op, .int .i64 a, .int .i64 b, .int .i64 c, .int .i64 n]), (g1, 32, (tk_c2 t r7))]) 1 rfl #[.int .i64 (getR t.R b 0), .int .i64 (getR t.R b 1), .int .i64 (getR t.R b 2)] (by (try subst e7); kernel_rfl) (Nat.le_of_ble_eq_true rfl) (by kernel_rfl) rfl 25 (by kernel_rfl)
        have hK7 := hK7.store hF (.inr hK7_g4q9)
        refine op_none (w' := W4q11) (a' := (tk_a67 t op a b c n g1 g3 g5 r7 sn9 g4q9 g4q8)) rfl (by kernel_rfl) (Eq.trans (b := (do Instr.storeAt 25 (.pointer (some ⟨g4q9, 0, none⟩)) (.agg #[.int .i64 (getR t.R b 0), .int .i64 (getR t.R b 1), .int .i64 (getR t.R b 2)]); pure Next.skip : Sem Next).run Try.prog W4q10) (by kernel_rfl) (st_unit hr)) (by kernel_rfl) ?_
        refine ⟨hW.tail.tail, ?_⟩
        refine wpAnyH_done (by kernel_rfl) ?_ _
        have hW := hW.swap
        simp only [Exit.then]
        exact ⟨g4q8, g4q9, rfl, hW, hK7, hK7_g4q8, hK7_g4q9⟩
      refine all_cons ?_ ?_
      · skip
        obtain ⟨g4q8, W4q8, hr, hW, hbb, hge⟩ := hW.mk1 (P := Try.prog) (s := Instr.alloc 25 true (.tuple #[])) #[.int .i64 0, .int .i64 0, .int .i64 0] 25 (by kernel_rfl)
        have hK7_g4q8 := Nat.le_trans hK7.size hge
        have hK7 := hK7.below hbb
        refine op_val (w' := W4q8) (a' := (tk_a73 t op a b c n g1 g3 g5 r7 sn9 g4q8)) (.pointer (some ⟨g4q8, 0, none⟩)) rfl (by kernel_rfl) (Eq.trans (b := (do pure (Next.value (← Instr.alloc 25 true (.tuple #[]))) : Sem Next).run Try.prog W10.drew) (by kernel_rfl) (st_val hr)) (by kernel_rfl) ?_
        refine ⟨hW.tail, ?_⟩
        refine wpAnyH_all (rs := [3, 9]) (by kernel_rfl) (by simp) ?_
        refine all_cons ?_ ?_
        · skip
          refine op_call rfl (th_Get (⟨t.pc, t.fu, t.st, t.R, t.kd, t.mi, t.mn, r7.s, r7.b, r7.n, t.old⟩ : Th) a W4q8) (by kernel_rfl) (by kernel_rfl) ?_
          rintro _ W4q3 ⟨rfl, hB⟩
          have hW := hW.step hB
          have hK7 := hK7.below hB
          refine ⟨_, (tk_a69 t op a b c n g1 g3 g5 r7 sn9 g4q8), rfl, by (try subst e7); kernel_rfl, ?_⟩
          refine ⟨hW.tail, ?_⟩
          refine wpAnyH_all (rs := [7, 9]) (by kernel_rfl) (by simp) ?_
          refine all_cons ?_ ?_
          · skip
            refine op_call rfl (th_Get (⟨t.pc, t.fu, t.st, t.R, t.kd, t.mi, t.mn, r7.s, r7.b, r7.n, t.old⟩ : Th) b W4q3) (by kernel_rfl) (by kernel_rfl) ?_
            rintro _ W4q7 ⟨rfl, hB⟩
            have hW := hW.step hB
            have hK7 := hK7.below hB
            refine ⟨_, (tk_a61 t op a b c n g1 g3 g5 r7 sn9 g4q8), rfl, by (try subst e7); kernel_rfl, ?_⟩
            refine ⟨hW.tail, ?_⟩
            refine wpAnyH_all (rs := [9]) (by kernel_rfl) (by simp) ?_
            refine all_cons ?_ all_nil
            obtain ⟨g4q9, W4q9, hr, hW, hbb, hge⟩ := hW.mk1 (P := Try.prog) (s := Instr.alloc 25 true (.tuple #[])) #[.int .i64 0, .int .i64 0, .int .i64 0] 25 (by kernel_rfl)
            have hK7_g4q9 := Nat.le_trans hK7.size hge
            have hK7 := hK7.below hbb
            refine op_val (w' := W4q9) (a' := (tk_a63 t op a b c n g1 g3 g5 r7 sn9 g4q8 g4q9)) (.pointer (some ⟨g4q9, 0, none⟩)) rfl (by kernel_rfl) (Eq.trans (b := (do pure (Next.value (← Instr.alloc 25 true (.tuple #[]))) : Sem Next).run Try.prog W4q7) (by kernel_rfl) (st_val hr)) (by kernel_rfl) ?_
            refine ⟨hW.tail.tail, ?_⟩
            refine wpAnyH_all (rs := [10]) (by kernel_rfl) (by simp) ?_
            refine all_cons ?_ all_nil
            obtain ⟨W4q10, hr, hW, hF⟩ := hW.storeN (P := Try.prog) (o := 0) (cs' := #[.int .i64 (getR t.R a 0), .int .i64 (getR t.R a 1), .int .i64 (getR t.R a 2)]) (L' := [(g4q9, 25, #[.int .i64 0, .int .i64 0, .int .i64 0]), (g4q8, 25, #[.int .i64 (getR t.R a 0), .int .i64 (getR t.R a 1), .int .i64 (getR t.R a 2)]), (g5, 32, tk_c1), (g3, 45, #[.int .i64 op, .int .i64 a, .int .i64 b, .int .i64 c, .int .i64 n]), (g1, 32, (tk_c2 t r7))]) 1 rfl #[.int .i64 (getR t.R a 0), .int .i64 (getR t.R a 1), .int .i64 (getR t.R a 2)] (by (try subst e7); kernel_rfl) (Nat.le_of_ble_eq_true rfl) (by kernel_rfl) rfl 25 (by kernel_rfl)
            have hK7 := hK7.store hF (.inr hK7_g4q8)
            refine op_none (w' := W4q10) (a' := (tk_a63 t op a b c n g1 g3 g5 r7 sn9 g4q8 g4q9)) rfl (by kernel_rfl) (Eq.trans (b := (do Instr.storeAt 25 (.pointer (some ⟨g4q8, 0, none⟩)) (.agg #[.int .i64 (getR t.R a 0), .int .i64 (getR t.R a 1), .int .i64 (getR t.R a 2)]); pure Next.skip : Sem Next).run Try.prog W4q9) (by kernel_rfl) (st_unit hr)) (by kernel_rfl) ?_
            refine ⟨hW.tail.tail, ?_⟩
            refine wpAnyH_all (rs := [11]) (by kernel_rfl) (by simp) ?_
            refine all_cons ?_ all_nil
            obtain ⟨W4q11, hr, hW, hF⟩ := hW.storeN (P := Try.prog) (o := 0) (cs' := #[.int .i64 (getR t.R b 0), .int .i64 (getR t.R b 1), .int .i64 (getR t.R b 2)]) (L' := [(g4q9, 25, #[.int .i64 (getR t.R b 0), .int .i64 (getR t.R b 1), .int .i64 (getR t.R b 2)]), (g4q8, 25, #[.int .i64 (getR t.R a 0), .int .i64 (getR t.R a 1), .int .i64 (getR t.R a 2)]), (g5, 32, tk_c1), (g3, 45, #[.int .i64 op, .int .i64 a, .int .i64 b, .int .i64 c, .int .i64 n]), (g1, 32, (tk_c2 t r7))]) 0 rfl #[.int .i64 (getR t.R b 0), .int .i64 (getR t.R b 1), .int .i64 (getR t.R b 2)] (by (try subst e7); kernel_rfl) (Nat.le_of_ble_eq_true rfl) (by kernel_rfl) rfl 25 (by kernel_rfl)
            have hK7 := hK7.store hF (.inr hK7_g4q9)
            refine op_none (w' := W4q11) (a' := (tk_a63 t op a b c n g1 g3 g5 r7 sn9 g4q8 g4q9)) rfl (by kernel_rfl) (Eq.trans (b := (do Instr.storeAt 25 (.pointer (some ⟨g4q9, 0, none⟩)) (.agg #[.int .i64 (getR t.R b 0), .int .i64 (getR t.R b 1), .int .i64 (getR t.R b 2)]); pure Next.skip : Sem Next).run Try.prog W4q10) (by kernel_rfl) (st_unit hr)) (by kernel_rfl) ?_
            refine ⟨hW.tail.tail, ?_⟩
            refine wpAnyH_done (by kernel_rfl) ?_ _
            simp only [Exit.then]
            exact ⟨g4q8, g4q9, rfl, hW, hK7, hK7_g4q8, hK7_g4q9⟩
          refine all_cons ?_ all_nil
          obtain ⟨g4q9, W4q9, hr, hW, hbb, hge⟩ := hW.mk1 (P := Try.prog) (s := Instr.alloc 25 true (.tuple #[])) #[.int .i64 0, .int .i64 0, .int .i64 0] 25 (by kernel_rfl)
          have hK7_g4q9 := Nat.le_trans hK7.size hge
          have hK7 := hK7.below hbb
          refine op_val (w' := W4q9) (a' := (tk_a70 t op a b c n g1 g3 g5 r7 sn9 g4q8 g4q9)) (.pointer (some ⟨g4q9, 0, none⟩)) rfl (by kernel_rfl) (Eq.trans (b := (do pure (Next.value (← Instr.alloc 25 true (.tuple #[]))) : Sem Next).run Try.prog W4q3) (by kernel_rfl) (st_val hr)) (by kernel_rfl) ?_
          refine ⟨hW.tail.tail, ?_⟩
          refine wpAnyH_all (rs := [7]) (by kernel_rfl) (by simp) ?_
          refine all_cons ?_ all_nil
          refine op_call rfl (th_Get (⟨t.pc, t.fu, t.st, t.R, t.kd, t.mi, t.mn, r7.s, r7.b, r7.n, t.old⟩ : Th) b W4q9) (by kernel_rfl) (by kernel_rfl) ?_
          rintro _ W4q7 ⟨rfl, hB⟩
          have hW := hW.step hB
          have hK7 := hK7.below hB
          refine ⟨_, (tk_a63 t op a b c n g1 g3 g5 r7 sn9 g4q8 g4q9), rfl, by (try subst e7); kernel_rfl, ?_⟩
          refine ⟨hW.tail.tail, ?_⟩
          refine wpAnyH_all (rs := [10]) (by kernel_rfl) (by simp) ?_
          refine all_cons ?_ all_nil
          obtain ⟨W4q10, hr, hW, hF⟩ := hW.storeN (P := Try.prog) (o := 0) (cs' := #[.int .i64 (getR t.R a 0), .int .i64 (getR t.R a 1), .int .i64 (getR t.R a 2)]) (L' := [(g4q9, 25, #[.int .i64 0, .int .i64 0, .int .i64 0]), (g4q8, 25, #[.int .i64 (getR t.R a 0), .int .i64 (getR t.R a 1), .int .i64 (getR t.R a 2)]), (g5, 32, tk_c1), (g3, 45, #[.int .i64 op, .int .i64 a, .int .i64 b, .int .i64 c, .int .i64 n]), (g1, 32, (tk_c2 t r7))]) 1 rfl #[.int .i64 (getR t.R a 0), .int .i64 (getR t.R a 1), .int .i64 (getR t.R a 2)] (by (try subst e7); kernel_rfl) (Nat.le_of_ble_eq_true rfl) (by kernel_rfl) rfl 25 (by kernel_rfl)
          have hK7 := hK7.store hF (.inr hK7_g4q8)
          refine op_none (w' := W4q10) (a' := (tk_a63 t op a b c n g1 g3 g5 r7 sn9 g4q8 g4q9)) rfl (by kernel_rfl) (Eq.trans (b := (do Instr.storeAt 25 (.pointer (some ⟨g4q8, 0, none⟩)) (.agg #[.int .i64 (getR t.R a 0), .int .i64 (getR t.R a 1), .int .i64 (getR t.R a 2)]); pure Next.skip : Sem Next).run Try.prog W4q7) (by kernel_rfl) (st_unit hr)) (by kernel_rfl) ?_
          refine ⟨hW.tail.tail, ?_⟩
          refine wpAnyH_all (rs := [11]) (by kernel_rfl) (by simp) ?_
          refine all_cons ?_ all_nil
          obtain ⟨W4q11, hr, hW, hF⟩ := hW.storeN (P := Try.prog) (o := 0) (cs' := #[.int .i64 (getR t.R b 0), .int .i64 (getR t.R b 1), .int .i64 (getR t.R b 2)]) (L' := [(g4q9, 25, #[.int .i64 (getR t.R b 0), .int .i64 (getR t.R b 1), .int .i64 (getR t.R b 2)]), (g4q8, 25, #[.int .i64 (getR t.R a 0), .int .i64 (getR t.R a 1), .int .i64 (getR t.R a 2)]), (g5, 32, tk_c1), (g3, 45, #[.int .i64 op, .int .i64 a, .int .i64 b, .int .i64 c, .int .i64 n]), (g1, 32, (tk_c2 t r7))]) 0 rfl #[.int .i64 (getR t.R b 0), .int .i64 (getR t.R b 1), .int .i64 (getR t.R b 2)] (by (try subst e7); kernel_rfl) (Nat.le_of_ble_eq_true rfl) (by kernel_rfl) rfl 25 (by kernel_rfl)
          have hK7 := hK7.store hF (.inr hK7_g4q9)
          refine op_none (w' := W4q11) (a' := (tk_a63 t op a b c n g1 g3 g5 r7 sn9 g4q8 g4q9)) rfl (by kernel_rfl) (Eq.trans (b := (do Instr.storeAt 25 (.pointer (some ⟨g4q9, 0, none⟩)) (.agg #[.int .i64 (getR t.R b 0), .int .i64 (getR t.R b 1), .int .i64 (getR t.R b 2)]); pure Next.skip : Sem Next).run Try.prog W4q10) (by kernel_rfl) (st_unit hr)) (by kernel_rfl) ?_
          refine ⟨hW.tail.tail, ?_⟩
          refine wpAnyH_done (by kernel_rfl) ?_ _
          simp only [Exit.then]
          exact ⟨g4q8, g4q9, rfl, hW, hK7, hK7_g4q8, hK7_g4q9⟩
        refine all_cons ?_ all_nil
        obtain ⟨g4q9, W4q9, hr, hW, hbb, hge⟩ := hW.mk1 (P := Try.prog) (s := Instr.alloc 25 true (.tuple #[])) #[.int .i64 0, .int .i64 0, .int .i64 0] 25 (by kernel_rfl)
        have hK7_g4q9 := Nat.le_trans hK7.size hge
        have hK7 := hK7.below hbb
        refine op_val (w' := W4q9) (a' := (tk_a74 t op a b c n g1 g3 g5 r7 sn9 g4q8 g4q9)) (.pointer (some ⟨g4q9, 0, none⟩)) rfl (by kernel_rfl) (Eq.trans (b := (do pure (Next.value (← Instr.alloc 25 true (.tuple #[]))) : Sem Next).run Try.prog W4q8) (by kernel_rfl) (st_val hr)) (by kernel_rfl) ?_
        refine ⟨hW.tail.tail, ?_⟩
        refine wpAnyH_all (rs := [3]) (by kernel_rfl) (by simp) ?_
        refine all_cons ?_ all_nil
        refine op_call rfl (th_Get (⟨t.pc, t.fu, t.st, t.R, t.kd, t.mi, t.mn, r7.s, r7.b, r7.n, t.old⟩ : Th) a W4q9) (by kernel_rfl) (by kernel_rfl) ?_
        rintro _ W4q3 ⟨rfl, hB⟩
        have hW := hW.step hB
        have hK7 := hK7.below hB
        refine ⟨_, (tk_a70 t op a b c n g1 g3 g5 r7 sn9 g4q8 g4q9), rfl, by (try subst e7); kernel_rfl, ?_⟩
        refine ⟨hW.tail.tail, ?_⟩
        refine wpAnyH_all (rs := [7]) (by kernel_rfl) (by simp) ?_
        refine all_cons ?_ all_nil
        refine op_call rfl (th_Get (⟨t.pc, t.fu, t.st, t.R, t.kd, t.mi, t.mn, r7.s, r7.b, r7.n, t.old⟩ : Th) b W4q3) (by kernel_rfl) (by kernel_rfl) ?_
        rintro _ W4q7 ⟨rfl, hB⟩
        have hW := hW.step hB
        have hK7 := hK7.below hB
        refine ⟨_, (tk_a63 t op a b c n g1 g3 g5 r7 sn9 g4q8 g4q9), rfl, by (try subst e7); kernel_rfl, ?_⟩
        refine ⟨hW.tail.tail, ?_⟩
        refine wpAnyH_all (rs := [10]) (by kernel_rfl) (by simp) ?_
        refine all_cons ?_ all_nil
        obtain ⟨W4q10, hr, hW, hF⟩ := hW.storeN (P := Try.prog) (o := 0) (cs' := #[.int .i64 (getR t.R a 0), .int .i64 (getR t.R a 1), .int .i64 (getR t.R a 2)]) (L' := [(g4q9, 25, #[.int .i64 0, .int .i64 0, .int .i64 0]), (g4q8, 25, #[.int .i64 (getR t.R a 0), .int .i64 (getR t.R a 1), .int .i64 (getR t.R a 2)]), (g5, 32, tk_c1), (g3, 45, #[.int .i64 op, .int .i64 a, .int .i64 b, .int .i64 c, .int .i64 n]), (g1, 32, (tk_c2 t r7))]) 1 rfl #[.int .i64 (getR t.R a 0), .int .i64 (getR t.R a 1), .int .i64 (getR t.R a 2)] (by (try subst e7); kernel_rfl) (Nat.le_of_ble_eq_true rfl) (by kernel_rfl) rfl 25 (by kernel_rfl)
        have hK7 := hK7.store hF (.inr hK7_g4q8)
        refine op_none (w' := W4q10) (a' := (tk_a63 t op a b c n g1 g3 g5 r7 sn9 g4q8 g4q9)) rfl (by kernel_rfl) (Eq.trans (b := (do Instr.storeAt 25 (.pointer (some ⟨g4q8, 0, none⟩)) (.agg #[.int .i64 (getR t.R a 0), .int .i64 (getR t.R a 1), .int .i64 (getR t.R a 2)]); pure Next.skip : Sem Next).run Try.prog W4q7) (by kernel_rfl) (st_unit hr)) (by kernel_rfl) ?_
        refine ⟨hW.tail.tail, ?_⟩
        refine wpAnyH_all (rs := [11]) (by kernel_rfl) (by simp) ?_
        refine all_cons ?_ all_nil
        obtain ⟨W4q11, hr, hW, hF⟩ := hW.storeN (P := Try.prog) (o := 0) (cs' := #[.int .i64 (getR t.R b 0), .int .i64 (getR t.R b 1), .int .i64 (getR t.R b 2)]) (L' := [(g4q9, 25, #[.int .i64 (getR t.R b 0), .int .i64 (getR t.R b 1), .int .i64 (getR t.R b 2)]), (g4q8, 25, #[.int .i64 (getR t.R a 0), .int .i64 (getR t.R a 1), .int .i64 (getR t.R a 2)]), (g5, 32, tk_c1), (g3, 45, #[.int .i64 op, .int .i64 a, .int .i64 b, .int .i64 c, .int .i64 n]), (g1, 32, (tk_c2 t r7))]) 0 rfl #[.int .i64 (getR t.R b 0), .int .i64 (getR t.R b 1), .int .i64 (getR t.R b 2)] (by (try subst e7); kernel_rfl) (Nat.le_of_ble_eq_true rfl) (by kernel_rfl) rfl 25 (by kernel_rfl)
        have hK7 := hK7.store hF (.inr hK7_g4q9)
        refine op_none (w' := W4q11) (a' := (tk_a63 t op a b c n g1 g3 g5 r7 sn9 g4q8 g4q9)) rfl (by kernel_rfl) (Eq.trans (b := (do Instr.storeAt 25 (.pointer (some ⟨g4q9, 0, none⟩)) (.agg #[.int .i64 (getR t.R b 0), .int .i64 (getR t.R b 1), .int .i64 (getR t.R b 2)]); pure Next.skip : Sem Next).run Try.prog W4q10) (by kernel_rfl) (st_unit hr)) (by kernel_rfl) ?_
        refine ⟨hW.tail.tail, ?_⟩
        refine wpAnyH_done (by kernel_rfl) ?_ _
        simp only [Exit.then]
        exact ⟨g4q8, g4q9, rfl, hW, hK7, hK7_g4q8, hK7_g4q9⟩
      refine all_cons ?_ all_nil
      obtain ⟨g4q9, W4q9, hr, hW, hbb, hge⟩ := hW.mk1 (P := Try.prog) (s := Instr.alloc 25 true (.tuple #[])) #[.int .i64 0, .int .i64 0, .int .i64 0] 25 (by kernel_rfl)
      have hK7_g4q9 := Nat.le_trans hK7.size hge
      have hK7 := hK7.below hbb
      refine op_val (w' := W4q9) (a' := (tk_a75 t op a b c n g1 g3 g5 r7 sn9 g4q9)) (.pointer (some ⟨g4q9, 0, none⟩)) rfl (by kernel_rfl) (Eq.trans (b := (do pure (Next.value (← Instr.alloc 25 true (.tuple #[]))) : Sem Next).run Try.prog W10.drew) (by kernel_rfl) (st_val hr)) (by kernel_rfl) ?_
      refine ⟨hW.tail, ?_⟩
      refine wpAnyH_all (rs := [3, 8]) (by kernel_rfl) (by simp) ?_
      refine all_cons ?_ ?_
      · skip
        refine op_call rfl (th_Get (⟨t.pc, t.fu, t.st, t.R, t.kd, t.mi, t.mn, r7.s, r7.b, r7.n, t.old⟩ : Th) a W4q9) (by kernel_rfl) (by kernel_rfl) ?_
        rintro _ W4q3 ⟨rfl, hB⟩
        have hW := hW.step hB
        have hK7 := hK7.below hB
        refine ⟨_, (tk_a71 t op a b c n g1 g3 g5 r7 sn9 g4q9), rfl, by (try subst e7); kernel_rfl, ?_⟩
        refine ⟨hW.tail, ?_⟩
        refine wpAnyH_all (rs := [7, 8]) (by kernel_rfl) (by simp) ?_
        refine all_cons ?_ ?_
        · skip
          refine op_call rfl (th_Get (⟨t.pc, t.fu, t.st, t.R, t.kd, t.mi, t.mn, r7.s, r7.b, r7.n, t.old⟩ : Th) b W4q3) (by kernel_rfl) (by kernel_rfl) ?_
          rintro _ W4q7 ⟨rfl, hB⟩
          have hW := hW.step hB
          have hK7 := hK7.below hB
          refine ⟨_, (tk_a65 t op a b c n g1 g3 g5 r7 sn9 g4q9), rfl, by (try subst e7); kernel_rfl, ?_⟩
          refine ⟨hW.tail, ?_⟩
          refine wpAnyH_all (rs := [8]) (by kernel_rfl) (by simp) ?_
          refine all_cons ?_ all_nil
          obtain ⟨g4q8, W4q8, hr, hW, hbb, hge⟩ := hW.mk1 (P := Try.prog) (s := Instr.alloc 25 true (.tuple #[])) #[.int .i64 0, .int .i64 0, .int .i64 0] 25 (by kernel_rfl)
          have hK7_g4q8 := Nat.le_trans hK7.size hge
          have hK7 := hK7.below hbb
          refine op_val (w' := W4q8) (a' := (tk_a67 t op a b c n g1 g3 g5 r7 sn9 g4q9 g4q8)) (.pointer (some ⟨g4q8, 0, none⟩)) rfl (by kernel_rfl) (Eq.trans (b := (do pure (Next.value (← Instr.alloc 25 true (.tuple #[]))) : Sem Next).run Try.prog W4q7) (by kernel_rfl) (st_val hr)) (by kernel_rfl) ?_
          refine ⟨hW.tail.tail, ?_⟩
          refine wpAnyH_all (rs := [10]) (by kernel_rfl) (by simp) ?_
          refine all_cons ?_ all_nil
          obtain ⟨W4q10, hr, hW, hF⟩ := hW.storeN (P := Try.prog) (o := 0) (cs' := #[.int .i64 (getR t.R a 0), .int .i64 (getR t.R a 1), .int .i64 (getR t.R a 2)]) (L' := [(g4q8, 25, #[.int .i64 (getR t.R a 0), .int .i64 (getR t.R a 1), .int .i64 (getR t.R a 2)]), (g4q9, 25, #[.int .i64 0, .int .i64 0, .int .i64 0]), (g5, 32, tk_c1), (g3, 45, #[.int .i64 op, .int .i64 a, .int .i64 b, .int .i64 c, .int .i64 n]), (g1, 32, (tk_c2 t r7))]) 0 rfl #[.int .i64 (getR t.R a 0), .int .i64 (getR t.R a 1), .int .i64 (getR t.R a 2)] (by (try subst e7); kernel_rfl) (Nat.le_of_ble_eq_true rfl) (by kernel_rfl) rfl 25 (by kernel_rfl)
          have hK7 := hK7.store hF (.inr hK7_g4q8)
          refine op_none (w' := W4q10) (a' := (tk_a67 t op a b c n g1 g3 g5 r7 sn9 g4q9 g4q8)) rfl (by kernel_rfl) (Eq.trans (b := (do Instr.storeAt 25 (.pointer (some ⟨g4q8, 0, none⟩)) (.agg #[.int .i64 (getR t.R a 0), .int .i64 (getR t.R a 1), .int .i64 (getR t.R a 2)]); pure Next.skip : Sem Next).run Try.prog W4q8) (by kernel_rfl) (st_unit hr)) (by kernel_rfl) ?_
          refine ⟨hW.tail.tail, ?_⟩
          refine wpAnyH_all (rs := [11]) (by kernel_rfl) (by simp) ?_
          refine all_cons ?_ all_nil
          obtain ⟨W4q11, hr, hW, hF⟩ := hW.storeN (P := Try.prog) (o := 0) (cs' := #[.int .i64 (getR t.R b 0), .int .i64 (getR t.R b 1), .int .i64 (getR t.R b 2)]) (L' := [(g4q8, 25, #[.int .i64 (getR t.R a 0), .int .i64 (getR t.R a 1), .int .i64 (getR t.R a 2)]), (g4q9, 25, #[.int .i64 (getR t.R b 0), .int .i64 (getR t.R b 1), .int .i64 (getR t.R b 2)]), (g5, 32, tk_c1), (g3, 45, #[.int .i64 op, .int .i64 a, .int .i64 b, .int .i64 c, .int .i64 n]), (g1, 32, (tk_c2 t r7))]) 1 rfl #[.int .i64 (getR t.R b 0), .int .i64 (getR t.R b 1), .int .i64 (getR t.R b 2)] (by (try subst e7); kernel_rfl) (Nat.le_of_ble_eq_true rfl) (by kernel_rfl) rfl 25 (by kernel_rfl)
          have hK7 := hK7.store hF (.inr hK7_g4q9)
          refine op_none (w' := W4q11) (a' := (tk_a67 t op a b c n g1 g3 g5 r7 sn9 g4q9 g4q8)) rfl (by kernel_rfl) (Eq.trans (b := (do Instr.storeAt 25 (.pointer (some ⟨g4q9, 0, none⟩)) (.agg #[.int .i64 (getR t.R b 0), .int .i64 (getR t.R b 1), .int .i64 (getR t.R b 2)]); pure Next.skip : Sem Next).run Try.prog W4q10) (by kernel_rfl) (st_unit hr)) (by kernel_rfl) ?_
          refine ⟨hW.tail.tail, ?_⟩
          refine wpAnyH_done (by kernel_rfl) ?_ _
          have hW := hW.swap
          simp only [Exit.then]
          exact ⟨g4q8, g4q9, rfl, hW, hK7, hK7_g4q8, hK7_g4q9⟩
        refine all_cons ?_ all_nil
        obtain ⟨g4q8, W4q8, hr, hW, hbb, hge⟩ := hW.mk1 (P := Try.prog) (s := Instr.alloc 25 true (.tuple #[])) #[.int .i64 0, .int .i64 0, .int .i64 0] 25 (by kernel_rfl)
        have hK7_g4q8 := Nat.le_trans hK7.size hge
        have hK7 := hK7.below hbb
        refine op_val (w' := W4q8) (a' := (tk_a72 t op a b c n g1 g3 g5 r7 sn9 g4q9 g4q8)) (.pointer (some ⟨g4q8, 0, none⟩)) rfl (by kernel_rfl) (Eq.trans (b := (do pure (Next.value (← Instr.alloc 25 true (.tuple #[]))) : Sem Next).run Try.prog W4q3) (by kernel_rfl) (st_val hr)) (by kernel_rfl) ?_
        refine ⟨hW.tail.tail, ?_⟩
        refine wpAnyH_all (rs := [7]) (by kernel_rfl) (by simp) ?_
        refine all_cons ?_ all_nil
        refine op_call rfl (th_Get (⟨t.pc, t.fu, t.st, t.R, t.kd, t.mi, t.mn, r7.s, r7.b, r7.n, t.old⟩ : Th) b W4q8) (by kernel_rfl) (by kernel_rfl) ?_
        rintro _ W4q7 ⟨rfl, hB⟩
        have hW := hW.step hB
        have hK7 := hK7.below hB
        refine ⟨_, (tk_a67 t op a b c n g1 g3 g5 r7 sn9 g4q9 g4q8), rfl, by (try subst e7); kernel_rfl, ?_⟩
        refine ⟨hW.tail.tail, ?_⟩
        refine wpAnyH_all (rs := [10]) (by kernel_rfl) (by simp) ?_
        refine all_cons ?_ all_nil
        obtain ⟨W4q10, hr, hW, hF⟩ := hW.storeN (P := Try.prog) (o := 0) (cs' := #[.int .i64 (getR t.R a 0), .int .i64 (getR t.R a 1), .int .i64 (getR t.R a 2)]) (L' := [(g4q8, 25, #[.int .i64 (getR t.R a 0), .int .i64 (getR t.R a 1), .int .i64 (getR t.R a 2)]), (g4q9, 25, #[.int .i64 0, .int .i64 0, .int .i64 0]), (g5, 32, tk_c1), (g3, 45, #[.int .i64 op, .int .i64 a, .int .i64 b, .int .i64 c, .int .i64 n]), (g1, 32, (tk_c2 t r7))]) 0 rfl #[.int .i64 (getR t.R a 0), .int .i64 (getR t.R a 1), .int .i64 (getR t.R a 2)] (by (try subst e7); kernel_rfl) (Nat.le_of_ble_eq_true rfl) (by kernel_rfl) rfl 25 (by kernel_rfl)
        have hK7 := hK7.store hF (.inr hK7_g4q8)
        refine op_none (w' := W4q10) (a' := (tk_a67 t op a b c n g1 g3 g5 r7 sn9 g4q9 g4q8)) rfl (by kernel_rfl) (Eq.trans (b := (do Instr.storeAt 25 (.pointer (some ⟨g4q8, 0, none⟩)) (.agg #[.int .i64 (getR t.R a 0), .int .i64 (getR t.R a 1), .int .i64 (getR t.R a 2)]); pure Next.skip : Sem Next).run Try.prog W4q7) (by kernel_rfl) (st_unit hr)) (by kernel_rfl) ?_
        refine ⟨hW.tail.tail, ?_⟩
        refine wpAnyH_all (rs := [11]) (by kernel_rfl) (by simp) ?_
        refine all_cons ?_ all_nil
        obtain ⟨W4q11, hr, hW, hF⟩ := hW.storeN (P := Try.prog) (o := 0) (cs' := #[.int .i64 (getR t.R b 0), .int .i64 (getR t.R b 1), .int .i64 (getR t.R b 2)]) (L' := [(g4q8, 25, #[.int .i64 (getR t.R a 0), .int .i64 (getR t.R a 1), .int .i64 (getR t.R a 2)]), (g4q9, 25, #[.int .i64 (getR t.R b 0), .int .i64 (getR t.R b 1), .int .i64 (getR t.R b 2)]), (g5, 32, tk_c1), (g3, 45, #[.int .i64 op, .int .i64 a, .int .i64 b, .int .i64 c, .int .i64 n]), (g1, 32, (tk_c2 t r7))]) 1 rfl #[.int .i64 (getR t.R b 0), .int .i64 (getR t.R b 1), .int .i64 (getR t.R b 2)] (by (try subst e7); kernel_rfl) (Nat.le_of_ble_eq_true rfl) (by kernel_rfl) rfl 25 (by kernel_rfl)
        have hK7 := hK7.store hF (.inr hK7_g4q9)
        refine op_none (w' := W4q11) (a' := (tk_a67 t op a b c n g1 g3 g5 r7 sn9 g4q9 g4q8)) rfl (by kernel_rfl) (Eq.trans (b := (do Instr.storeAt 25 (.pointer (some ⟨g4q9, 0, none⟩)) (.agg #[.int .i64 (getR t.R b 0), .int .i64 (getR t.R b 1), .int .i64 (getR t.R b 2)]); pure Next.skip : Sem Next).run Try.prog W4q10) (by kernel_rfl) (st_unit hr)) (by kernel_rfl) ?_
        refine ⟨hW.tail.tail, ?_⟩
        refine wpAnyH_done (by kernel_rfl) ?_ _
        have hW := hW.swap
        simp only [Exit.then]
        exact ⟨g4q8, g4q9, rfl, hW, hK7, hK7_g4q8, hK7_g4q9⟩
      refine all_cons ?_ all_nil
      obtain ⟨g4q8, W4q8, hr, hW, hbb, hge⟩ := hW.mk1 (P := Try.prog) (s := Instr.alloc 25 true (.tuple #[])) #[.int .i64 0, .int .i64 0, .int .i64 0] 25 (by kernel_rfl)
      have hK7_g4q8 := Nat.le_trans hK7.size hge
      have hK7 := hK7.below hbb
      refine op_val (w' := W4q8) (a' := (tk_a76 t op a b c n g1 g3 g5 r7 sn9 g4q9 g4q8)) (.pointer (some ⟨g4q8, 0, none⟩)) rfl (by kernel_rfl) (Eq.trans (b := (do pure (Next.value (← Instr.alloc 25 true (.tuple #[]))) : Sem Next).run Try.prog W4q9) (by kernel_rfl) (st_val hr)) (by kernel_rfl) ?_
      refine ⟨hW.tail.tail, ?_⟩
      refine wpAnyH_all (rs := [3]) (by kernel_rfl) (by simp) ?_
      refine all_cons ?_ all_nil
      refine op_call rfl (th_Get (⟨t.pc, t.fu, t.st, t.R, t.kd, t.mi, t.mn, r7.s, r7.b, r7.n, t.old⟩ : Th) a W4q8) (by kernel_rfl) (by kernel_rfl) ?_
      rintro _ W4q3 ⟨rfl, hB⟩
      have hW := hW.step hB
      have hK7 := hK7.below hB
      refine ⟨_, (tk_a72 t op a b c n g1 g3 g5 r7 sn9 g4q9 g4q8), rfl, by (try subst e7); kernel_rfl, ?_⟩
      refine ⟨hW.tail.tail, ?_⟩
      refine wpAnyH_all (rs := [7]) (by kernel_rfl) (by simp) ?_
      refine all_cons ?_ all_nil
      refine op_call rfl (th_Get (⟨t.pc, t.fu, t.st, t.R, t.kd, t.mi, t.mn, r7.s, r7.b, r7.n, t.old⟩ : Th) b W4q3) (by kernel_rfl) (by kernel_rfl) ?_
      rintro _ W4q7 ⟨rfl, hB⟩
      have hW := hW.step hB
      have hK7 := hK7.below hB
      refine ⟨_, (tk_a67 t op a b c n g1 g3 g5 r7 sn9 g4q9 g4q8), rfl, by (try subst e7); kernel_rfl, ?_⟩
      refine ⟨hW.tail.tail, ?_⟩
      refine wpAnyH_all (rs := [10]) (by kernel_rfl) (by simp) ?_
      refine all_cons ?_ all_nil
      obtain ⟨W4q10, hr, hW, hF⟩ := hW.storeN (P := Try.prog) (o := 0) (cs' := #[.int .i64 (getR t.R a 0), .int .i64 (getR t.R a 1), .int .i64 (getR t.R a 2)]) (L' := [(g4q8, 25, #[.int .i64 (getR t.R a 0), .int .i64 (getR t.R a 1), .int .i64 (getR t.R a 2)]), (g4q9, 25, #[.int .i64 0, .int .i64 0, .int .i64 0]), (g5, 32, tk_c1), (g3, 45, #[.int .i64 op, .int .i64 a, .int .i64 b, .int .i64 c, .int .i64 n]), (g1, 32, (tk_c2 t r7))]) 0 rfl #[.int .i64 (getR t.R a 0), .int .i64 (getR t.R a 1), .int .i64 (getR t.R a 2)] (by (try subst e7); kernel_rfl) (Nat.le_of_ble_eq_true rfl) (by kernel_rfl) rfl 25 (by kernel_rfl)
      have hK7 := hK7.store hF (.inr hK7_g4q8)
      refine op_none (w' := W4q10) (a' := (tk_a67 t op a b c n g1 g3 g5 r7 sn9 g4q9 g4q8)) rfl (by kernel_rfl) (Eq.trans (b := (do Instr.storeAt 25 (.pointer (some ⟨g4q8, 0, none⟩)) (.agg #[.int .i64 (getR t.R a 0), .int .i64 (getR t.R a 1), .int .i64 (getR t.R a 2)]); pure Next.skip : Sem Next).run Try.prog W4q7) (by kernel_rfl) (st_unit hr)) (by kernel_rfl) ?_
      refine ⟨hW.tail.tail, ?_⟩
      refine wpAnyH_all (rs := [11]) (by kernel_rfl) (by simp) ?_
      refine all_cons ?_ all_nil
      obtain ⟨W4q11, hr, hW, hF⟩ := hW.storeN (P := Try.prog) (o := 0) (cs' := #[.int .i64 (getR t.R b 0), .int .i64 (getR t.R b 1), .int .i64 (getR t.R b 2)]) (L' := [(g4q8, 25, #[.int .i64 (getR t.R a 0), .int .i64 (getR t.R a 1), .int .i64 (getR t.R a 2)]), (g4q9, 25, #[.int .i64 (getR t.R b 0), .int .i64 (getR t.R b 1), .int .i64 (getR t.R b 2)]), (g5, 32, tk_c1), (g3, 45, #[.int .i64 op, .int .i64 a, .int .i64 b, .int .i64 c, .int .i64 n]), (g1, 32, (tk_c2 t r7))]) 1 rfl #[.int .i64 (getR t.R b 0), .int .i64 (getR t.R b 1), .int .i64 (getR t.R b 2)] (by (try subst e7); kernel_rfl) (Nat.le_of_ble_eq_true rfl) (by kernel_rfl) rfl 25 (by kernel_rfl)
      have hK7 := hK7.store hF (.inr hK7_g4q9)
      refine op_none (w' := W4q11) (a' := (tk_a67 t op a b c n g1 g3 g5 r7 sn9 g4q9 g4q8)) rfl (by kernel_rfl) (Eq.trans (b := (do Instr.storeAt 25 (.pointer (some ⟨g4q9, 0, none⟩)) (.agg #[.int .i64 (getR t.R b 0), .int .i64 (getR t.R b 1), .int .i64 (getR t.R b 2)]); pure Next.skip : Sem Next).run Try.prog W4q10) (by kernel_rfl) (st_unit hr)) (by kernel_rfl) ?_
      refine ⟨hW.tail.tail, ?_⟩
      refine wpAnyH_done (by kernel_rfl) ?_ _
      have hW := hW.swap
      simp only [Exit.then]
      exact ⟨g4q8, g4q9, rfl, hW, hK7, hK7_g4q8, hK7_g4q9⟩
    rintro _ Wm4 ⟨g4q8, g4q9, rfl, hW, hK7, hK7_g4q8, hK7_g4q9⟩
    refine wp_seq ?_
    refine wp_seq ?_
    refine wp_region_list ?_
    refine sk (a' := (tk_a77 t op a b c n g1 g3 g5 r7 sn9 g4q8 g4q9)) (.pointer (some ⟨g3, 0, none⟩)) ?_
    refine se (a' := (tk_a79 t op a b c n g1 g3 g5 r7 sn9 g4q8 g4q9)) (.int .i64 op) (ev1 hW 3 0 Try.underlying3) ?_
    refine wpList_nil ?_
    refine wp_block ?_
    refine wp_seq ?_
    rcases hop with rfl | rfl
    · skip
      refine wp_region_list ?_
      refine sk (a' := (tk_a81 t a b c n g1 g3 g5 r7 sn9 g4q8 g4q9)) (.bool false) ?_
      refine sk (a' := (tk_a86 t a b c n g1 g3 g5 r7 sn9 g4q8 g4q9)) (.bool false) ?_
      refine wpList_nil ?_
      refine wp_cond (t := false) (by kernel_rfl) ?_
      refine wp_seq ?_
      refine wp_region_list ?_
      refine sk (a' := (tk_a88 t a b c n g1 g3 g5 r7 sn9 g4q8 g4q9)) (.bool true) ?_
      refine sk (a' := (tk_a90 t a b c n g1 g3 g5 r7 sn9 g4q8 g4q9)) (.bool true) ?_
      refine wpList_nil ?_
      refine wp_cond (t := true) (by kernel_rfl) ?_
      have hW := hW.drew
      have hK7 := hK7.below (below_drew (Below.refl _ _))
      refine dd_begin 7 (fun W => Ws w W [(g4q9, 25, #[.int .i64 (getR t.R b 0), .int .i64 (getR t.R b 1), .int .i64 (getR t.R b 2)]), (g4q8, 25, #[.int .i64 (getR t.R a 0), .int .i64 (getR t.R a 1), .int .i64 (getR t.R a 2)]), (g5, 32, tk_c1), (g3, 45, #[.int .i64 2, .int .i64 a, .int .i64 b, .int .i64 c, .int .i64 n]), (g1, 32, (tk_c2 t r7))]) (by kernel_rfl) ?_
      refine dd_one 0 (a' := (tk_a92 t a b c n g1 g3 g5 r7 sn9 g4q8 g4q9)) (.agg (tk_c2 t r7)) rfl (by kernel_rfl) (by kernel_rfl) (by kernel_rfl) (fun _ _ _ h => h) (by kernel_rfl) (by kernel_rfl) (by kernel_rfl) (fun W hH => (evA hH 4 0 Try.underlying32)) hW (by kernel_rfl) ?_
      refine dd_one 1 (a' := (tk_a94 t a b c n g1 g3 g5 r7 sn9 g4q8 g4q9)) (.pointer (some ⟨g3, 1, none⟩)) rfl (by kernel_rfl) (by kernel_rfl) (by kernel_rfl) (fun _ _ _ h => h) (by kernel_rfl) (by kernel_rfl) (by kernel_rfl) (fun W hH => by kernel_rfl) hW (by kernel_rfl) ?_
      refine dd_one 2 (a' := (tk_a96 t a b c n g1 g3 g5 r7 sn9 g4q8 g4q9)) (.int .i64 a) rfl (by kernel_rfl) (by kernel_rfl) (by kernel_rfl) (fun _ _ _ h => h) (by kernel_rfl) (by kernel_rfl) (by kernel_rfl) (fun W hH => (ev1 hH 3 1 Try.underlying3)) hW (by kernel_rfl) ?_
      refine dd_one 3 (a' := (tk_a98 t a b c n g1 g3 g5 r7 sn9 g4q8 g4q9)) (.pointer (some ⟨g3, 4, none⟩)) rfl (by kernel_rfl) (by kernel_rfl) (by kernel_rfl) (fun _ _ _ h => h) (by kernel_rfl) (by kernel_rfl) (by kernel_rfl) (fun W hH => by kernel_rfl) hW (by kernel_rfl) ?_
      refine dd_one 4 (a' := (tk_a100 t a b c n g1 g3 g5 r7 sn9 g4q8 g4q9)) (.int .i64 n) rfl (by kernel_rfl) (by kernel_rfl) (by kernel_rfl) (fun _ _ _ h => h) (by kernel_rfl) (by kernel_rfl) (by kernel_rfl) (fun W hH => (ev1 hH 3 4 Try.underlying2)) hW (by kernel_rfl) ?_
      refine dd_ready [5] (by kernel_rfl) rfl ?_
      refine all_cons ?_ all_nil
      refine op_call rfl (tag_Plain.calls n n 0 0 Wm4.drew rfl) (by kernel_rfl) (by kernel_rfl) ?_
      rintro _ W11 ⟨rfl, hB⟩
      have hW := hW.step hB
      have hK7 := hK7.below hB
      refine ⟨_, (tk_a102 t a b c n g1 g3 g5 r7 sn9 g4q8 g4q9), rfl, by (try subst e7); kernel_rfl, ?_⟩
      refine ⟨(fun _ => hW), ?_⟩
      refine dd_ready [6] (by kernel_rfl) rfl ?_
      refine all_cons ?_ all_nil
      have hK12_g4q9 : g4q9 < W11.heap.size := blk_lt (hW.blk 0 _ _ _ rfl).1
      have hK12_g4q8 : g4q8 < W11.heap.size := blk_lt (hW.blk 1 _ _ _ rfl).1
      have hK12_g5 : g5 < W11.heap.size := blk_lt (hW.blk 2 _ _ _ rfl).1
      have hK12_g3 : g3 < W11.heap.size := blk_lt (hW.blk 3 _ _ _ rfl).1
      have hK12_g1 : g1 < W11.heap.size := blk_lt (hW.blk 4 _ _ _ rfl).1
      have hK12_le : w.heap.size ≤ W11.heap.size := hW.below.size
      refine op_call rfl (th_Set (t := (⟨t.pc, t.fu, t.st, t.R, t.kd, t.mi, t.mn, r7.s, r7.b, r7.n, t.old⟩ : Th)) (xs := xs) (bs := bs) (ns := ns) (by subst e7; exact ⟨(hO7.keep hK7).reads.s, (hO7.keep hK7).reads.b, (hO7.keep hK7).reads.n⟩) hl a n 0 0) (by kernel_rfl) (by kernel_rfl) ?_
      rintro _ W12 ⟨As12, cs12, Ab12, cb12, An12, cn12, rfl, hO12, hB⟩
      have hW := hW.step hB
      have hK7 := hK7.below hB
      have hK12 := KeepUp.refl W11.heap.size W12
      obtain ⟨r12, e12⟩ : ∃ r : Rw, r = ⟨.slice As12 xs.length cs12, .slice Ab12 bs.length cb12, .slice An12 ns.length cn12⟩ := ⟨_, rfl⟩
      refine ⟨_, (tk_a105 t a b c n g1 g3 g5 r7 sn9 g4q8 g4q9 r12), rfl, by (try subst e7); (try subst e12); kernel_rfl, ?_⟩
      refine ⟨(fun _ => hW), ?_⟩
      refine dd_ready [7] (by kernel_rfl) rfl ?_
      refine all_cons ?_ all_nil
      obtain ⟨W13, hr, hW, hF⟩ := hW.storeN (P := Try.prog) (o := 0) (cs' := (tk_c3 t a n r12)) (L' := [(g4q9, 25, #[.int .i64 (getR t.R b 0), .int .i64 (getR t.R b 1), .int .i64 (getR t.R b 2)]), (g4q8, 25, #[.int .i64 (getR t.R a 0), .int .i64 (getR t.R a 1), .int .i64 (getR t.R a 2)]), (g5, 32, tk_c1), (g3, 45, #[.int .i64 2, .int .i64 a, .int .i64 b, .int .i64 c, .int .i64 n]), (g1, 32, (tk_c3 t a n r12))]) 4 rfl (tk_c3 t a n r12) (by (try subst e7); (try subst e12); kernel_rfl) (Nat.le_of_ble_eq_true rfl) (by kernel_rfl) rfl 32 (by kernel_rfl)
      have hK7 := hK7.store hF (.inl hK7_g1)
      have hK12 := hK12.store hF (.inl hK12_g1)
      refine op_none (w' := W13) (a' := (tk_a105 t a b c n g1 g3 g5 r7 sn9 g4q8 g4q9 r12)) rfl (by kernel_rfl) (Eq.trans (b := (do Instr.storeAt 32 (.pointer (some ⟨g1, 0, none⟩)) (.agg (tk_c3 t a n r12)); pure Next.skip : Sem Next).run Try.prog W12) (by kernel_rfl) (st_unit hr)) (by kernel_rfl) ?_
      refine ⟨(fun h => by cases (show true = false from h)), ?_⟩
      refine dd_done (by kernel_rfl) ?_ _
      refine wp_seq ?_
      refine wp_region_list ?_
      refine se (a' := (tk_a107 t a b c n g1 g3 g5 r7 sn9 g4q8 g4q9 r12)) (.agg (tk_c3 t a n r12)) (evA hW 4 0 Try.underlying32) ?_
      obtain ⟨W14, hr, hW, hF⟩ := hW.storeN (P := Try.prog) (o := 0) (cs' := (tk_c3 t a n r12)) (L' := [(g4q9, 25, #[.int .i64 (getR t.R b 0), .int .i64 (getR t.R b 1), .int .i64 (getR t.R b 2)]), (g4q8, 25, #[.int .i64 (getR t.R a 0), .int .i64 (getR t.R a 1), .int .i64 (getR t.R a 2)]), (g5, 32, (tk_c3 t a n r12)), (g3, 45, #[.int .i64 2, .int .i64 a, .int .i64 b, .int .i64 c, .int .i64 n]), (g1, 32, (tk_c3 t a n r12))]) 2 rfl (tk_c3 t a n r12) (by (try subst e7); (try subst e12); kernel_rfl) (Nat.le_of_ble_eq_true rfl) (by kernel_rfl) rfl 32 (by kernel_rfl)
      have hK7 := hK7.store hF (.inl hK7_g5)
      have hK12 := hK12.store hF (.inl hK12_g5)
      refine st_none (w' := W14) (a' := (tk_a107 t a b c n g1 g3 g5 r7 sn9 g4q8 g4q9 r12)) (by kernel_rfl) (Eq.trans (b := (do Instr.storeAt 32 (.pointer (some ⟨g5, 0, none⟩)) (.agg (tk_c3 t a n r12)); pure Next.skip : Sem Next).run Try.prog W13) (by kernel_rfl) (st_unit hr)) (by kernel_rfl) ?_
      refine sk (a' := (tk_a109 t a b c n g1 g3 g5 r7 sn9 g4q8 g4q9 r12)) (.bool true) ?_
      refine wpList_nil ?_
      refine wp_ret ?_
      (try simp only [Exit.then, Exit.inBlock])
      change bodyPost Try.prog Try.f21 _ .ret _ _
      refine bodyPost_ret (results_ct rfl _ _ g5 32 _ (0, 0) _ (by kernel_rfl) (hW.blk 2 _ _ _ rfl).1 Try.underlying32 rfl (by kernel_rfl)) rfl ?_
      have hloc : localT t 2 a b c n = ({ t with R := setR t.R a n 0 0 }, true) := (by kernel_rfl)
      subst e12
      rw [hloc]
      exact ⟨As12, cs12, Ab12, cb12, An12, cn12, rfl, ⟨Kd.R_lower (hK12.R hO12.s) hK12_le, Kd.R_lower (hK12.R hO12.b) hK12_le, Kd.R_lower (hK12.R hO12.n) hK12_le⟩, hW.below⟩
    · skip
      refine wp_region_list ?_
      refine sk (a' := (tk_a111 t a b c n g1 g3 g5 r7 sn9 g4q8 g4q9)) (.bool false) ?_
      refine sk (a' := (tk_a115 t a b c n g1 g3 g5 r7 sn9 g4q8 g4q9)) (.bool false) ?_
      refine wpList_nil ?_
      refine wp_cond (t := false) (by kernel_rfl) ?_
      refine wp_seq ?_
      refine wp_region_list ?_
      refine sk (a' := (tk_a116 t a b c n g1 g3 g5 r7 sn9 g4q8 g4q9)) (.bool false) ?_
      refine sk (a' := (tk_a118 t a b c n g1 g3 g5 r7 sn9 g4q8 g4q9)) (.bool false) ?_
      refine wpList_nil ?_
      refine wp_cond (t := false) (by kernel_rfl) ?_
      refine wp_seq ?_
      refine wp_region_list ?_
      refine sk (a' := (tk_a120 t a b c n g1 g3 g5 r7 sn9 g4q8 g4q9)) (.bool true) ?_
      refine sk (a' := (tk_a122 t a b c n g1 g3 g5 r7 sn9 g4q8 g4q9)) (.bool true) ?_
      refine wpList_nil ?_
      refine wp_cond (t := true) (by kernel_rfl) ?_
      refine wp_region_list ?_
      refine se (a' := (tk_a124 t a b c n g1 g3 g5 r7 sn9 g4q8 g4q9)) (.agg (tk_c2 t r7)) (evA hW 4 0 Try.underlying32) ?_
      refine sk (a' := (tk_a126 t a b c n g1 g3 g5 r7 sn9 g4q8 g4q9)) (.pointer (some ⟨g3, 1, none⟩)) ?_
      refine se (a' := (tk_a128 t a b c n g1 g3 g5 r7 sn9 g4q8 g4q9)) (.int .i64 a) (ev1 hW 3 1 Try.underlying3) ?_
      refine se (a' := (tk_a130 t a b c n g1 g3 g5 r7 sn9 g4q8 g4q9)) (.agg #[.int .i64 (getR t.R b 0), .int .i64 (getR t.R b 1), .int .i64 (getR t.R b 2)]) (evA hW 0 0 Try.underlying25) ?_
      have hK11_g4q9 : g4q9 < Wm4.heap.size := blk_lt (hW.blk 0 _ _ _ rfl).1
      have hK11_g4q8 : g4q8 < Wm4.heap.size := blk_lt (hW.blk 1 _ _ _ rfl).1
      have hK11_g5 : g5 < Wm4.heap.size := blk_lt (hW.blk 2 _ _ _ rfl).1
      have hK11_g3 : g3 < Wm4.heap.size := blk_lt (hW.blk 3 _ _ _ rfl).1
      have hK11_g1 : g1 < Wm4.heap.size := blk_lt (hW.blk 4 _ _ _ rfl).1
      have hK11_le : w.heap.size ≤ Wm4.heap.size := hW.below.size
      refine st_call (th_Set (t := (⟨t.pc, t.fu, t.st, t.R, t.kd, t.mi, t.mn, r7.s, r7.b, r7.n, t.old⟩ : Th)) (xs := xs) (bs := bs) (ns := ns) (by subst e7; exact ⟨(hO7.keep hK7).reads.s, (hO7.keep hK7).reads.b, (hO7.keep hK7).reads.n⟩) hl a (getR t.R b 0) (getR t.R b 1) (getR t.R b 2)) (by kernel_rfl) (by kernel_rfl) ?_
      rintro _ W11 ⟨As11, cs11, Ab11, cb11, An11, cn11, rfl, hO11, hB⟩
      have hW := hW.step hB
      have hK7 := hK7.below hB
      have hK11 := KeepUp.refl Wm4.heap.size W11
      obtain ⟨r11, e11⟩ : ∃ r : Rw, r = ⟨.slice As11 xs.length cs11, .slice Ab11 bs.length cb11, .slice An11 ns.length cn11⟩ := ⟨_, rfl⟩
      refine ⟨_, (tk_a133 t a b c n g1 g3 g5 r7 sn9 g4q8 g4q9 r11), rfl, by (try subst e7); (try subst e11); kernel_rfl, ?_⟩
      obtain ⟨W12, hr, hW, hF⟩ := hW.storeN (P := Try.prog) (o := 0) (cs' := (tk_c4 t a b r11)) (L' := [(g4q9, 25, #[.int .i64 (getR t.R b 0), .int .i64 (getR t.R b 1), .int .i64 (getR t.R b 2)]), (g4q8, 25, #[.int .i64 (getR t.R a 0), .int .i64 (getR t.R a 1), .int .i64 (getR t.R a 2)]), (g5, 32, tk_c1), (g3, 45, #[.int .i64 3, .int .i64 a, .int .i64 b, .int .i64 c, .int .i64 n]), (g1, 32, (tk_c4 t a b r11))]) 4 rfl (tk_c4 t a b r11) (by (try subst e7); (try subst e11); kernel_rfl) (Nat.le_of_ble_eq_true rfl) (by kernel_rfl) rfl 32 (by kernel_rfl)
      have hK7 := hK7.store hF (.inl hK7_g1)
      have hK11 := hK11.store hF (.inl hK11_g1)
      refine st_none (w' := W12) (a' := (tk_a133 t a b c n g1 g3 g5 r7 sn9 g4q8 g4q9 r11)) (by kernel_rfl) (Eq.trans (b := (do Instr.storeAt 32 (.pointer (some ⟨g1, 0, none⟩)) (.agg (tk_c4 t a b r11)); pure Next.skip : Sem Next).run Try.prog W11) (by kernel_rfl) (st_unit hr)) (by kernel_rfl) ?_
      refine wpList_nil ?_
      refine wp_seq ?_
      refine wp_region_list ?_
      refine se (a' := (tk_a135 t a b c n g1 g3 g5 r7 sn9 g4q8 g4q9 r11)) (.agg (tk_c4 t a b r11)) (evA hW 4 0 Try.underlying32) ?_
      obtain ⟨W13, hr, hW, hF⟩ := hW.storeN (P := Try.prog) (o := 0) (cs' := (tk_c4 t a b r11)) (L' := [(g4q9, 25, #[.int .i64 (getR t.R b 0), .int .i64 (getR t.R b 1), .int .i64 (getR t.R b 2)]), (g4q8, 25, #[.int .i64 (getR t.R a 0), .int .i64 (getR t.R a 1), .int .i64 (getR t.R a 2)]), (g5, 32, (tk_c4 t a b r11)), (g3, 45, #[.int .i64 3, .int .i64 a, .int .i64 b, .int .i64 c, .int .i64 n]), (g1, 32, (tk_c4 t a b r11))]) 2 rfl (tk_c4 t a b r11) (by (try subst e7); (try subst e11); kernel_rfl) (Nat.le_of_ble_eq_true rfl) (by kernel_rfl) rfl 32 (by kernel_rfl)
      have hK7 := hK7.store hF (.inl hK7_g5)
      have hK11 := hK11.store hF (.inl hK11_g5)
      refine st_none (w' := W13) (a' := (tk_a135 t a b c n g1 g3 g5 r7 sn9 g4q8 g4q9 r11)) (by kernel_rfl) (Eq.trans (b := (do Instr.storeAt 32 (.pointer (some ⟨g5, 0, none⟩)) (.agg (tk_c4 t a b r11)); pure Next.skip : Sem Next).run Try.prog W12) (by kernel_rfl) (st_unit hr)) (by kernel_rfl) ?_
      refine sk (a' := (tk_a137 t a b c n g1 g3 g5 r7 sn9 g4q8 g4q9 r11)) (.bool true) ?_
      refine wpList_nil ?_
      refine wp_ret ?_
      (try simp only [Exit.then, Exit.inBlock])
      change bodyPost Try.prog Try.f21 _ .ret _ _
      refine bodyPost_ret (results_ct rfl _ _ g5 32 _ (0, 0) _ (by kernel_rfl) (hW.blk 2 _ _ _ rfl).1 Try.underlying32 rfl (by kernel_rfl)) rfl ?_
      have hloc : localT t 3 a b c n = ({ t with R := setR t.R a (getR t.R b 0) (getR t.R b 1) (getR t.R b 2) }, true) := (by kernel_rfl)
      subst e11
      rw [hloc]
      exact ⟨As11, cs11, Ab11, cb11, An11, cn11, rfl, ⟨Kd.R_lower (hK11.R hO11.s) hK11_le, Kd.R_lower (hK11.R hO11.b) hK11_le, Kd.R_lower (hK11.R hO11.n) hK11_le⟩, hW.below⟩
def ta_l0 : List Value := [.bool false, zz, zz, zz, zz, zz, zz, zz, zz, zz, zz, zz, zz, zz, zz, zz]
def ta_l1 : List Value := [zz, zz, zz, zz, zz, zz, zz, zz, zz, zz, zz, zz, zz, zz, zz, zz]
def ta_l2 : List Value := [zz, zz, zz, zz, zz, zz, zz, zz, zz, zz, zz, zz]
def ta_a0 : Act := ⟨(ta_l0 ++ (ta_l1 ++ (ta_l2))).toArray, []⟩
def ta_l4 : List Value := [.bool false, zz, zz, zz, .agg #[.int .i64 0, .int .i64 0, .int .i64 0, .int .i64 3, .int .i64 0], zz, zz, zz, zz, zz, zz, zz, zz, zz, zz, zz]
def ta_a4 : Act := ⟨(ta_l4 ++ (ta_l1 ++ (ta_l2))).toArray, []⟩
def ta_c0 : Array Value := #[.int .i64 0, .int .i64 (clampF 3), .int .i64 0, .int .i64 ((fun _ => (0 : Int)) 0), .int .i64 ((fun _ => (0 : Int)) 1), .int .i64 ((fun _ => (0 : Int)) 2), .int .i64 ((fun _ => (0 : Int)) 3), .int .i64 ((fun _ => (0 : Int)) 4), .int .i64 ((fun _ => (0 : Int)) 5), .int .i64 ((fun _ => (0 : Int)) 6), .int .i64 ((fun _ => (0 : Int)) 7), .int .i64 ((fun _ => (0 : Int)) 8), .int .i64 ((fun _ => (0 : Int)) 9), .int .i64 ((fun _ => (0 : Int)) 10), .int .i64 ((fun _ => (0 : Int)) 11), .int .i64 0, .int .i64 0, .int .i64 0, .slice none 0 0, .slice none 0 0, .slice none 0 0, .int .i64 0]
def ta_l7 : List Value := [.bool false, zz, zz, zz, .agg #[.int .i64 0, .int .i64 0, .int .i64 0, .int .i64 3, .int .i64 0], .agg ta_c0, zz, zz, zz, zz, zz, zz, zz, zz, zz, zz]
def ta_a7 : Act := ⟨(ta_l7 ++ (ta_l1 ++ (ta_l2))).toArray, []⟩
def ta_c1 : Array Value := #[.int .i64 0, .int .i64 0, .int .i64 0, .int .i64 0, .int .i64 0, .int .i64 0, .int .i64 0, .int .i64 0, .int .i64 0, .int .i64 0, .int .i64 0, .int .i64 0, .int .i64 0, .int .i64 0, .int .i64 0, .int .i64 0, .int .i64 0, .int .i64 0, .slice none 0 0, .slice none 0 0, .slice none 0 0, .int .i64 0]
def ta_l10 (g2 : Nat) : List Value := [.bool false, .pointer (some ⟨g2, 0, none⟩), zz, zz, .agg #[.int .i64 0, .int .i64 0, .int .i64 0, .int .i64 3, .int .i64 0], .agg ta_c0, zz, zz, zz, zz, zz, zz, zz, zz, zz, zz]
def ta_a10 (g2 : Nat) : Act := ⟨((ta_l10 g2) ++ (ta_l1 ++ (ta_l2))).toArray, []⟩
def ta_l12 (g2 : Nat) : List Value := [.bool false, .pointer (some ⟨g2, 0, none⟩), zz, zz, .agg #[.int .i64 0, .int .i64 0, .int .i64 0, .int .i64 3, .int .i64 0], .agg ta_c0, zz, .agg ta_c0, zz, zz, zz, zz, zz, zz, zz, zz]
def ta_a12 (g2 : Nat) : Act := ⟨((ta_l12 g2) ++ (ta_l1 ++ (ta_l2))).toArray, []⟩
def ta_c2 (r5 : Rw) : Array Value := #[.int .i64 (IntKind.wrap .i64 (0 + 1)), .int .i64 (IntKind.wrap .i64 ((clampF 3) - 1)), .int .i64 0, .int .i64 ((fun _ => (0 : Int)) 0), .int .i64 ((fun _ => (0 : Int)) 1), .int .i64 ((fun _ => (0 : Int)) 2), .int .i64 ((fun _ => (0 : Int)) 3), .int .i64 ((fun _ => (0 : Int)) 4), .int .i64 ((fun _ => (0 : Int)) 5), .int .i64 ((fun _ => (0 : Int)) 6), .int .i64 ((fun _ => (0 : Int)) 7), .int .i64 ((fun _ => (0 : Int)) 8), .int .i64 ((fun _ => (0 : Int)) 9), .int .i64 ((fun _ => (0 : Int)) 10), .int .i64 ((fun _ => (0 : Int)) 11), .int .i64 0, .int .i64 0, .int .i64 0, r5.s, r5.b, r5.n, .int .i64 0]
def ta_l15 (g2 : Nat) (r5 : Rw) : List Value := [.bool false, .pointer (some ⟨g2, 0, none⟩), zz, zz, .agg #[.int .i64 0, .int .i64 0, .int .i64 0, .int .i64 3, .int .i64 0], .agg ta_c0, zz, .agg ta_c0, .agg (ta_c2 r5), zz, zz, zz, zz, zz, zz, zz]
def ta_a15 (g2 : Nat) (r5 : Rw) : Act := ⟨((ta_l15 g2 r5) ++ (ta_l1 ++ (ta_l2))).toArray, []⟩
def ta_l17 (g2 : Nat) (r5 : Rw) : List Value := [.bool false, .pointer (some ⟨g2, 0, none⟩), zz, zz, .agg #[.int .i64 0, .int .i64 0, .int .i64 0, .int .i64 3, .int .i64 0], .agg ta_c0, zz, .agg ta_c0, .agg (ta_c2 r5), .agg #[.int .i64 2, .int .i64 0, .int .i64 0, .int .i64 0, .int .i64 5], zz, zz, zz, zz, zz, zz]
def ta_a17 (g2 : Nat) (r5 : Rw) : Act := ⟨((ta_l17 g2 r5) ++ (ta_l1 ++ (ta_l2))).toArray, []⟩
def ta_c3 (r6 : Rw) : Array Value := #[.int .i64 (IntKind.wrap .i64 (0 + 1)), .int .i64 (IntKind.wrap .i64 ((clampF 3) - 1)), .int .i64 0, .int .i64 ((setR (fun _ => (0 : Int)) 0 5 0 0) 0), .int .i64 ((setR (fun _ => (0 : Int)) 0 5 0 0) 1), .int .i64 ((setR (fun _ => (0 : Int)) 0 5 0 0) 2), .int .i64 ((setR (fun _ => (0 : Int)) 0 5 0 0) 3), .int .i64 ((setR (fun _ => (0 : Int)) 0 5 0 0) 4), .int .i64 ((setR (fun _ => (0 : Int)) 0 5 0 0) 5), .int .i64 ((setR (fun _ => (0 : Int)) 0 5 0 0) 6), .int .i64 ((setR (fun _ => (0 : Int)) 0 5 0 0) 7), .int .i64 ((setR (fun _ => (0 : Int)) 0 5 0 0) 8), .int .i64 ((setR (fun _ => (0 : Int)) 0 5 0 0) 9), .int .i64 ((setR (fun _ => (0 : Int)) 0 5 0 0) 10), .int .i64 ((setR (fun _ => (0 : Int)) 0 5 0 0) 11), .int .i64 0, .int .i64 0, .int .i64 0, r6.s, r6.b, r6.n, .int .i64 0]
def ta_l20 (g2 : Nat) (r5 : Rw) (r6 : Rw) : List Value := [.bool false, .pointer (some ⟨g2, 0, none⟩), zz, zz, .agg #[.int .i64 0, .int .i64 0, .int .i64 0, .int .i64 3, .int .i64 0], .agg ta_c0, zz, .agg ta_c0, .agg (ta_c2 r5), .agg #[.int .i64 2, .int .i64 0, .int .i64 0, .int .i64 0, .int .i64 5], .tuple #[.agg (ta_c3 r6), .bool true], zz, zz, zz, zz, zz]
def ta_a20 (g2 : Nat) (r5 : Rw) (r6 : Rw) : Act := ⟨((ta_l20 g2 r5 r6) ++ (ta_l1 ++ (ta_l2))).toArray, []⟩
def ta_l22 (g2 : Nat) (r5 : Rw) (r6 : Rw) : List Value := [.bool false, .pointer (some ⟨g2, 0, none⟩), zz, zz, .agg #[.int .i64 0, .int .i64 0, .int .i64 0, .int .i64 3, .int .i64 0], .agg ta_c0, .tuple #[.agg (ta_c3 r6), .bool true], .agg ta_c0, .agg (ta_c2 r5), .agg #[.int .i64 2, .int .i64 0, .int .i64 0, .int .i64 0, .int .i64 5], .tuple #[.agg (ta_c3 r6), .bool true], zz, zz, zz, zz, zz]
def ta_a22 (g2 : Nat) (r5 : Rw) (r6 : Rw) : Act := ⟨((ta_l22 g2 r5 r6) ++ (ta_l1 ++ (ta_l2))).toArray, []⟩
def ta_l24 (g2 : Nat) (r5 : Rw) (r6 : Rw) : List Value := [.bool false, .pointer (some ⟨g2, 0, none⟩), zz, zz, .agg #[.int .i64 0, .int .i64 0, .int .i64 0, .int .i64 3, .int .i64 0], .agg ta_c0, .tuple #[.agg (ta_c3 r6), .bool true], .agg ta_c0, .agg (ta_c2 r5), .agg #[.int .i64 2, .int .i64 0, .int .i64 0, .int .i64 0, .int .i64 5], .tuple #[.agg (ta_c3 r6), .bool true], .agg (ta_c3 r6), zz, zz, zz, zz]
def ta_a24 (g2 : Nat) (r5 : Rw) (r6 : Rw) : Act := ⟨((ta_l24 g2 r5 r6) ++ (ta_l1 ++ (ta_l2))).toArray, []⟩
def ta_l26 (g2 : Nat) (r5 : Rw) (r6 : Rw) : List Value := [.bool false, .pointer (some ⟨g2, 0, none⟩), zz, zz, .agg #[.int .i64 0, .int .i64 0, .int .i64 0, .int .i64 3, .int .i64 0], .agg ta_c0, .tuple #[.agg (ta_c3 r6), .bool true], .agg ta_c0, .agg (ta_c2 r5), .agg #[.int .i64 2, .int .i64 0, .int .i64 0, .int .i64 0, .int .i64 5], .tuple #[.agg (ta_c3 r6), .bool true], .agg (ta_c3 r6), .bool true, zz, zz, zz]
def ta_a26 (g2 : Nat) (r5 : Rw) (r6 : Rw) : Act := ⟨((ta_l26 g2 r5 r6) ++ (ta_l1 ++ (ta_l2))).toArray, []⟩
def ta_l28 (g2 : Nat) (r5 : Rw) (r6 : Rw) : List Value := [.bool false, .pointer (some ⟨g2, 0, none⟩), .bool true, zz, .agg #[.int .i64 0, .int .i64 0, .int .i64 0, .int .i64 3, .int .i64 0], .agg ta_c0, .tuple #[.agg (ta_c3 r6), .bool true], .agg ta_c0, .agg (ta_c2 r5), .agg #[.int .i64 2, .int .i64 0, .int .i64 0, .int .i64 0, .int .i64 5], .tuple #[.agg (ta_c3 r6), .bool true], .agg (ta_c3 r6), .bool true, zz, zz, zz]
def ta_a28 (g2 : Nat) (r5 : Rw) (r6 : Rw) : Act := ⟨((ta_l28 g2 r5 r6) ++ (ta_l1 ++ (ta_l2))).toArray, []⟩
def ta_l30 (g2 : Nat) (r5 : Rw) (r6 : Rw) : List Value := [.bool false, .pointer (some ⟨g2, 0, none⟩), .bool true, zz, .agg #[.int .i64 0, .int .i64 0, .int .i64 0, .int .i64 3, .int .i64 0], .agg ta_c0, .tuple #[.agg (ta_c3 r6), .bool true], .agg ta_c0, .agg (ta_c2 r5), .agg #[.int .i64 2, .int .i64 0, .int .i64 0, .int .i64 0, .int .i64 5], .tuple #[.agg (ta_c3 r6), .bool true], .agg (ta_c3 r6), .bool true, zz, .agg (ta_c3 r6), zz]
def ta_a30 (g2 : Nat) (r5 : Rw) (r6 : Rw) : Act := ⟨((ta_l30 g2 r5 r6) ++ (ta_l1 ++ (ta_l2))).toArray, []⟩
def ta_c4 (r8 : Rw) : Array Value := #[.int .i64 (IntKind.wrap .i64 ((IntKind.wrap .i64 (0 + 1)) + 1)), .int .i64 (IntKind.wrap .i64 ((IntKind.wrap .i64 ((clampF 3) - 1)) - 1)), .int .i64 0, .int .i64 ((setR (fun _ => (0 : Int)) 0 5 0 0) 0), .int .i64 ((setR (fun _ => (0 : Int)) 0 5 0 0) 1), .int .i64 ((setR (fun _ => (0 : Int)) 0 5 0 0) 2), .int .i64 ((setR (fun _ => (0 : Int)) 0 5 0 0) 3), .int .i64 ((setR (fun _ => (0 : Int)) 0 5 0 0) 4), .int .i64 ((setR (fun _ => (0 : Int)) 0 5 0 0) 5), .int .i64 ((setR (fun _ => (0 : Int)) 0 5 0 0) 6), .int .i64 ((setR (fun _ => (0 : Int)) 0 5 0 0) 7), .int .i64 ((setR (fun _ => (0 : Int)) 0 5 0 0) 8), .int .i64 ((setR (fun _ => (0 : Int)) 0 5 0 0) 9), .int .i64 ((setR (fun _ => (0 : Int)) 0 5 0 0) 10), .int .i64 ((setR (fun _ => (0 : Int)) 0 5 0 0) 11), .int .i64 0, .int .i64 0, .int .i64 0, r8.s, r8.b, r8.n, .int .i64 0]
def ta_l33 (g2 : Nat) (r5 : Rw) (r6 : Rw) (r8 : Rw) : List Value := [.bool false, .pointer (some ⟨g2, 0, none⟩), .bool true, zz, .agg #[.int .i64 0, .int .i64 0, .int .i64 0, .int .i64 3, .int .i64 0], .agg ta_c0, .tuple #[.agg (ta_c3 r6), .bool true], .agg ta_c0, .agg (ta_c2 r5), .agg #[.int .i64 2, .int .i64 0, .int .i64 0, .int .i64 0, .int .i64 5], .tuple #[.agg (ta_c3 r6), .bool true], .agg (ta_c3 r6), .bool true, zz, .agg (ta_c3 r6), .agg (ta_c4 r8)]
def ta_a33 (g2 : Nat) (r5 : Rw) (r6 : Rw) (r8 : Rw) : Act := ⟨((ta_l33 g2 r5 r6 r8) ++ (ta_l1 ++ (ta_l2))).toArray, []⟩
def ta_l35 : List Value := [.agg #[.int .i64 3, .int .i64 1, .int .i64 0, .int .i64 0, .int .i64 0], zz, zz, zz, zz, zz, zz, zz, zz, zz, zz, zz, zz, zz, zz, zz]
def ta_a35 (g2 : Nat) (r5 : Rw) (r6 : Rw) (r8 : Rw) : Act := ⟨((ta_l33 g2 r5 r6 r8) ++ (ta_l35 ++ (ta_l2))).toArray, []⟩
def ta_c5 (r9 : Rw) : Array Value := #[.int .i64 (IntKind.wrap .i64 ((IntKind.wrap .i64 (0 + 1)) + 1)), .int .i64 (IntKind.wrap .i64 ((IntKind.wrap .i64 ((clampF 3) - 1)) - 1)), .int .i64 0, .int .i64 ((setR (setR (fun _ => (0 : Int)) 0 5 0 0) 1 (getR (setR (fun _ => (0 : Int)) 0 5 0 0) 0 0) (getR (setR (fun _ => (0 : Int)) 0 5 0 0) 0 1) (getR (setR (fun _ => (0 : Int)) 0 5 0 0) 0 2)) 0), .int .i64 ((setR (setR (fun _ => (0 : Int)) 0 5 0 0) 1 (getR (setR (fun _ => (0 : Int)) 0 5 0 0) 0 0) (getR (setR (fun _ => (0 : Int)) 0 5 0 0) 0 1) (getR (setR (fun _ => (0 : Int)) 0 5 0 0) 0 2)) 1), .int .i64 ((setR (setR (fun _ => (0 : Int)) 0 5 0 0) 1 (getR (setR (fun _ => (0 : Int)) 0 5 0 0) 0 0) (getR (setR (fun _ => (0 : Int)) 0 5 0 0) 0 1) (getR (setR (fun _ => (0 : Int)) 0 5 0 0) 0 2)) 2), .int .i64 ((setR (setR (fun _ => (0 : Int)) 0 5 0 0) 1 (getR (setR (fun _ => (0 : Int)) 0 5 0 0) 0 0) (getR (setR (fun _ => (0 : Int)) 0 5 0 0) 0 1) (getR (setR (fun _ => (0 : Int)) 0 5 0 0) 0 2)) 3), .int .i64 ((setR (setR (fun _ => (0 : Int)) 0 5 0 0) 1 (getR (setR (fun _ => (0 : Int)) 0 5 0 0) 0 0) (getR (setR (fun _ => (0 : Int)) 0 5 0 0) 0 1) (getR (setR (fun _ => (0 : Int)) 0 5 0 0) 0 2)) 4), .int .i64 ((setR (setR (fun _ => (0 : Int)) 0 5 0 0) 1 (getR (setR (fun _ => (0 : Int)) 0 5 0 0) 0 0) (getR (setR (fun _ => (0 : Int)) 0 5 0 0) 0 1) (getR (setR (fun _ => (0 : Int)) 0 5 0 0) 0 2)) 5), .int .i64 ((setR (setR (fun _ => (0 : Int)) 0 5 0 0) 1 (getR (setR (fun _ => (0 : Int)) 0 5 0 0) 0 0) (getR (setR (fun _ => (0 : Int)) 0 5 0 0) 0 1) (getR (setR (fun _ => (0 : Int)) 0 5 0 0) 0 2)) 6), .int .i64 ((setR (setR (fun _ => (0 : Int)) 0 5 0 0) 1 (getR (setR (fun _ => (0 : Int)) 0 5 0 0) 0 0) (getR (setR (fun _ => (0 : Int)) 0 5 0 0) 0 1) (getR (setR (fun _ => (0 : Int)) 0 5 0 0) 0 2)) 7), .int .i64 ((setR (setR (fun _ => (0 : Int)) 0 5 0 0) 1 (getR (setR (fun _ => (0 : Int)) 0 5 0 0) 0 0) (getR (setR (fun _ => (0 : Int)) 0 5 0 0) 0 1) (getR (setR (fun _ => (0 : Int)) 0 5 0 0) 0 2)) 8), .int .i64 ((setR (setR (fun _ => (0 : Int)) 0 5 0 0) 1 (getR (setR (fun _ => (0 : Int)) 0 5 0 0) 0 0) (getR (setR (fun _ => (0 : Int)) 0 5 0 0) 0 1) (getR (setR (fun _ => (0 : Int)) 0 5 0 0) 0 2)) 9), .int .i64 ((setR (setR (fun _ => (0 : Int)) 0 5 0 0) 1 (getR (setR (fun _ => (0 : Int)) 0 5 0 0) 0 0) (getR (setR (fun _ => (0 : Int)) 0 5 0 0) 0 1) (getR (setR (fun _ => (0 : Int)) 0 5 0 0) 0 2)) 10), .int .i64 ((setR (setR (fun _ => (0 : Int)) 0 5 0 0) 1 (getR (setR (fun _ => (0 : Int)) 0 5 0 0) 0 0) (getR (setR (fun _ => (0 : Int)) 0 5 0 0) 0 1) (getR (setR (fun _ => (0 : Int)) 0 5 0 0) 0 2)) 11), .int .i64 0, .int .i64 0, .int .i64 0, r9.s, r9.b, r9.n, .int .i64 0]
def ta_l38 (r9 : Rw) : List Value := [.agg #[.int .i64 3, .int .i64 1, .int .i64 0, .int .i64 0, .int .i64 0], .tuple #[.agg (ta_c5 r9), .bool true], zz, zz, zz, zz, zz, zz, zz, zz, zz, zz, zz, zz, zz, zz]
def ta_a38 (g2 : Nat) (r5 : Rw) (r6 : Rw) (r8 : Rw) (r9 : Rw) : Act := ⟨((ta_l33 g2 r5 r6 r8) ++ ((ta_l38 r9) ++ (ta_l2))).toArray, []⟩
def ta_l40 (g2 : Nat) (r5 : Rw) (r6 : Rw) (r8 : Rw) (r9 : Rw) : List Value := [.bool false, .pointer (some ⟨g2, 0, none⟩), .bool true, zz, .agg #[.int .i64 0, .int .i64 0, .int .i64 0, .int .i64 3, .int .i64 0], .agg ta_c0, .tuple #[.agg (ta_c3 r6), .bool true], .agg ta_c0, .agg (ta_c2 r5), .agg #[.int .i64 2, .int .i64 0, .int .i64 0, .int .i64 0, .int .i64 5], .tuple #[.agg (ta_c3 r6), .bool true], .agg (ta_c3 r6), .bool true, .tuple #[.agg (ta_c5 r9), .bool true], .agg (ta_c3 r6), .agg (ta_c4 r8)]
def ta_a40 (g2 : Nat) (r5 : Rw) (r6 : Rw) (r8 : Rw) (r9 : Rw) : Act := ⟨((ta_l40 g2 r5 r6 r8 r9) ++ ((ta_l38 r9) ++ (ta_l2))).toArray, []⟩
def ta_l42 (r9 : Rw) : List Value := [.agg #[.int .i64 3, .int .i64 1, .int .i64 0, .int .i64 0, .int .i64 0], .tuple #[.agg (ta_c5 r9), .bool true], .agg (ta_c5 r9), zz, zz, zz, zz, zz, zz, zz, zz, zz, zz, zz, zz, zz]
def ta_a42 (g2 : Nat) (r5 : Rw) (r6 : Rw) (r8 : Rw) (r9 : Rw) : Act := ⟨((ta_l40 g2 r5 r6 r8 r9) ++ ((ta_l42 r9) ++ (ta_l2))).toArray, []⟩
def ta_l44 (r9 : Rw) : List Value := [.agg #[.int .i64 3, .int .i64 1, .int .i64 0, .int .i64 0, .int .i64 0], .tuple #[.agg (ta_c5 r9), .bool true], .agg (ta_c5 r9), .bool true, zz, zz, zz, zz, zz, zz, zz, zz, zz, zz, zz, zz]
def ta_a44 (g2 : Nat) (r5 : Rw) (r6 : Rw) (r8 : Rw) (r9 : Rw) : Act := ⟨((ta_l40 g2 r5 r6 r8 r9) ++ ((ta_l44 r9) ++ (ta_l2))).toArray, []⟩
def ta_l46 (g2 : Nat) (r5 : Rw) (r6 : Rw) (r8 : Rw) (r9 : Rw) : List Value := [.bool false, .pointer (some ⟨g2, 0, none⟩), .bool true, .bool true, .agg #[.int .i64 0, .int .i64 0, .int .i64 0, .int .i64 3, .int .i64 0], .agg ta_c0, .tuple #[.agg (ta_c3 r6), .bool true], .agg ta_c0, .agg (ta_c2 r5), .agg #[.int .i64 2, .int .i64 0, .int .i64 0, .int .i64 0, .int .i64 5], .tuple #[.agg (ta_c3 r6), .bool true], .agg (ta_c3 r6), .bool true, .tuple #[.agg (ta_c5 r9), .bool true], .agg (ta_c3 r6), .agg (ta_c4 r8)]
def ta_a46 (g2 : Nat) (r5 : Rw) (r6 : Rw) (r8 : Rw) (r9 : Rw) : Act := ⟨((ta_l46 g2 r5 r6 r8 r9) ++ ((ta_l44 r9) ++ (ta_l2))).toArray, []⟩
def ta_l48 (r9 : Rw) : List Value := [.agg #[.int .i64 3, .int .i64 1, .int .i64 0, .int .i64 0, .int .i64 0], .tuple #[.agg (ta_c5 r9), .bool true], .agg (ta_c5 r9), .bool true, .bool true, zz, zz, zz, zz, zz, zz, zz, zz, zz, zz, zz]
def ta_a48 (g2 : Nat) (r5 : Rw) (r6 : Rw) (r8 : Rw) (r9 : Rw) : Act := ⟨((ta_l46 g2 r5 r6 r8 r9) ++ ((ta_l48 r9) ++ (ta_l2))).toArray, []⟩
def ta_l50 (r9 : Rw) : List Value := [.agg #[.int .i64 3, .int .i64 1, .int .i64 0, .int .i64 0, .int .i64 0], .tuple #[.agg (ta_c5 r9), .bool true], .agg (ta_c5 r9), .bool true, .bool true, .bool true, zz, zz, zz, zz, zz, zz, zz, zz, zz, zz]
def ta_a50 (g2 : Nat) (r5 : Rw) (r6 : Rw) (r8 : Rw) (r9 : Rw) : Act := ⟨((ta_l46 g2 r5 r6 r8 r9) ++ ((ta_l50 r9) ++ (ta_l2))).toArray, []⟩
def ta_l52 (r9 : Rw) : List Value := [.agg #[.int .i64 3, .int .i64 1, .int .i64 0, .int .i64 0, .int .i64 0], .tuple #[.agg (ta_c5 r9), .bool true], .agg (ta_c5 r9), .bool true, .bool true, .bool true, .bool true, zz, zz, zz, zz, zz, zz, zz, zz, zz]
def ta_a52 (g2 : Nat) (r5 : Rw) (r6 : Rw) (r8 : Rw) (r9 : Rw) : Act := ⟨((ta_l46 g2 r5 r6 r8 r9) ++ ((ta_l52 r9) ++ (ta_l2))).toArray, []⟩
def ta_l54 (r9 : Rw) : List Value := [.agg #[.int .i64 3, .int .i64 1, .int .i64 0, .int .i64 0, .int .i64 0], .tuple #[.agg (ta_c5 r9), .bool true], .agg (ta_c5 r9), .bool true, .bool true, .bool true, .bool true, .bool true, zz, zz, zz, zz, zz, zz, zz, zz]
def ta_a54 (g2 : Nat) (r5 : Rw) (r6 : Rw) (r8 : Rw) (r9 : Rw) : Act := ⟨((ta_l46 g2 r5 r6 r8 r9) ++ ((ta_l54 r9) ++ (ta_l2))).toArray, []⟩
def ta_l56 (r9 : Rw) : List Value := [.agg #[.int .i64 3, .int .i64 1, .int .i64 0, .int .i64 0, .int .i64 0], .tuple #[.agg (ta_c5 r9), .bool true], .agg (ta_c5 r9), .bool true, .bool true, .bool true, .bool true, .bool true, .bool true, zz, zz, zz, zz, zz, zz, zz]
def ta_a56 (g2 : Nat) (r5 : Rw) (r6 : Rw) (r8 : Rw) (r9 : Rw) : Act := ⟨((ta_l46 g2 r5 r6 r8 r9) ++ ((ta_l56 r9) ++ (ta_l2))).toArray, []⟩
def ta_l58 (r9 : Rw) : List Value := [.agg #[.int .i64 3, .int .i64 1, .int .i64 0, .int .i64 0, .int .i64 0], .tuple #[.agg (ta_c5 r9), .bool true], .agg (ta_c5 r9), .bool true, .bool true, .bool true, .bool true, .bool true, .bool true, .agg (ta_c5 r9), zz, zz, zz, zz, zz, zz]
def ta_a58 (g2 : Nat) (r5 : Rw) (r6 : Rw) (r8 : Rw) (r9 : Rw) : Act := ⟨((ta_l46 g2 r5 r6 r8 r9) ++ ((ta_l58 r9) ++ (ta_l2))).toArray, []⟩
def ta_l60 (r9 : Rw) : List Value := [.agg #[.int .i64 3, .int .i64 1, .int .i64 0, .int .i64 0, .int .i64 0], .tuple #[.agg (ta_c5 r9), .bool true], .agg (ta_c5 r9), .bool true, .bool true, .bool true, .bool true, .bool true, .bool true, .agg (ta_c5 r9), .agg #[.int .i64 (getR (setR (setR (fun _ => (0 : Int)) 0 5 0 0) 1 (getR (setR (fun _ => (0 : Int)) 0 5 0 0) 0 0) (getR (setR (fun _ => (0 : Int)) 0 5 0 0) 0 1) (getR (setR (fun _ => (0 : Int)) 0 5 0 0) 0 2)) 1 0), .int .i64 (getR (setR (setR (fun _ => (0 : Int)) 0 5 0 0) 1 (getR (setR (fun _ => (0 : Int)) 0 5 0 0) 0 0) (getR (setR (fun _ => (0 : Int)) 0 5 0 0) 0 1) (getR (setR (fun _ => (0 : Int)) 0 5 0 0) 0 2)) 1 1), .int .i64 (getR (setR (setR (fun _ => (0 : Int)) 0 5 0 0) 1 (getR (setR (fun _ => (0 : Int)) 0 5 0 0) 0 0) (getR (setR (fun _ => (0 : Int)) 0 5 0 0) 0 1) (getR (setR (fun _ => (0 : Int)) 0 5 0 0) 0 2)) 1 2)], zz, zz, zz, zz, zz]
def ta_a60 (g2 : Nat) (r5 : Rw) (r6 : Rw) (r8 : Rw) (r9 : Rw) : Act := ⟨((ta_l46 g2 r5 r6 r8 r9) ++ ((ta_l60 r9) ++ (ta_l2))).toArray, []⟩
def ta_l62 (r9 : Rw) : List Value := [.agg #[.int .i64 3, .int .i64 1, .int .i64 0, .int .i64 0, .int .i64 0], .tuple #[.agg (ta_c5 r9), .bool true], .agg (ta_c5 r9), .bool true, .bool true, .bool true, .bool true, .bool true, .bool true, .agg (ta_c5 r9), .agg #[.int .i64 (getR (setR (setR (fun _ => (0 : Int)) 0 5 0 0) 1 (getR (setR (fun _ => (0 : Int)) 0 5 0 0) 0 0) (getR (setR (fun _ => (0 : Int)) 0 5 0 0) 0 1) (getR (setR (fun _ => (0 : Int)) 0 5 0 0) 0 2)) 1 0), .int .i64 (getR (setR (setR (fun _ => (0 : Int)) 0 5 0 0) 1 (getR (setR (fun _ => (0 : Int)) 0 5 0 0) 0 0) (getR (setR (fun _ => (0 : Int)) 0 5 0 0) 0 1) (getR (setR (fun _ => (0 : Int)) 0 5 0 0) 0 2)) 1 1), .int .i64 (getR (setR (setR (fun _ => (0 : Int)) 0 5 0 0) 1 (getR (setR (fun _ => (0 : Int)) 0 5 0 0) 0 0) (getR (setR (fun _ => (0 : Int)) 0 5 0 0) 0 1) (getR (setR (fun _ => (0 : Int)) 0 5 0 0) 0 2)) 1 2)], .int .i64 (getR (setR (setR (fun _ => (0 : Int)) 0 5 0 0) 1 (getR (setR (fun _ => (0 : Int)) 0 5 0 0) 0 0) (getR (setR (fun _ => (0 : Int)) 0 5 0 0) 0 1) (getR (setR (fun _ => (0 : Int)) 0 5 0 0) 0 2)) 1 0), zz, zz, zz, zz]
def ta_a62 (g2 : Nat) (r5 : Rw) (r6 : Rw) (r8 : Rw) (r9 : Rw) : Act := ⟨((ta_l46 g2 r5 r6 r8 r9) ++ ((ta_l62 r9) ++ (ta_l2))).toArray, []⟩
def ta_l64 (r9 : Rw) : List Value := [.agg #[.int .i64 3, .int .i64 1, .int .i64 0, .int .i64 0, .int .i64 0], .tuple #[.agg (ta_c5 r9), .bool true], .agg (ta_c5 r9), .bool true, .bool true, .bool true, .bool true, .bool true, .bool true, .agg (ta_c5 r9), .agg #[.int .i64 (getR (setR (setR (fun _ => (0 : Int)) 0 5 0 0) 1 (getR (setR (fun _ => (0 : Int)) 0 5 0 0) 0 0) (getR (setR (fun _ => (0 : Int)) 0 5 0 0) 0 1) (getR (setR (fun _ => (0 : Int)) 0 5 0 0) 0 2)) 1 0), .int .i64 (getR (setR (setR (fun _ => (0 : Int)) 0 5 0 0) 1 (getR (setR (fun _ => (0 : Int)) 0 5 0 0) 0 0) (getR (setR (fun _ => (0 : Int)) 0 5 0 0) 0 1) (getR (setR (fun _ => (0 : Int)) 0 5 0 0) 0 2)) 1 1), .int .i64 (getR (setR (setR (fun _ => (0 : Int)) 0 5 0 0) 1 (getR (setR (fun _ => (0 : Int)) 0 5 0 0) 0 0) (getR (setR (fun _ => (0 : Int)) 0 5 0 0) 0 1) (getR (setR (fun _ => (0 : Int)) 0 5 0 0) 0 2)) 1 2)], .int .i64 (getR (setR (setR (fun _ => (0 : Int)) 0 5 0 0) 1 (getR (setR (fun _ => (0 : Int)) 0 5 0 0) 0 0) (getR (setR (fun _ => (0 : Int)) 0 5 0 0) 0 1) (getR (setR (fun _ => (0 : Int)) 0 5 0 0) 0 2)) 1 0), .bool true, zz, zz, zz]
def ta_a64 (g2 : Nat) (r5 : Rw) (r6 : Rw) (r8 : Rw) (r9 : Rw) : Act := ⟨((ta_l46 g2 r5 r6 r8 r9) ++ ((ta_l64 r9) ++ (ta_l2))).toArray, []⟩
def ta_l66 (r9 : Rw) : List Value := [.agg #[.int .i64 3, .int .i64 1, .int .i64 0, .int .i64 0, .int .i64 0], .tuple #[.agg (ta_c5 r9), .bool true], .agg (ta_c5 r9), .bool true, .bool true, .bool true, .bool true, .bool true, .bool true, .agg (ta_c5 r9), .agg #[.int .i64 (getR (setR (setR (fun _ => (0 : Int)) 0 5 0 0) 1 (getR (setR (fun _ => (0 : Int)) 0 5 0 0) 0 0) (getR (setR (fun _ => (0 : Int)) 0 5 0 0) 0 1) (getR (setR (fun _ => (0 : Int)) 0 5 0 0) 0 2)) 1 0), .int .i64 (getR (setR (setR (fun _ => (0 : Int)) 0 5 0 0) 1 (getR (setR (fun _ => (0 : Int)) 0 5 0 0) 0 0) (getR (setR (fun _ => (0 : Int)) 0 5 0 0) 0 1) (getR (setR (fun _ => (0 : Int)) 0 5 0 0) 0 2)) 1 1), .int .i64 (getR (setR (setR (fun _ => (0 : Int)) 0 5 0 0) 1 (getR (setR (fun _ => (0 : Int)) 0 5 0 0) 0 0) (getR (setR (fun _ => (0 : Int)) 0 5 0 0) 0 1) (getR (setR (fun _ => (0 : Int)) 0 5 0 0) 0 2)) 1 2)], .int .i64 (getR (setR (setR (fun _ => (0 : Int)) 0 5 0 0) 1 (getR (setR (fun _ => (0 : Int)) 0 5 0 0) 0 0) (getR (setR (fun _ => (0 : Int)) 0 5 0 0) 0 1) (getR (setR (fun _ => (0 : Int)) 0 5 0 0) 0 2)) 1 0), .bool true, .bool true, zz, zz]
def ta_a66 (g2 : Nat) (r5 : Rw) (r6 : Rw) (r8 : Rw) (r9 : Rw) : Act := ⟨((ta_l46 g2 r5 r6 r8 r9) ++ ((ta_l66 r9) ++ (ta_l2))).toArray, []⟩
def ta_l68 (r9 : Rw) : List Value := [.agg #[.int .i64 3, .int .i64 1, .int .i64 0, .int .i64 0, .int .i64 0], .tuple #[.agg (ta_c5 r9), .bool true], .agg (ta_c5 r9), .bool true, .bool true, .bool true, .bool true, .bool true, .bool true, .agg (ta_c5 r9), .agg #[.int .i64 (getR (setR (setR (fun _ => (0 : Int)) 0 5 0 0) 1 (getR (setR (fun _ => (0 : Int)) 0 5 0 0) 0 0) (getR (setR (fun _ => (0 : Int)) 0 5 0 0) 0 1) (getR (setR (fun _ => (0 : Int)) 0 5 0 0) 0 2)) 1 0), .int .i64 (getR (setR (setR (fun _ => (0 : Int)) 0 5 0 0) 1 (getR (setR (fun _ => (0 : Int)) 0 5 0 0) 0 0) (getR (setR (fun _ => (0 : Int)) 0 5 0 0) 0 1) (getR (setR (fun _ => (0 : Int)) 0 5 0 0) 0 2)) 1 1), .int .i64 (getR (setR (setR (fun _ => (0 : Int)) 0 5 0 0) 1 (getR (setR (fun _ => (0 : Int)) 0 5 0 0) 0 0) (getR (setR (fun _ => (0 : Int)) 0 5 0 0) 0 1) (getR (setR (fun _ => (0 : Int)) 0 5 0 0) 0 2)) 1 2)], .int .i64 (getR (setR (setR (fun _ => (0 : Int)) 0 5 0 0) 1 (getR (setR (fun _ => (0 : Int)) 0 5 0 0) 0 0) (getR (setR (fun _ => (0 : Int)) 0 5 0 0) 0 1) (getR (setR (fun _ => (0 : Int)) 0 5 0 0) 0 2)) 1 0), .bool true, .bool true, .bool true, zz]
def ta_a68 (g2 : Nat) (r5 : Rw) (r6 : Rw) (r8 : Rw) (r9 : Rw) : Act := ⟨((ta_l46 g2 r5 r6 r8 r9) ++ ((ta_l68 r9) ++ (ta_l2))).toArray, []⟩
def ta_l70 (g2 : Nat) (r9 : Rw) : List Value := [.agg #[.int .i64 3, .int .i64 1, .int .i64 0, .int .i64 0, .int .i64 0], .tuple #[.agg (ta_c5 r9), .bool true], .agg (ta_c5 r9), .bool true, .bool true, .bool true, .bool true, .bool true, .bool true, .agg (ta_c5 r9), .agg #[.int .i64 (getR (setR (setR (fun _ => (0 : Int)) 0 5 0 0) 1 (getR (setR (fun _ => (0 : Int)) 0 5 0 0) 0 0) (getR (setR (fun _ => (0 : Int)) 0 5 0 0) 0 1) (getR (setR (fun _ => (0 : Int)) 0 5 0 0) 0 2)) 1 0), .int .i64 (getR (setR (setR (fun _ => (0 : Int)) 0 5 0 0) 1 (getR (setR (fun _ => (0 : Int)) 0 5 0 0) 0 0) (getR (setR (fun _ => (0 : Int)) 0 5 0 0) 0 1) (getR (setR (fun _ => (0 : Int)) 0 5 0 0) 0 2)) 1 1), .int .i64 (getR (setR (setR (fun _ => (0 : Int)) 0 5 0 0) 1 (getR (setR (fun _ => (0 : Int)) 0 5 0 0) 0 0) (getR (setR (fun _ => (0 : Int)) 0 5 0 0) 0 1) (getR (setR (fun _ => (0 : Int)) 0 5 0 0) 0 2)) 1 2)], .int .i64 (getR (setR (setR (fun _ => (0 : Int)) 0 5 0 0) 1 (getR (setR (fun _ => (0 : Int)) 0 5 0 0) 0 0) (getR (setR (fun _ => (0 : Int)) 0 5 0 0) 0 1) (getR (setR (fun _ => (0 : Int)) 0 5 0 0) 0 2)) 1 0), .bool true, .bool true, .bool true, .pointer (some ⟨g2, 1, none⟩)]
def ta_a70 (g2 : Nat) (r5 : Rw) (r6 : Rw) (r8 : Rw) (r9 : Rw) : Act := ⟨((ta_l46 g2 r5 r6 r8 r9) ++ ((ta_l70 g2 r9) ++ (ta_l2))).toArray, []⟩
def ta_l72 : List Value := [.int .i64 (IntKind.wrap .i64 ((IntKind.wrap .i64 ((clampF 3) - 1)) - 1)), zz, zz, zz, zz, zz, zz, zz, zz, zz, zz, zz]
def ta_a72 (g2 : Nat) (r5 : Rw) (r6 : Rw) (r8 : Rw) (r9 : Rw) : Act := ⟨((ta_l46 g2 r5 r6 r8 r9) ++ ((ta_l70 g2 r9) ++ (ta_l72))).toArray, []⟩
def ta_l74 : List Value := [.int .i64 (IntKind.wrap .i64 ((IntKind.wrap .i64 ((clampF 3) - 1)) - 1)), .bool true, zz, zz, zz, zz, zz, zz, zz, zz, zz, zz]
def ta_a74 (g2 : Nat) (r5 : Rw) (r6 : Rw) (r8 : Rw) (r9 : Rw) : Act := ⟨((ta_l46 g2 r5 r6 r8 r9) ++ ((ta_l70 g2 r9) ++ (ta_l74))).toArray, []⟩
def ta_l76 : List Value := [.int .i64 (IntKind.wrap .i64 ((IntKind.wrap .i64 ((clampF 3) - 1)) - 1)), .bool true, .bool true, zz, zz, zz, zz, zz, zz, zz, zz, zz]
def ta_a76 (g2 : Nat) (r5 : Rw) (r6 : Rw) (r8 : Rw) (r9 : Rw) : Act := ⟨((ta_l46 g2 r5 r6 r8 r9) ++ ((ta_l70 g2 r9) ++ (ta_l76))).toArray, []⟩
def ta_l78 : List Value := [.int .i64 (IntKind.wrap .i64 ((IntKind.wrap .i64 ((clampF 3) - 1)) - 1)), .bool true, .bool true, .bool true, zz, zz, zz, zz, zz, zz, zz, zz]
def ta_a78 (g2 : Nat) (r5 : Rw) (r6 : Rw) (r8 : Rw) (r9 : Rw) : Act := ⟨((ta_l46 g2 r5 r6 r8 r9) ++ ((ta_l70 g2 r9) ++ (ta_l78))).toArray, []⟩
def ta_l80 (g2 : Nat) : List Value := [.int .i64 (IntKind.wrap .i64 ((IntKind.wrap .i64 ((clampF 3) - 1)) - 1)), .bool true, .bool true, .bool true, .pointer (some ⟨g2, 0, none⟩), zz, zz, zz, zz, zz, zz, zz]
def ta_a80 (g2 : Nat) (r5 : Rw) (r6 : Rw) (r8 : Rw) (r9 : Rw) : Act := ⟨((ta_l46 g2 r5 r6 r8 r9) ++ ((ta_l70 g2 r9) ++ ((ta_l80 g2)))).toArray, []⟩
def ta_l82 (g2 : Nat) : List Value := [.int .i64 (IntKind.wrap .i64 ((IntKind.wrap .i64 ((clampF 3) - 1)) - 1)), .bool true, .bool true, .bool true, .pointer (some ⟨g2, 0, none⟩), .int .i64 (IntKind.wrap .i64 ((IntKind.wrap .i64 (0 + 1)) + 1)), zz, zz, zz, zz, zz, zz]
def ta_a82 (g2 : Nat) (r5 : Rw) (r6 : Rw) (r8 : Rw) (r9 : Rw) : Act := ⟨((ta_l46 g2 r5 r6 r8 r9) ++ ((ta_l70 g2 r9) ++ ((ta_l82 g2)))).toArray, []⟩
def ta_l84 (g2 : Nat) : List Value := [.int .i64 (IntKind.wrap .i64 ((IntKind.wrap .i64 ((clampF 3) - 1)) - 1)), .bool true, .bool true, .bool true, .pointer (some ⟨g2, 0, none⟩), .int .i64 (IntKind.wrap .i64 ((IntKind.wrap .i64 (0 + 1)) + 1)), .bool true, zz, zz, zz, zz, zz]
def ta_a84 (g2 : Nat) (r5 : Rw) (r6 : Rw) (r8 : Rw) (r9 : Rw) : Act := ⟨((ta_l46 g2 r5 r6 r8 r9) ++ ((ta_l70 g2 r9) ++ ((ta_l84 g2)))).toArray, []⟩
def ta_l86 (g2 : Nat) : List Value := [.int .i64 (IntKind.wrap .i64 ((IntKind.wrap .i64 ((clampF 3) - 1)) - 1)), .bool true, .bool true, .bool true, .pointer (some ⟨g2, 0, none⟩), .int .i64 (IntKind.wrap .i64 ((IntKind.wrap .i64 (0 + 1)) + 1)), .bool true, .bool true, zz, zz, zz, zz]
def ta_a86 (g2 : Nat) (r5 : Rw) (r6 : Rw) (r8 : Rw) (r9 : Rw) : Act := ⟨((ta_l46 g2 r5 r6 r8 r9) ++ ((ta_l70 g2 r9) ++ ((ta_l86 g2)))).toArray, []⟩
def ta_l88 (g2 : Nat) : List Value := [.int .i64 (IntKind.wrap .i64 ((IntKind.wrap .i64 ((clampF 3) - 1)) - 1)), .bool true, .bool true, .bool true, .pointer (some ⟨g2, 0, none⟩), .int .i64 (IntKind.wrap .i64 ((IntKind.wrap .i64 (0 + 1)) + 1)), .bool true, .bool true, .bool true, zz, zz, zz]
def ta_a88 (g2 : Nat) (r5 : Rw) (r6 : Rw) (r8 : Rw) (r9 : Rw) : Act := ⟨((ta_l46 g2 r5 r6 r8 r9) ++ ((ta_l70 g2 r9) ++ ((ta_l88 g2)))).toArray, []⟩
def ta_l90 (g2 : Nat) (r9 : Rw) : List Value := [.int .i64 (IntKind.wrap .i64 ((IntKind.wrap .i64 ((clampF 3) - 1)) - 1)), .bool true, .bool true, .bool true, .pointer (some ⟨g2, 0, none⟩), .int .i64 (IntKind.wrap .i64 ((IntKind.wrap .i64 (0 + 1)) + 1)), .bool true, .bool true, .bool true, .agg (ta_c5 r9), zz, zz]
def ta_a90 (g2 : Nat) (r5 : Rw) (r6 : Rw) (r8 : Rw) (r9 : Rw) : Act := ⟨((ta_l46 g2 r5 r6 r8 r9) ++ ((ta_l70 g2 r9) ++ ((ta_l90 g2 r9)))).toArray, []⟩
def ta_l92 (g2 : Nat) (r9 : Rw) : List Value := [.int .i64 (IntKind.wrap .i64 ((IntKind.wrap .i64 ((clampF 3) - 1)) - 1)), .bool true, .bool true, .bool true, .pointer (some ⟨g2, 0, none⟩), .int .i64 (IntKind.wrap .i64 ((IntKind.wrap .i64 (0 + 1)) + 1)), .bool true, .bool true, .bool true, .agg (ta_c5 r9), .bool true, zz]
def ta_a92 (g2 : Nat) (r5 : Rw) (r6 : Rw) (r8 : Rw) (r9 : Rw) : Act := ⟨((ta_l46 g2 r5 r6 r8 r9) ++ ((ta_l70 g2 r9) ++ ((ta_l92 g2 r9)))).toArray, []⟩
def ta_l94 (g2 : Nat) (r9 : Rw) : List Value := [.int .i64 (IntKind.wrap .i64 ((IntKind.wrap .i64 ((clampF 3) - 1)) - 1)), .bool true, .bool true, .bool true, .pointer (some ⟨g2, 0, none⟩), .int .i64 (IntKind.wrap .i64 ((IntKind.wrap .i64 (0 + 1)) + 1)), .bool true, .bool true, .bool true, .agg (ta_c5 r9), .bool true, .bool true]
def ta_a94 (g2 : Nat) (r5 : Rw) (r6 : Rw) (r8 : Rw) (r9 : Rw) : Act := ⟨((ta_l46 g2 r5 r6 r8 r9) ++ ((ta_l70 g2 r9) ++ ((ta_l94 g2 r9)))).toArray, []⟩
def ta_l96 (g2 : Nat) (r5 : Rw) (r6 : Rw) (r8 : Rw) (r9 : Rw) : List Value := [.bool true, .pointer (some ⟨g2, 0, none⟩), .bool true, .bool true, .agg #[.int .i64 0, .int .i64 0, .int .i64 0, .int .i64 3, .int .i64 0], .agg ta_c0, .tuple #[.agg (ta_c3 r6), .bool true], .agg ta_c0, .agg (ta_c2 r5), .agg #[.int .i64 2, .int .i64 0, .int .i64 0, .int .i64 0, .int .i64 5], .tuple #[.agg (ta_c3 r6), .bool true], .agg (ta_c3 r6), .bool true, .tuple #[.agg (ta_c5 r9), .bool true], .agg (ta_c3 r6), .agg (ta_c4 r8)]
def ta_a96 (g2 : Nat) (r5 : Rw) (r6 : Rw) (r8 : Rw) (r9 : Rw) : Act := ⟨((ta_l96 g2 r5 r6 r8 r9) ++ ((ta_l70 g2 r9) ++ ((ta_l94 g2 r9)))).toArray, []⟩
set_option maxHeartbeats 8000000 in
set_option maxRecDepth 100000 in
theorem th_alive (w : World) : Calls Try.prog 9 #[] w fun e w' => e = .returned (.bool true) ∧ Below w.heap.size w w' := by
  refine calls_of_wp Try.func9 rfl ?_
  have hW := Ws.nil w
  refine wp_seq ?_
  refine wp_region_list ?_
  refine sk (a' := ta_a0) (.bool false) ?_
  refine wpList_nil ?_
  refine wp_seq ?_
  refine wp_region_list ?_
  refine sk (a' := ta_a4) (.agg #[.int .i64 0, .int .i64 0, .int .i64 0, .int .i64 3, .int .i64 0]) ?_
  refine st_call (th_Begin 0 0 0 3 0 w) (by kernel_rfl) (by kernel_rfl) ?_
  rintro _ W1 ⟨rfl, hB⟩
  have hW := hW.step hB
  refine ⟨_, ta_a7, rfl, by kernel_rfl, ?_⟩
  obtain ⟨g2, W3, hr, hW, hbb, hge⟩ := hW.mk1 (P := Try.prog) (s := Instr.alloc 32 true (.tuple #[])) ta_c1 32 (by kernel_rfl)
  refine se (a' := (ta_a10 g2)) (.pointer (some ⟨g2, 0, none⟩)) (Eq.trans (b := (do pure (Next.value (← Instr.alloc 32 true (.tuple #[]))) : Sem Next).run Try.prog W1) (by kernel_rfl) (st_val hr)) ?_
  obtain ⟨W4, hr, hW, hF⟩ := hW.storeN (P := Try.prog) (o := 0) (cs' := ta_c0) (L' := [(g2, 32, ta_c0)]) 0 rfl ta_c0 (by kernel_rfl) (Nat.le_of_ble_eq_true rfl) (by kernel_rfl) rfl 32 (by kernel_rfl)
  refine st_none (w' := W4) (a' := (ta_a10 g2)) (by kernel_rfl) (Eq.trans (b := (do Instr.storeAt 32 (.pointer (some ⟨g2, 0, none⟩)) (.agg ta_c0); pure Next.skip : Sem Next).run Try.prog W3) (by kernel_rfl) (st_unit hr)) (by kernel_rfl) ?_
  refine wpList_nil ?_
  refine wp_seq ?_
  refine wp_region_list ?_
  refine se (a' := (ta_a12 g2)) (.agg ta_c0) (evA hW 0 0 Try.underlying32) ?_
  have hK5_g2 : g2 < W4.heap.size := blk_lt (hW.blk 0 _ _ _ rfl).1
  have hK5_le : w.heap.size ≤ W4.heap.size := hW.below.size
  refine st_call (th_Start (t := (⟨0, (clampF 3), 0, (fun _ => (0 : Int)), 0, 0, 0, (.slice none 0 0), (.slice none 0 0), (.slice none 0 0), 0⟩ : Th)) (xs := ([] : List Int)) (bs := ([] : List S42)) (ns := ([] : List Int)) ⟨Sl.nil _ _, Sl.nil _ _, Sl.nil _ _⟩ (by simp)) (by kernel_rfl) (by kernel_rfl) ?_
  rintro _ W5 ⟨As5, cs5, Ab5, cb5, An5, cn5, rfl, hO5, hB⟩
  have hW := hW.step hB
  have hK5 := KeepUp.refl W4.heap.size W5
  obtain ⟨r5, e5⟩ : ∃ r : Rw, r = ⟨.slice As5 (([] : List Int).length) cs5, .slice Ab5 (([] : List S42).length) cb5, .slice An5 (([] : List Int).length) cn5⟩ := ⟨_, rfl⟩
  refine ⟨_, (ta_a15 g2 r5), rfl, by (try subst e5); kernel_rfl, ?_⟩
  refine sk (a' := (ta_a17 g2 r5)) (.agg #[.int .i64 2, .int .i64 0, .int .i64 0, .int .i64 0, .int .i64 5]) ?_
  have hK6_g2 : g2 < W5.heap.size := blk_lt (hW.blk 0 _ _ _ rfl).1
  have hK6_le : w.heap.size ≤ W5.heap.size := hW.below.size
  refine st_call (th_Local23 (t := (⟨(IntKind.wrap .i64 (0 + 1)), (IntKind.wrap .i64 ((clampF 3) - 1)), 0, (fun _ => (0 : Int)), 0, 0, 0, r5.s, r5.b, r5.n, 0⟩ : Th)) (xs := ([] : List Int)) (bs := ([] : List S42)) (ns := ([] : List Int)) (by subst e5; exact ⟨(hO5.keep hK5).reads.s, (hO5.keep hK5).reads.b, (hO5.keep hK5).reads.n⟩) (by simp) 2 0 0 0 5 (by decide)) (by kernel_rfl) (by kernel_rfl) ?_
  rintro _ W6 ⟨As6, cs6, Ab6, cb6, An6, cn6, rfl, hO6, hB⟩
  have hW := hW.step hB
  have hK5 := hK5.below hB
  have hK6 := KeepUp.refl W5.heap.size W6
  obtain ⟨r6, e6⟩ : ∃ r : Rw, r = ⟨.slice As6 (([] : List Int).length) cs6, .slice Ab6 (([] : List S42).length) cb6, .slice An6 (([] : List Int).length) cn6⟩ := ⟨_, rfl⟩
  refine ⟨_, (ta_a20 g2 r5 r6), rfl, by (try subst e5); (try subst e6); kernel_rfl, ?_⟩
  refine sk (a' := (ta_a22 g2 r5 r6)) (.tuple #[.agg (ta_c3 r6), .bool true]) ?_
  refine sk (a' := (ta_a24 g2 r5 r6)) (.agg (ta_c3 r6)) ?_
  refine sk (a' := (ta_a26 g2 r5 r6)) (.bool true) ?_
  obtain ⟨W7, hr, hW, hF⟩ := hW.storeN (P := Try.prog) (o := 0) (cs' := (ta_c3 r6)) (L' := [(g2, 32, (ta_c3 r6))]) 0 rfl (ta_c3 r6) (by (try subst e5); (try subst e6); kernel_rfl) (Nat.le_of_ble_eq_true rfl) (by kernel_rfl) rfl 32 (by kernel_rfl)
  have hK5 := hK5.store hF (.inl hK5_g2)
  have hK6 := hK6.store hF (.inl hK6_g2)
  refine st_none (w' := W7) (a' := (ta_a26 g2 r5 r6)) (by kernel_rfl) (Eq.trans (b := (do Instr.storeAt 32 (.pointer (some ⟨g2, 0, none⟩)) (.agg (ta_c3 r6)); pure Next.skip : Sem Next).run Try.prog W6) (by kernel_rfl) (st_unit hr)) (by kernel_rfl) ?_
  refine sk (a' := (ta_a28 g2 r5 r6)) (.bool true) ?_
  refine wpList_nil ?_
  refine wp_seq ?_
  refine wp_region_list ?_
  refine se (a' := (ta_a30 g2 r5 r6)) (.agg (ta_c3 r6)) (evA hW 0 0 Try.underlying32) ?_
  have hK8_g2 : g2 < W7.heap.size := blk_lt (hW.blk 0 _ _ _ rfl).1
  have hK8_le : w.heap.size ≤ W7.heap.size := hW.below.size
  refine st_call (th_Start (t := (⟨(IntKind.wrap .i64 (0 + 1)), (IntKind.wrap .i64 ((clampF 3) - 1)), 0, (setR (fun _ => (0 : Int)) 0 5 0 0), 0, 0, 0, r6.s, r6.b, r6.n, 0⟩ : Th)) (xs := ([] : List Int)) (bs := ([] : List S42)) (ns := ([] : List Int)) (by subst e6; exact ⟨(hO6.keep hK6).reads.s, (hO6.keep hK6).reads.b, (hO6.keep hK6).reads.n⟩) (by simp)) (by kernel_rfl) (by kernel_rfl) ?_
  rintro _ W8 ⟨As8, cs8, Ab8, cb8, An8, cn8, rfl, hO8, hB⟩
  have hW := hW.step hB
  have hK5 := hK5.below hB
  have hK6 := hK6.below hB
  have hK8 := KeepUp.refl W7.heap.size W8
  obtain ⟨r8, e8⟩ : ∃ r : Rw, r = ⟨.slice As8 (([] : List Int).length) cs8, .slice Ab8 (([] : List S42).length) cb8, .slice An8 (([] : List Int).length) cn8⟩ := ⟨_, rfl⟩
  refine ⟨_, (ta_a33 g2 r5 r6 r8), rfl, by (try subst e5); (try subst e6); (try subst e8); kernel_rfl, ?_⟩
  refine sk (a' := (ta_a35 g2 r5 r6 r8)) (.agg #[.int .i64 3, .int .i64 1, .int .i64 0, .int .i64 0, .int .i64 0]) ?_
  have hK9_g2 : g2 < W8.heap.size := blk_lt (hW.blk 0 _ _ _ rfl).1
  have hK9_le : w.heap.size ≤ W8.heap.size := hW.below.size
  refine st_call (th_Local23 (t := (⟨(IntKind.wrap .i64 ((IntKind.wrap .i64 (0 + 1)) + 1)), (IntKind.wrap .i64 ((IntKind.wrap .i64 ((clampF 3) - 1)) - 1)), 0, (setR (fun _ => (0 : Int)) 0 5 0 0), 0, 0, 0, r8.s, r8.b, r8.n, 0⟩ : Th)) (xs := ([] : List Int)) (bs := ([] : List S42)) (ns := ([] : List Int)) (by subst e8; exact ⟨(hO8.keep hK8).reads.s, (hO8.keep hK8).reads.b, (hO8.keep hK8).reads.n⟩) (by simp) 3 1 0 0 0 (by decide)) (by kernel_rfl) (by kernel_rfl) ?_
  rintro _ W9 ⟨As9, cs9, Ab9, cb9, An9, cn9, rfl, hO9, hB⟩
  have hW := hW.step hB
  have hK5 := hK5.below hB
  have hK6 := hK6.below hB
  have hK8 := hK8.below hB
  have hK9 := KeepUp.refl W8.heap.size W9
  obtain ⟨r9, e9⟩ : ∃ r : Rw, r = ⟨.slice As9 (([] : List Int).length) cs9, .slice Ab9 (([] : List S42).length) cb9, .slice An9 (([] : List Int).length) cn9⟩ := ⟨_, rfl⟩
  refine ⟨_, (ta_a38 g2 r5 r6 r8 r9), rfl, by (try subst e5); (try subst e6); (try subst e8); (try subst e9); kernel_rfl, ?_⟩
  refine sk (a' := (ta_a40 g2 r5 r6 r8 r9)) (.tuple #[.agg (ta_c5 r9), .bool true]) ?_
  refine sk (a' := (ta_a42 g2 r5 r6 r8 r9)) (.agg (ta_c5 r9)) ?_
  refine sk (a' := (ta_a44 g2 r5 r6 r8 r9)) (.bool true) ?_
  obtain ⟨W10, hr, hW, hF⟩ := hW.storeN (P := Try.prog) (o := 0) (cs' := (ta_c5 r9)) (L' := [(g2, 32, (ta_c5 r9))]) 0 rfl (ta_c5 r9) (by (try subst e5); (try subst e6); (try subst e8); (try subst e9); kernel_rfl) (Nat.le_of_ble_eq_true rfl) (by kernel_rfl) rfl 32 (by kernel_rfl)
  have hK5 := hK5.store hF (.inl hK5_g2)
  have hK6 := hK6.store hF (.inl hK6_g2)
  have hK8 := hK8.store hF (.inl hK8_g2)
  have hK9 := hK9.store hF (.inl hK9_g2)
  refine st_none (w' := W10) (a' := (ta_a44 g2 r5 r6 r8 r9)) (by kernel_rfl) (Eq.trans (b := (do Instr.storeAt 32 (.pointer (some ⟨g2, 0, none⟩)) (.agg (ta_c5 r9)); pure Next.skip : Sem Next).run Try.prog W9) (by kernel_rfl) (st_unit hr)) (by kernel_rfl) ?_
  refine sk (a' := (ta_a46 g2 r5 r6 r8 r9)) (.bool true) ?_
  refine wpList_nil ?_
  refine wp_seq ?_
  refine wp_region_list ?_
  refine sk (a' := (ta_a48 g2 r5 r6 r8 r9)) (.bool true) ?_
  refine sk (a' := (ta_a50 g2 r5 r6 r8 r9)) (.bool true) ?_
  refine sk (a' := (ta_a52 g2 r5 r6 r8 r9)) (.bool true) ?_
  refine sk (a' := (ta_a54 g2 r5 r6 r8 r9)) (.bool true) ?_
  refine sk (a' := (ta_a56 g2 r5 r6 r8 r9)) (.bool true) ?_
  refine se (a' := (ta_a58 g2 r5 r6 r8 r9)) (.agg (ta_c5 r9)) (evA hW 0 0 Try.underlying32) ?_
  refine st_call (th_Get (⟨(IntKind.wrap .i64 ((IntKind.wrap .i64 (0 + 1)) + 1)), (IntKind.wrap .i64 ((IntKind.wrap .i64 ((clampF 3) - 1)) - 1)), 0, (setR (setR (fun _ => (0 : Int)) 0 5 0 0) 1 (getR (setR (fun _ => (0 : Int)) 0 5 0 0) 0 0) (getR (setR (fun _ => (0 : Int)) 0 5 0 0) 0 1) (getR (setR (fun _ => (0 : Int)) 0 5 0 0) 0 2)), 0, 0, 0, r9.s, r9.b, r9.n, 0⟩ : Th) 1 W10) (by kernel_rfl) (by kernel_rfl) ?_
  rintro _ W11 ⟨rfl, hB⟩
  have hW := hW.step hB
  have hK5 := hK5.below hB
  have hK6 := hK6.below hB
  have hK8 := hK8.below hB
  have hK9 := hK9.below hB
  refine ⟨_, (ta_a60 g2 r5 r6 r8 r9), rfl, by (try subst e5); (try subst e6); (try subst e8); (try subst e9); kernel_rfl, ?_⟩
  refine sk (a' := (ta_a62 g2 r5 r6 r8 r9)) (.int .i64 (getR (setR (setR (fun _ => (0 : Int)) 0 5 0 0) 1 (getR (setR (fun _ => (0 : Int)) 0 5 0 0) 0 0) (getR (setR (fun _ => (0 : Int)) 0 5 0 0) 0 1) (getR (setR (fun _ => (0 : Int)) 0 5 0 0) 0 2)) 1 0)) ?_
  refine sk (a' := (ta_a64 g2 r5 r6 r8 r9)) (.bool true) ?_
  refine sk (a' := (ta_a66 g2 r5 r6 r8 r9)) (.bool true) ?_
  refine sk (a' := (ta_a68 g2 r5 r6 r8 r9)) (.bool true) ?_
  refine sk (a' := (ta_a70 g2 r5 r6 r8 r9)) (.pointer (some ⟨g2, 1, none⟩)) ?_
  refine se (a' := (ta_a72 g2 r5 r6 r8 r9)) (.int .i64 (IntKind.wrap .i64 ((IntKind.wrap .i64 ((clampF 3) - 1)) - 1))) (ev1 hW 0 1 Try.underlying3) ?_
  refine sk (a' := (ta_a74 g2 r5 r6 r8 r9)) (.bool true) ?_
  refine sk (a' := (ta_a76 g2 r5 r6 r8 r9)) (.bool true) ?_
  refine sk (a' := (ta_a78 g2 r5 r6 r8 r9)) (.bool true) ?_
  refine sk (a' := (ta_a80 g2 r5 r6 r8 r9)) (.pointer (some ⟨g2, 0, none⟩)) ?_
  refine se (a' := (ta_a82 g2 r5 r6 r8 r9)) (.int .i64 (IntKind.wrap .i64 ((IntKind.wrap .i64 (0 + 1)) + 1))) (ev1 hW 0 0 Try.underlying3) ?_
  refine sk (a' := (ta_a84 g2 r5 r6 r8 r9)) (.bool true) ?_
  refine sk (a' := (ta_a86 g2 r5 r6 r8 r9)) (.bool true) ?_
  refine sk (a' := (ta_a88 g2 r5 r6 r8 r9)) (.bool true) ?_
  refine se (a' := (ta_a90 g2 r5 r6 r8 r9)) (.agg (ta_c5 r9)) (evA hW 0 0 Try.underlying32) ?_
  refine st_call (th_Done (⟨(IntKind.wrap .i64 ((IntKind.wrap .i64 (0 + 1)) + 1)), (IntKind.wrap .i64 ((IntKind.wrap .i64 ((clampF 3) - 1)) - 1)), 0, (setR (setR (fun _ => (0 : Int)) 0 5 0 0) 1 (getR (setR (fun _ => (0 : Int)) 0 5 0 0) 0 0) (getR (setR (fun _ => (0 : Int)) 0 5 0 0) 0 1) (getR (setR (fun _ => (0 : Int)) 0 5 0 0) 0 2)), 0, 0, 0, r9.s, r9.b, r9.n, 0⟩ : Th) none 0 0 (by decide) W11) (by kernel_rfl) (by kernel_rfl) ?_
  rintro _ W12 ⟨rfl, hB⟩
  have hW := hW.step hB
  have hK5 := hK5.below hB
  have hK6 := hK6.below hB
  have hK8 := hK8.below hB
  have hK9 := hK9.below hB
  refine ⟨_, (ta_a92 g2 r5 r6 r8 r9), rfl, by (try subst e5); (try subst e6); (try subst e8); (try subst e9); kernel_rfl, ?_⟩
  refine sk (a' := (ta_a94 g2 r5 r6 r8 r9)) (.bool true) ?_
  refine sk (a' := (ta_a96 g2 r5 r6 r8 r9)) (.bool true) ?_
  refine wpList_nil ?_
  refine wp_ret ?_
  (try simp only [Exit.then, Exit.inBlock])
  change bodyPost Try.prog Try.f9 _ .ret _ _
  refine bodyPost_ret (results_tmp rfl _ _ _) rfl ?_
  exact ⟨rfl, hW.below⟩
end Go.Proofs.Ythcmcekjgecnhaa.Th
