/- The walk of the law TableNobody. No condition beside those that each theorem names. -/
import Derived.Test.YtkkbhllljafdfaaTbB
namespace Go.Proofs.Ytkkbhllljafdfaa.Sr
open Go.RowKit Go.Proofs.YtkkbhllljafdfaaM.Mach
set_option linter.unusedVariables false
set_option linter.unusedSimpArgs false
def nb_l0 (h0 : Int) (s0 : ByteArray) (i0 : Int) : List Value := [.int .u64 h0, .string s0, .int .i64 i0, zz, zz, zz, .bool false, zz, zz, zz, zz, zz, zz, zz, zz, zz]
def nb_l1 : List Value := [zz, zz, zz, zz, zz, zz, zz, zz, zz, zz, zz, zz, zz, zz, zz, zz]
def nb_l2 : List Value := [zz, zz, zz, zz, zz, zz, zz, zz]
def nb_b3 (h0 : Int) (s0 : ByteArray) (i0 : Int) : List Value := (nb_l0 h0 s0 i0) ++ (nb_l1 ++ (nb_l1 ++ (nb_l1 ++ (nb_l1 ++ (nb_l1 ++ (nb_l2))))))
def nb_c4 : List Value := [.map none, .slice none 0 0, .int .i64 0]
def nb_l5 (h0 : Int) (s0 : ByteArray) : List Value := [.pointer none, .int .u64 h0, .string s0, zz, zz, zz, .int .i64 0, .bool false, zz, zz, .pointer none, zz, zz, zz, zz, zz]
def nb_l6 : List Value := [zz, zz]
def nb_b7 (h0 : Int) (s0 : ByteArray) : List Value := (nb_l5 h0 s0) ++ (nb_l1 ++ (nb_l1 ++ (nb_l1 ++ (nb_l6))))
def nb_l8 : List Value := [.pointer none, zz, .bool true, .pointer none, .bool true, .bool true, zz, zz, zz, zz, zz, zz, .bool true]
def nb_l9 (h0 : Int) (s0 : ByteArray) : List Value := [.pointer none, .int .u64 h0, .string s0, zz, zz, zz, .int .i64 0, .bool false, zz, zz, .pointer none, .bool true, zz, zz, zz, zz]
def nb_b10 (h0 : Int) (s0 : ByteArray) : List Value := (nb_l9 h0 s0) ++ (nb_l1 ++ (nb_l1 ++ (nb_l1 ++ (nb_l6))))
def nb_l11 (h0 : Int) (s0 : ByteArray) (i0 : Int) (γ2 : Nat → Nat) : List Value := [.int .u64 h0, .string s0, .int .i64 i0, zz, zz, zz, .bool false, .pointer none, .pointer (some ⟨γ2 3, 0, none⟩), .int .i64 0, .bool false, zz, zz, zz, zz, zz]
def nb_l12 (h0 : Int) (s0 : ByteArray) (γ2 : Nat → Nat) : List Value := [zz, zz, .bool true, .bool false, .agg #[.map none, .slice none 0 0, .int .i64 0], .pointer (some ⟨γ2 3, 0, none⟩), .tuple #[.int .i64 0, .bool false], .pointer none, .int .u64 h0, .string s0, .tuple #[.int .i64 0, .bool false], .int .i64 0, .bool false, zz, .pointer (some ⟨γ2 3, 0, none⟩), .int .u64 h0]
def nb_l13 (s0 : ByteArray) : List Value := [.string s0, zz, zz, zz, zz, zz, zz, zz, zz, zz, zz, zz, zz, zz, zz, zz]
def nb_b14 (h0 : Int) (s0 : ByteArray) (i0 : Int) (γ2 : Nat → Nat) : List Value := (nb_l11 h0 s0 i0 γ2) ++ ((nb_l12 h0 s0 γ2) ++ ((nb_l13 s0) ++ (nb_l1 ++ (nb_l1 ++ (nb_l1 ++ (nb_l2))))))
def nb_l15 (h0 : Int) (s0 : ByteArray) (γ2 : Nat → Nat) (γ10 : Nat → Nat) : List Value := [.pointer (some ⟨γ2 3, 0, none⟩), .int .u64 h0, .string s0, .pointer (some ⟨γ10 0, 0, none⟩), zz, .pointer (some ⟨γ10 1, 0, none⟩), .int .i64 0, .bool false, .pointer (some ⟨γ2 3, 0, none⟩), zz, zz, zz, zz, zz, zz, zz]
def nb_l16 : List Value := [zz, zz, zz]
def nb_b17 (h0 : Int) (s0 : ByteArray) (γ2 : Nat → Nat) (γ10 : Nat → Nat) : List Value := (nb_l15 h0 s0 γ2 γ10) ++ (nb_l16)
def nb_c18 (γ2 : Nat → Nat) : List Value := [.pointer (some ⟨γ2 3, 0, none⟩)]
def nb_l19 (γ2 : Nat → Nat) : List Value := [.pointer (some ⟨γ2 3, 0, none⟩), zz, .bool true, .pointer (some ⟨γ2 3, 0, none⟩), .bool false, .bool false, .pointer (some ⟨γ2 3, 0, none⟩), .pointer (some ⟨γ2 3, 0, none⟩), .pointer (some ⟨γ2 3, 0, none⟩), .pointer (some ⟨γ2 3, 0, none⟩), .map none, .bool true, .bool true]
def nb_l20 (h0 : Int) (s0 : ByteArray) (γ2 : Nat → Nat) (γ10 : Nat → Nat) : List Value := [.pointer (some ⟨γ2 3, 0, none⟩), .int .u64 h0, .string s0, .pointer (some ⟨γ10 0, 0, none⟩), zz, .pointer (some ⟨γ10 1, 0, none⟩), .int .i64 0, .bool false, .pointer (some ⟨γ2 3, 0, none⟩), .bool true, zz, zz, zz, zz, zz, zz]
def nb_b21 (h0 : Int) (s0 : ByteArray) (γ2 : Nat → Nat) (γ10 : Nat → Nat) : List Value := (nb_l20 h0 s0 γ2 γ10) ++ (nb_l16)
def nb_l22 (h0 : Int) (s0 : ByteArray) (i0 : Int) (γ2 : Nat → Nat) : List Value := [.int .u64 h0, .string s0, .int .i64 i0, zz, zz, zz, .bool false, .pointer none, .pointer (some ⟨γ2 3, 0, none⟩), .int .i64 0, .bool false, .int .i64 0, .bool false, zz, zz, zz]
def nb_l23 (h0 : Int) (s0 : ByteArray) (γ2 : Nat → Nat) : List Value := [zz, zz, .bool true, .bool false, .agg #[.map none, .slice none 0 0, .int .i64 0], .pointer (some ⟨γ2 3, 0, none⟩), .tuple #[.int .i64 0, .bool false], .pointer none, .int .u64 h0, .string s0, .tuple #[.int .i64 0, .bool false], .int .i64 0, .bool false, .tuple #[.int .i64 0, .bool false], .pointer (some ⟨γ2 3, 0, none⟩), .int .u64 h0]
def nb_l24 (s0 : ByteArray) (i0 : Int) (γ2 : Nat → Nat) : List Value := [.string s0, .tuple #[.int .i64 0, .bool false], .int .i64 0, .bool false, zz, .pointer (some ⟨γ2 3, 0, none⟩), .int .i64 i0, zz, zz, zz, zz, zz, zz, zz, zz, zz]
def nb_b25 (h0 : Int) (s0 : ByteArray) (i0 : Int) (γ2 : Nat → Nat) : List Value := (nb_l22 h0 s0 i0 γ2) ++ ((nb_l23 h0 s0 γ2) ++ ((nb_l24 s0 i0 γ2) ++ (nb_l1 ++ (nb_l1 ++ (nb_l1 ++ (nb_l2))))))
def nb_l26 (i0 : Int) (γ2 : Nat → Nat) : List Value := [.pointer (some ⟨γ2 3, 0, none⟩), .int .i64 i0, zz, zz, .int .u64 0, .string ⟨#[]⟩, .bool false, .pointer (some ⟨γ2 3, 0, none⟩), zz, zz, zz, zz, zz, zz, zz, zz]
def nb_l27 : List Value := [zz, zz, zz, zz, zz, zz]
def nb_b28 (i0 : Int) (γ2 : Nat → Nat) : List Value := (nb_l26 i0 γ2) ++ (nb_l1 ++ (nb_l27))
def nb_l29 (i0 : Int) (γ2 : Nat → Nat) : List Value := [.pointer (some ⟨γ2 3, 0, none⟩), .int .i64 i0, zz, zz, .int .u64 0, .string ⟨#[]⟩, .bool false, .pointer (some ⟨γ2 3, 0, none⟩), .bool true, .bool true, zz, zz, .bool true, .bool true, zz, zz]
def nb_l30 : List Value := [zz, zz, zz, zz, zz, .bool true, zz, zz, zz, zz, zz, zz, zz, zz, zz, zz]
def nb_b31 (i0 : Int) (γ2 : Nat → Nat) : List Value := (nb_l29 i0 γ2) ++ (nb_l30 ++ (nb_l27))
def nb_l32 (h0 : Int) (s0 : ByteArray) (i0 : Int) (γ2 : Nat → Nat) : List Value := [.int .u64 h0, .string s0, .int .i64 i0, zz, zz, zz, .bool false, .pointer none, .pointer (some ⟨γ2 3, 0, none⟩), .int .i64 0, .bool false, .int .i64 0, .bool false, .int .u64 0, .string ⟨#[]⟩, .bool false]
def nb_l33 (h0 : Int) (s0 : ByteArray) (i0 : Int) (γ2 : Nat → Nat) : List Value := [.string s0, .tuple #[.int .i64 0, .bool false], .int .i64 0, .bool false, .tuple #[.int .u64 0, .string ⟨#[]⟩, .bool false], .pointer (some ⟨γ2 3, 0, none⟩), .int .i64 i0, .tuple #[.int .u64 0, .string ⟨#[]⟩, .bool false], .int .u64 0, .string ⟨#[]⟩, .bool false, zz, .pointer (some ⟨γ2 3, 0, none⟩), .int .u64 h0, .string s0, zz]
def nb_b34 (h0 : Int) (s0 : ByteArray) (i0 : Int) (γ2 : Nat → Nat) : List Value := (nb_l32 h0 s0 i0 γ2) ++ ((nb_l23 h0 s0 γ2) ++ ((nb_l33 h0 s0 i0 γ2) ++ (nb_l1 ++ (nb_l1 ++ (nb_l1 ++ (nb_l2))))))
def nb_l35 (h0 : Int) (s0 : ByteArray) (γ2 : Nat → Nat) : List Value := [.pointer (some ⟨γ2 3, 0, none⟩), .int .u64 h0, .string s0, zz, zz, zz, .int .i64 0, .bool false, zz, zz, .pointer (some ⟨γ2 3, 0, none⟩), zz, zz, zz, zz, zz]
def nb_b36 (h0 : Int) (s0 : ByteArray) (γ2 : Nat → Nat) : List Value := (nb_l35 h0 s0 γ2) ++ (nb_l1 ++ (nb_l1 ++ (nb_l1 ++ (nb_l6))))
def nb_l37 (h0 : Int) (s0 : ByteArray) (γ2 : Nat → Nat) : List Value := [.pointer (some ⟨γ2 3, 0, none⟩), .int .u64 h0, .string s0, zz, zz, zz, .int .i64 0, .bool false, zz, zz, .pointer (some ⟨γ2 3, 0, none⟩), .bool true, zz, zz, zz, zz]
def nb_b38 (h0 : Int) (s0 : ByteArray) (γ2 : Nat → Nat) : List Value := (nb_l37 h0 s0 γ2) ++ (nb_l1 ++ (nb_l1 ++ (nb_l1 ++ (nb_l6))))
def nb_l39 (h0 : Int) (s0 : ByteArray) (γ2 : Nat → Nat) : List Value := [.int .i64 0, .bool false, .bool true, .bool false, .agg #[.map none, .slice none 0 0, .int .i64 0], .pointer (some ⟨γ2 3, 0, none⟩), .tuple #[.int .i64 0, .bool false], .pointer none, .int .u64 h0, .string s0, .tuple #[.int .i64 0, .bool false], .int .i64 0, .bool false, .tuple #[.int .i64 0, .bool false], .pointer (some ⟨γ2 3, 0, none⟩), .int .u64 h0]
def nb_l40 (h0 : Int) (s0 : ByteArray) (i0 : Int) (γ2 : Nat → Nat) : List Value := [.string s0, .tuple #[.int .i64 0, .bool false], .int .i64 0, .bool false, .tuple #[.int .u64 0, .string ⟨#[]⟩, .bool false], .pointer (some ⟨γ2 3, 0, none⟩), .int .i64 i0, .tuple #[.int .u64 0, .string ⟨#[]⟩, .bool false], .int .u64 0, .string ⟨#[]⟩, .bool false, .tuple #[.int .i64 0, .bool false], .pointer (some ⟨γ2 3, 0, none⟩), .int .u64 h0, .string s0, .tuple #[.int .i64 0, .bool false]]
def nb_l41 : List Value := [.int .i64 0, .bool false, .int .i64 0, .bool true, .bool true, .int .i64 0, .bool true, .bool true, .bool true, .int .u64 0, .bool true, .bool true, .bool true, .string ⟨#[]⟩, .bool true, .bool true]
def nb_l42 : List Value := [.bool true, .int .i64 0, .bool true, .bool true, .bool true, .bool false, .bool true, .bool true, .bool true, .bool false, .bool true, .bool true, .bool true, .bool false, .bool true, .bool true]
def nb_l43 : List Value := [.bool true, .bool false, .bool true, .bool true, .bool true, .pointer none, zz, zz, zz, zz, zz, zz, zz, zz, zz, zz]
def nb_b44 (h0 : Int) (s0 : ByteArray) (i0 : Int) (γ2 : Nat → Nat) : List Value := (nb_l32 h0 s0 i0 γ2) ++ ((nb_l39 h0 s0 γ2) ++ ((nb_l40 h0 s0 i0 γ2) ++ (nb_l41 ++ (nb_l42 ++ (nb_l43 ++ (nb_l2))))))
def nb_l45 : List Value := [.pointer none, zz, .int .i64 0, .pointer none, zz, zz, zz, zz, zz, zz]
def nb_l46 : List Value := [.pointer none, zz, .int .i64 0, .pointer none, .bool true, zz, zz, zz, zz, zz]
def nb_l47 (γ2 : Nat → Nat) : List Value := [.bool true, .bool false, .bool true, .bool true, .bool true, .pointer none, .int .i64 0, .bool true, .bool true, .bool true, .pointer (some ⟨γ2 3, 0, none⟩), zz, zz, zz, zz, zz]
def nb_b48 (h0 : Int) (s0 : ByteArray) (i0 : Int) (γ2 : Nat → Nat) : List Value := (nb_l32 h0 s0 i0 γ2) ++ ((nb_l39 h0 s0 γ2) ++ ((nb_l40 h0 s0 i0 γ2) ++ (nb_l41 ++ (nb_l42 ++ ((nb_l47 γ2) ++ (nb_l2))))))
def nb_l49 (γ2 : Nat → Nat) : List Value := [.pointer (some ⟨γ2 3, 0, none⟩), zz, .int .i64 0, .pointer (some ⟨γ2 3, 0, none⟩), zz, zz, zz, zz, zz, zz]
def nb_l50 (γ2 : Nat → Nat) : List Value := [.pointer (some ⟨γ2 3, 0, none⟩), zz, .int .i64 0, .pointer (some ⟨γ2 3, 0, none⟩), .bool true, zz, zz, zz, zz, zz]
def nb_l51 (γ2 : Nat → Nat) : List Value := [.bool true, .bool false, .bool true, .bool true, .bool true, .pointer none, .int .i64 0, .bool true, .bool true, .bool true, .pointer (some ⟨γ2 3, 0, none⟩), .int .i64 0, .bool true, .bool true, .bool true, .pointer none]
def nb_b52 (h0 : Int) (s0 : ByteArray) (i0 : Int) (γ2 : Nat → Nat) : List Value := (nb_l32 h0 s0 i0 γ2) ++ ((nb_l39 h0 s0 γ2) ++ ((nb_l40 h0 s0 i0 γ2) ++ (nb_l41 ++ (nb_l42 ++ ((nb_l51 γ2) ++ (nb_l2))))))
def nb_l53 : List Value := [.pointer none, zz, .int .i64 0, .pointer none, zz, zz, zz, zz, zz]
def nb_l54 : List Value := [.pointer none, zz, .int .i64 0, .pointer none, .bool true, zz, zz, zz, zz]
def nb_l55 (γ2 : Nat → Nat) : List Value := [.int .i64 0, .bool true, .bool true, .bool true, .pointer (some ⟨γ2 3, 0, none⟩), zz, zz, zz]
def nb_b56 (h0 : Int) (s0 : ByteArray) (i0 : Int) (γ2 : Nat → Nat) : List Value := (nb_l32 h0 s0 i0 γ2) ++ ((nb_l39 h0 s0 γ2) ++ ((nb_l40 h0 s0 i0 γ2) ++ (nb_l41 ++ (nb_l42 ++ ((nb_l51 γ2) ++ ((nb_l55 γ2)))))))
def nb_l57 (γ2 : Nat → Nat) : List Value := [.pointer (some ⟨γ2 3, 0, none⟩), zz, .int .i64 0, .pointer (some ⟨γ2 3, 0, none⟩), zz, zz, zz, zz, zz]
def nb_l58 (γ2 : Nat → Nat) : List Value := [.pointer (some ⟨γ2 3, 0, none⟩), zz, .int .i64 0, .pointer (some ⟨γ2 3, 0, none⟩), .bool true, zz, zz, zz, zz]
def nb_l59 (h0 : Int) (s0 : ByteArray) (i0 : Int) (γ2 : Nat → Nat) : List Value := [.int .u64 h0, .string s0, .int .i64 i0, zz, zz, zz, .bool true, .pointer none, .pointer (some ⟨γ2 3, 0, none⟩), .int .i64 0, .bool false, .int .i64 0, .bool false, .int .u64 0, .string ⟨#[]⟩, .bool false]
def nb_l60 (γ2 : Nat → Nat) : List Value := [.int .i64 0, .bool true, .bool true, .bool true, .pointer (some ⟨γ2 3, 0, none⟩), .int .i64 0, .bool true, .bool true]
def nb_b61 (h0 : Int) (s0 : ByteArray) (i0 : Int) (γ2 : Nat → Nat) : List Value := (nb_l59 h0 s0 i0 γ2) ++ ((nb_l39 h0 s0 γ2) ++ ((nb_l40 h0 s0 i0 γ2) ++ (nb_l41 ++ (nb_l42 ++ ((nb_l51 γ2) ++ ((nb_l60 γ2)))))))
set_option maxHeartbeats 8000000 in
set_option maxRecDepth 100000 in
theorem law_nob {h0 i0 : Int} {s0 : ByteArray} (w : World) : Calls Try.prog 4 #[.int .u64 h0, .string s0, .int .i64 i0] w fun e w' => e = .returned (.bool true) ∧ Below w.heap.size w w' := by
  refine enter (args := [.int .u64 h0, .string s0, .int .i64 i0]) (fn := Try.f4) rfl (c := bdy Try.f4) (by kernel_rfl) ?_
  refine ck 1 [] [] fun γ1 => ⟨⟨kt (bdy Try.f4) [1, 0, 0, 0] [], (nb_b3 h0 s0 i0), []⟩, [], [], by kernel_rfl, .nil, ?_⟩
  refine cp (fun W hW => alive_is W) ?_
  refine ck 8 [] [] fun γ2 => ⟨⟨kt (bdy Try.f4) [1, 1, 1, 1, 0, 3] [], upv (nb_b3 h0 s0 i0) [(7, .pointer none), (8, .pointer (some ⟨γ2 3, 0, none⟩)), (18, .bool true), (19, .bool false), (20, .agg #[.map none, .slice none 0 0, .int .i64 0]), (21, .pointer (some ⟨γ2 3, 0, none⟩)), (23, .pointer none), (24, .int .u64 h0), (25, .string s0)], [(γ2 3, 41, nb_c4)]⟩, [], [], by kernel_rfl, .nil, ?_⟩
  refine ci (f := 9) (args := [.pointer none, .int .u64 h0, .string s0]) (fn := Try.f9) (c := bdy Try.f9) rfl (fun R3 hR3 => ?_)
  refine ck 3 [] [] fun γ4 => ⟨⟨kt (bdy Try.f9) [1, 0, 0, 1] [], (nb_b7 h0 s0), [(γ2 3, 41, nb_c4)]⟩, [], [], by kernel_rfl, .nil, ?_⟩
  refine ci (f := 15) (args := [.pointer none]) (fn := Try.f15) (c := bdy Try.f15) rfl (fun R5 hR5 => ?_)
  refine ck 12 [] [] fun γ6 => ⟨⟨kt (bdy Try.f15) [1, 1] [], nb_l8, [(γ2 3, 41, nb_c4)]⟩, [], [], by kernel_rfl, .nil, ?_⟩
  refine crm hR5 (.bool true) [] [] [true] ?_
  refine ck 2 [] [] fun γ7 => ⟨⟨kt (bdy Try.f9) [1, 0, 1, 0, 1] [], (nb_b10 h0 s0), [(γ2 3, 41, nb_c4)]⟩, [], [], by kernel_rfl, .nil, ?_⟩
  refine crm hR3 (.tuple #[.int .i64 0, .bool false]) [] [] [true] ?_
  refine ck 8 [] [] fun γ8 => ⟨⟨kt (bdy Try.f4) [1, 1, 1, 1, 1, 0, 3] [], (nb_b14 h0 s0 i0 γ2), [(γ2 3, 41, nb_c4)]⟩, [], [], by kernel_rfl, .nil, ?_⟩
  refine ci (f := 8) (args := [.pointer (some ⟨γ2 3, 0, none⟩), .int .u64 h0, .string s0]) (fn := Try.f8) (c := bdy Try.f8) rfl (fun R9 hR9 => ?_)
  refine ck 5 [(1, 1)] [] fun γ10 => ⟨⟨kt (bdy Try.f8) [1, 0, 0, 1] [], (nb_b17 h0 s0 γ2 γ10), [(γ10 1, 9, [.string s0]), (γ10 0, 24, (nb_c18 γ2)), (γ2 3, 41, nb_c4)]⟩, [(1, γ10 0)], [], by kernel_rfl, .nil, ?_⟩
  refine ci (f := 15) (args := [.pointer (some ⟨γ2 3, 0, none⟩)]) (fn := Try.f15) (c := bdy Try.f15) rfl (fun R11 hR11 => ?_)
  refine ck 12 [(1, 2)] [] fun γ12 => ⟨⟨kt (bdy Try.f15) [1, 1] [], (nb_l19 γ2), [(γ10 1, 9, [.string s0]), (γ10 0, 24, (nb_c18 γ2)), (γ2 3, 41, nb_c4)]⟩, [(1, γ2 3)], [], by kernel_rfl, .nil, ?_⟩
  refine crm hR11 (.bool true) [] [] [true, true, true] ?_
  refine ck 2 [] [] fun γ13 => ⟨⟨kt (bdy Try.f8) [1, 0, 1, 0, 1] [], (nb_b21 h0 s0 γ2 γ10), [(γ10 1, 9, [.string s0]), (γ10 0, 24, (nb_c18 γ2)), (γ2 3, 41, nb_c4)]⟩, [], [], by kernel_rfl, .nil, ?_⟩
  refine crm hR9 (.tuple #[.int .i64 0, .bool false]) [] [] [false, false, true] ?_
  refine ck 7 [] [] fun γ14 => ⟨⟨kt (bdy Try.f4) [1, 1, 1, 1, 1, 1, 0, 2] [], (nb_b25 h0 s0 i0 γ2), [(γ2 3, 41, nb_c4)]⟩, [], [], by kernel_rfl, .nil, ?_⟩
  refine ci (f := 14) (args := [.pointer (some ⟨γ2 3, 0, none⟩), .int .i64 i0]) (fn := Try.f14) (c := bdy Try.f14) rfl (fun R15 hR15 => ?_)
  refine ck 4 [] [] fun γ16 => ⟨⟨kt (bdy Try.f14) [1, 0, 0, 1] [], (nb_b28 i0 γ2), [(γ2 3, 41, nb_c4)]⟩, [], [], by kernel_rfl, .nil, ?_⟩
  refine ci (f := 15) (args := [.pointer (some ⟨γ2 3, 0, none⟩)]) (fn := Try.f15) (c := bdy Try.f15) rfl (fun R17 hR17 => ?_)
  refine ck 12 [(1, 0)] [] fun γ18 => ⟨⟨kt (bdy Try.f15) [1, 1] [], (nb_l19 γ2), [(γ2 3, 41, nb_c4)]⟩, [(1, γ2 3)], [], by kernel_rfl, .nil, ?_⟩
  refine crm hR17 (.bool true) [] [] [true] ?_
  refine ck 16 [] [] fun γ19 => ⟨⟨kt (bdy Try.f14) [1, 0, 1, 0, 1] [], (nb_b31 i0 γ2), [(γ2 3, 41, nb_c4)]⟩, [], [], by kernel_rfl, .nil, ?_⟩
  refine crm hR15 (.tuple #[.int .u64 0, .string ⟨#[]⟩, .bool false]) [] [] [true] ?_
  refine ck 10 [] [] fun γ20 => ⟨⟨kt (bdy Try.f4) [1, 1, 1, 1, 1, 1, 1, 0, 3] [], (nb_b34 h0 s0 i0 γ2), [(γ2 3, 41, nb_c4)]⟩, [], [], by kernel_rfl, .nil, ?_⟩
  refine ci (f := 9) (args := [.pointer (some ⟨γ2 3, 0, none⟩), .int .u64 h0, .string s0]) (fn := Try.f9) (c := bdy Try.f9) rfl (fun R21 hR21 => ?_)
  refine ck 3 [] [] fun γ22 => ⟨⟨kt (bdy Try.f9) [1, 0, 0, 1] [], (nb_b36 h0 s0 γ2), [(γ2 3, 41, nb_c4)]⟩, [], [], by kernel_rfl, .nil, ?_⟩
  refine ci (f := 15) (args := [.pointer (some ⟨γ2 3, 0, none⟩)]) (fn := Try.f15) (c := bdy Try.f15) rfl (fun R23 hR23 => ?_)
  refine ck 12 [(1, 0)] [] fun γ24 => ⟨⟨kt (bdy Try.f15) [1, 1] [], (nb_l19 γ2), [(γ2 3, 41, nb_c4)]⟩, [(1, γ2 3)], [], by kernel_rfl, .nil, ?_⟩
  refine crm hR23 (.bool true) [] [] [true] ?_
  refine ck 2 [] [] fun γ25 => ⟨⟨kt (bdy Try.f9) [1, 0, 1, 0, 1] [], (nb_b38 h0 s0 γ2), [(γ2 3, 41, nb_c4)]⟩, [], [], by kernel_rfl, .nil, ?_⟩
  refine crm hR21 (.tuple #[.int .i64 0, .bool false]) [] [] [true] ?_
  refine ck 41 [] [(17, .bool true)] fun γ26 => ⟨⟨kt (bdy Try.f4) [1, 1, 1, 1, 1, 1, 1, 1, 0, 36] [], (nb_b44 h0 s0 i0 γ2), [(γ2 3, 41, nb_c4)]⟩, [], [Value.bool (ByteArray.toList (⟨#[]⟩) == ByteArray.toList (⟨#[]⟩)) = .bool true], by kernel_rfl, (.cons (seT rfl) .nil), ?_⟩
  refine ci (f := 11) (args := [.pointer none]) (fn := Try.f11) (c := bdy Try.f11) rfl (fun R27 hR27 => ?_)
  refine ck 2 [] [] fun γ28 => ⟨⟨kt (bdy Try.f11) [1, 0, 0, 1] [], nb_l45, [(γ2 3, 41, nb_c4)]⟩, [], [], by kernel_rfl, .nil, ?_⟩
  refine ci (f := 15) (args := [.pointer none]) (fn := Try.f15) (c := bdy Try.f15) rfl (fun R29 hR29 => ?_)
  refine ck 12 [] [] fun γ30 => ⟨⟨kt (bdy Try.f15) [1, 1] [], nb_l8, [(γ2 3, 41, nb_c4)]⟩, [], [], by kernel_rfl, .nil, ?_⟩
  refine crm hR29 (.bool true) [] [] [true] ?_
  refine ck 1 [] [] fun γ31 => ⟨⟨kt (bdy Try.f11) [1, 0, 1, 0, 1] [], nb_l46, [(γ2 3, 41, nb_c4)]⟩, [], [], by kernel_rfl, .nil, ?_⟩
  refine crm hR27 (.int .i64 0) [] [] [true] ?_
  refine ck 4 [] [] fun γ32 => ⟨⟨kt (bdy Try.f4) [1, 1, 1, 1, 1, 1, 1, 1, 0, 41] [], (nb_b48 h0 s0 i0 γ2), [(γ2 3, 41, nb_c4)]⟩, [], [], by kernel_rfl, .nil, ?_⟩
  refine ci (f := 11) (args := [.pointer (some ⟨γ2 3, 0, none⟩)]) (fn := Try.f11) (c := bdy Try.f11) rfl (fun R33 hR33 => ?_)
  refine ck 2 [] [] fun γ34 => ⟨⟨kt (bdy Try.f11) [1, 0, 0, 1] [], (nb_l49 γ2), [(γ2 3, 41, nb_c4)]⟩, [], [], by kernel_rfl, .nil, ?_⟩
  refine ci (f := 15) (args := [.pointer (some ⟨γ2 3, 0, none⟩)]) (fn := Try.f15) (c := bdy Try.f15) rfl (fun R35 hR35 => ?_)
  refine ck 12 [(1, 0)] [] fun γ36 => ⟨⟨kt (bdy Try.f15) [1, 1] [], (nb_l19 γ2), [(γ2 3, 41, nb_c4)]⟩, [(1, γ2 3)], [], by kernel_rfl, .nil, ?_⟩
  refine crm hR35 (.bool true) [] [] [true] ?_
  refine ck 1 [] [] fun γ37 => ⟨⟨kt (bdy Try.f11) [1, 0, 1, 0, 1] [], (nb_l50 γ2), [(γ2 3, 41, nb_c4)]⟩, [], [], by kernel_rfl, .nil, ?_⟩
  refine crm hR33 (.int .i64 0) [] [] [true] ?_
  refine ck 4 [] [] fun γ38 => ⟨⟨kt (bdy Try.f4) [1, 1, 1, 1, 1, 1, 1, 1, 0, 46] [], (nb_b52 h0 s0 i0 γ2), [(γ2 3, 41, nb_c4)]⟩, [], [], by kernel_rfl, .nil, ?_⟩
  refine ci (f := 12) (args := [.pointer none]) (fn := Try.f12) (c := bdy Try.f12) rfl (fun R39 hR39 => ?_)
  refine ck 2 [] [] fun γ40 => ⟨⟨kt (bdy Try.f12) [1, 0, 0, 1] [], nb_l53, [(γ2 3, 41, nb_c4)]⟩, [], [], by kernel_rfl, .nil, ?_⟩
  refine ci (f := 15) (args := [.pointer none]) (fn := Try.f15) (c := bdy Try.f15) rfl (fun R41 hR41 => ?_)
  refine ck 12 [] [] fun γ42 => ⟨⟨kt (bdy Try.f15) [1, 1] [], nb_l8, [(γ2 3, 41, nb_c4)]⟩, [], [], by kernel_rfl, .nil, ?_⟩
  refine crm hR41 (.bool true) [] [] [true] ?_
  refine ck 1 [] [] fun γ43 => ⟨⟨kt (bdy Try.f12) [1, 0, 1, 0, 1] [], nb_l54, [(γ2 3, 41, nb_c4)]⟩, [], [], by kernel_rfl, .nil, ?_⟩
  refine crm hR39 (.int .i64 0) [] [] [true] ?_
  refine ck 4 [] [] fun γ44 => ⟨⟨kt (bdy Try.f4) [1, 1, 1, 1, 1, 1, 1, 1, 0, 51] [], (nb_b56 h0 s0 i0 γ2), [(γ2 3, 41, nb_c4)]⟩, [], [], by kernel_rfl, .nil, ?_⟩
  refine ci (f := 12) (args := [.pointer (some ⟨γ2 3, 0, none⟩)]) (fn := Try.f12) (c := bdy Try.f12) rfl (fun R45 hR45 => ?_)
  refine ck 2 [] [] fun γ46 => ⟨⟨kt (bdy Try.f12) [1, 0, 0, 1] [], (nb_l57 γ2), [(γ2 3, 41, nb_c4)]⟩, [], [], by kernel_rfl, .nil, ?_⟩
  refine ci (f := 15) (args := [.pointer (some ⟨γ2 3, 0, none⟩)]) (fn := Try.f15) (c := bdy Try.f15) rfl (fun R47 hR47 => ?_)
  refine ck 12 [(1, 0)] [] fun γ48 => ⟨⟨kt (bdy Try.f15) [1, 1] [], (nb_l19 γ2), [(γ2 3, 41, nb_c4)]⟩, [(1, γ2 3)], [], by kernel_rfl, .nil, ?_⟩
  refine crm hR47 (.bool true) [] [] [true] ?_
  refine ck 1 [] [] fun γ49 => ⟨⟨kt (bdy Try.f12) [1, 0, 1, 0, 1] [], (nb_l58 γ2), [(γ2 3, 41, nb_c4)]⟩, [], [], by kernel_rfl, .nil, ?_⟩
  refine crm hR45 (.int .i64 0) [] [] [true] ?_
  refine ck 3 [] [] fun γ50 => ⟨⟨kt (bdy Try.f4) [1, 1, 1, 1, 1, 1, 1, 1, 1] [], (nb_b61 h0 s0 i0 γ2), [(γ2 3, 41, nb_c4)]⟩, [], [], by kernel_rfl, .nil, ?_⟩
  refine rt (.bool true) [] [] (fun W hW => ?_)
  exact ⟨rfl, (hW.old 0 rfl)⟩
end Go.Proofs.Ytkkbhllljafdfaa.Sr
