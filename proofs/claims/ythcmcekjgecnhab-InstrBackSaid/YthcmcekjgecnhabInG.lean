/- What instr.Check answers. No condition beside those that each theorem names. -/
import Derived.Test.YthcmcekjgecnhabInF
namespace Go.Proofs.Ythcmcekjgecnhab.Sr
open Go.RowKit Go.Proofs.YthcmcekjgecnhabM.Mach
set_option linter.unusedVariables false
set_option linter.unusedSimpArgs false
def check_kind_0_l0 (o0 : Int) (a0 : Int) (b0 : Int) (c0 : Int) (n0 : Int) (cd : Int) (γ1 : Nat → Nat) : List Value := [.agg #[.int .i64 o0, .int .i64 a0, .int .i64 b0, .int .i64 c0, .int .i64 n0], .agg #[.int .i64 4, .int .i64 0, .int .i64 2, .slice none 0 0], .int .i64 cd, .pointer (some ⟨γ1 0, 0, none⟩), .pointer (some ⟨γ1 1, 0, none⟩), zz, .int .i64 0, zz, zz, zz, .pointer (some ⟨γ1 0, 0, none⟩), .int .i64 o0, zz, zz, zz, zz]
def check_kind_0_l1 : List Value := [zz, zz, zz, zz, zz, zz, zz, zz, zz, zz, zz, zz, zz, zz, zz, zz]
def check_kind_0_l2 : List Value := [zz, zz, zz, zz, zz]
def check_kind_0_b3 (o0 : Int) (a0 : Int) (b0 : Int) (c0 : Int) (n0 : Int) (cd : Int) (γ1 : Nat → Nat) : List Value := (check_kind_0_l0 o0 a0 b0 c0 n0 cd γ1) ++ (check_kind_0_l1 ++ (check_kind_0_l2))
set_option maxHeartbeats 8000000 in
set_option maxRecDepth 100000 in
theorem check_kind (o0 a0 b0 c0 n0 : Int) {cd : Int} (hk : o0 ≤ 0 ∨ 26 ≤ o0) (w : World) : Calls Try.prog 23 #[.agg #[.int .i64 o0, .int .i64 a0, .int .i64 b0, .int .i64 c0, .int .i64 n0], .agg #[.int .i64 4, .int .i64 0, .int .i64 2, .slice none 0 0], .int .i64 cd] w fun e w' => e = .returned (.int .i64 2) ∧ Below w.heap.size w w' := by
  refine enter (args := [.agg #[.int .i64 o0, .int .i64 a0, .int .i64 b0, .int .i64 c0, .int .i64 n0], .agg #[.int .i64 4, .int .i64 0, .int .i64 2, .slice none 0 0], .int .i64 cd]) (fn := Try.f23) rfl (c := bdy Try.f23) (by kernel_rfl) ?_
  refine ck 5 [(1, 1)] [] fun γ1 => ⟨⟨kt (bdy Try.f23) [1, 0, 2] [], (check_kind_0_b3 o0 a0 b0 c0 n0 cd γ1), [(γ1 1, 51, [.int .i64 4, .int .i64 0, .int .i64 2, .slice none 0 0]), (γ1 0, 41, [.int .i64 o0, .int .i64 a0, .int .i64 b0, .int .i64 c0, .int .i64 n0])]⟩, [(1, γ1 0)], [], by kernel_rfl, .nil, ?_⟩
  refine cp (fun W hW => shapeno hk W) ?_
  refine ck 4 [] [(2, .bool true)] fun γ2 => ⟨⟨kt (bdy Try.f23) [1, 1, 0, 1, 0, 1] [], upv (check_kind_0_b3 o0 a0 b0 c0 n0 cd γ1) [(6, .int .i64 2), (7, .string ⟨#[]⟩), (12, .string ⟨#[]⟩), (13, .string ⟨#[]⟩), (14, .bool true)], [(γ1 1, 51, [.int .i64 4, .int .i64 0, .int .i64 2, .slice none 0 0]), (γ1 0, 41, [.int .i64 o0, .int .i64 a0, .int .i64 b0, .int .i64 c0, .int .i64 n0])]⟩, [], [Value.bool (ByteArray.toList (⟨#[]⟩) == ByteArray.toList (⟨#[]⟩)) = .bool true], by kernel_rfl, (.cons (seT rfl) .nil), ?_⟩
  refine rt (.int .i64 2) [] [] (fun W hW => ?_)
  exact ⟨rfl, (hW.old 0 rfl)⟩
def check_0_0_l0 (k : Nat) (a0 : Int) (b0 : Int) (c0 : Int) (n0 : Int) (cd : Int) (γ1 : Nat → Nat) : List Value := [.agg #[.int .i64 (k : Int), .int .i64 a0, .int .i64 b0, .int .i64 c0, .int .i64 n0], .agg #[.int .i64 4, .int .i64 0, .int .i64 2, .slice none 0 0], .int .i64 cd, .pointer (some ⟨γ1 0, 0, none⟩), .pointer (some ⟨γ1 1, 0, none⟩), zz, .int .i64 0, zz, zz, zz, .pointer (some ⟨γ1 0, 0, none⟩), .int .i64 (k : Int), zz, zz, zz, zz]
def check_0_0_l1 : List Value := [zz, zz, zz, zz, zz, zz, zz, zz, zz, zz, zz, zz, zz, zz, zz, zz]
def check_0_0_l2 : List Value := [zz, zz, zz, zz, zz]
def check_0_0_b3 (k : Nat) (a0 : Int) (b0 : Int) (c0 : Int) (n0 : Int) (cd : Int) (γ1 : Nat → Nat) : List Value := (check_0_0_l0 k a0 b0 c0 n0 cd γ1) ++ (check_0_0_l1 ++ (check_0_0_l2))
def check_0_0_l4 (k : Nat) (a0 : Int) (b0 : Int) (c0 : Int) (n0 : Int) (cd : Int) (l0 : UInt8) (l1 : UInt8) (l2 : UInt8) (l3 : UInt8) (γ1 : Nat → Nat) : List Value := [.agg #[.int .i64 (k : Int), .int .i64 a0, .int .i64 b0, .int .i64 c0, .int .i64 n0], .agg #[.int .i64 4, .int .i64 0, .int .i64 2, .slice none 0 0], .int .i64 cd, .pointer (some ⟨γ1 0, 0, none⟩), .pointer (some ⟨γ1 1, 0, none⟩), zz, .int .i64 0, .string ⟨#[l0, l1, l2, l3]⟩, zz, zz, .pointer (some ⟨γ1 0, 0, none⟩), .int .i64 (k : Int), .string ⟨#[l0, l1, l2, l3]⟩, .string ⟨#[l0, l1, l2, l3]⟩, .bool false, .pointer (some ⟨γ1 0, 1, none⟩)]
def check_0_0_l5 (a0 : Int) (b0 : Int) (c0 : Int) (n0 : Int) (γ1 : Nat → Nat) : List Value := [.int .i64 a0, .pointer (some ⟨γ1 0, 2, none⟩), .int .i64 b0, .pointer (some ⟨γ1 0, 3, none⟩), .int .i64 c0, .pointer (some ⟨γ1 0, 4, none⟩), .int .i64 n0, .agg #[.int .i64 a0, .int .i64 b0, .int .i64 c0, .int .i64 n0], .int .i64 0, zz, zz, zz, zz, zz, zz, zz]
def check_0_0_b6 (k : Nat) (a0 : Int) (b0 : Int) (c0 : Int) (n0 : Int) (cd : Int) (l0 : UInt8) (l1 : UInt8) (l2 : UInt8) (l3 : UInt8) (γ1 : Nat → Nat) : List Value := (check_0_0_l4 k a0 b0 c0 n0 cd l0 l1 l2 l3 γ1) ++ ((check_0_0_l5 a0 b0 c0 n0 γ1) ++ (check_0_0_l2))
def check_0_0_l7 (k : Nat) (a0 : Int) (b0 : Int) (c0 : Int) (n0 : Int) (cd : Int) (l0 : UInt8) (l1 : UInt8) (l2 : UInt8) (l3 : UInt8) (γ1 : Nat → Nat) : List Value := [.agg #[.int .i64 (k : Int), .int .i64 a0, .int .i64 b0, .int .i64 c0, .int .i64 n0], .agg #[.int .i64 4, .int .i64 0, .int .i64 2, .slice none 0 0], .int .i64 cd, .pointer (some ⟨γ1 0, 0, none⟩), .pointer (some ⟨γ1 1, 0, none⟩), zz, .int .i64 0, .string ⟨#[l0, l1, l2, l3]⟩, .int .i64 0, .int .i64 a0, .pointer (some ⟨γ1 0, 0, none⟩), .int .i64 (k : Int), .string ⟨#[l0, l1, l2, l3]⟩, .string ⟨#[l0, l1, l2, l3]⟩, .bool false, .pointer (some ⟨γ1 0, 1, none⟩)]
def check_0_0_l8 (a0 : Int) (b0 : Int) (c0 : Int) (n0 : Int) (l0 : UInt8) (l1 : UInt8) (l2 : UInt8) (l3 : UInt8) (γ1 : Nat → Nat) : List Value := [.int .i64 a0, .pointer (some ⟨γ1 0, 2, none⟩), .int .i64 b0, .pointer (some ⟨γ1 0, 3, none⟩), .int .i64 c0, .pointer (some ⟨γ1 0, 4, none⟩), .int .i64 n0, .agg #[.int .i64 a0, .int .i64 b0, .int .i64 c0, .int .i64 n0], .int .i64 0, .bool true, .int .i64 0, .int .i64 a0, .string ⟨#[l0, l1, l2, l3]⟩, .int .i64 0, .int .u8 ((l0.toNat : Nat) : Int), .int .i64 a0]
def check_0_0_l9 (cd : Int) : List Value := [.agg #[.int .i64 4, .int .i64 0, .int .i64 2, .slice none 0 0], .int .i64 cd, .bool false, .bool true, zz]
def check_0_0_b10 (k : Nat) (a0 : Int) (b0 : Int) (c0 : Int) (n0 : Int) (cd : Int) (l0 : UInt8) (l1 : UInt8) (l2 : UInt8) (l3 : UInt8) (γ1 : Nat → Nat) : List Value := (check_0_0_l7 k a0 b0 c0 n0 cd l0 l1 l2 l3 γ1) ++ ((check_0_0_l8 a0 b0 c0 n0 l0 l1 l2 l3 γ1) ++ ((check_0_0_l9 cd)))
set_option maxHeartbeats 8000000 in
set_option maxRecDepth 100000 in
theorem check_0 {k : Nat} {a0 b0 c0 n0 cd : Int} {l0 l1 l2 l3 : UInt8} (hk : k < 26) (he : (OPL[k]!).2 = ⟨#[l0, l1, l2, l3]⟩) (hl0 : okL ((l0.toNat : Nat) : Int)) (hf0 : fitF ((l0.toNat : Nat) : Int) a0 cd = false) (w : World) : Calls Try.prog 23 #[.agg #[.int .i64 (k : Int), .int .i64 a0, .int .i64 b0, .int .i64 c0, .int .i64 n0], .agg #[.int .i64 4, .int .i64 0, .int .i64 2, .slice none 0 0], .int .i64 cd] w fun e w' => e = .returned (.int .i64 3) ∧ Below w.heap.size w w' := by
  refine enter (args := [.agg #[.int .i64 (k : Int), .int .i64 a0, .int .i64 b0, .int .i64 c0, .int .i64 n0], .agg #[.int .i64 4, .int .i64 0, .int .i64 2, .slice none 0 0], .int .i64 cd]) (fn := Try.f23) rfl (c := bdy Try.f23) (by kernel_rfl) ?_
  refine ck 5 [(1, 1)] [] fun γ1 => ⟨⟨kt (bdy Try.f23) [1, 0, 2] [], (check_0_0_b3 k a0 b0 c0 n0 cd γ1), [(γ1 1, 51, [.int .i64 4, .int .i64 0, .int .i64 2, .slice none 0 0]), (γ1 0, 41, [.int .i64 (k : Int), .int .i64 a0, .int .i64 b0, .int .i64 c0, .int .i64 n0])]⟩, [(1, γ1 0)], [], by kernel_rfl, .nil, ?_⟩
  refine cp (fun W hW => shapeyes hk he W) ?_
  refine ck 13 [(4, 1)] [(2, .bool false)] fun γ2 => ⟨⟨kt (bdy Try.f23) [1, 1, 1, 0, 1, 0] [], (check_0_0_b6 k a0 b0 c0 n0 cd l0 l1 l2 l3 γ1), [(γ1 1, 51, [.int .i64 4, .int .i64 0, .int .i64 2, .slice none 0 0]), (γ1 0, 41, [.int .i64 (k : Int), .int .i64 a0, .int .i64 b0, .int .i64 c0, .int .i64 n0])]⟩, [(4, γ1 0)], [Value.bool (ByteArray.toList (⟨#[l0, l1, l2, l3]⟩) == ByteArray.toList (⟨#[]⟩)) = .bool false], by kernel_rfl, (.cons (seF (by simp)) .nil), ?_⟩
  refine lu 6 (fun I3 hI3 => ?_)
  refine ck 5 [] [] fun γ4 => ⟨⟨ktl [1, 1, 0, 0, 1, 0] (I3 6) (kt (bdy Try.f23) [1, 1, 1, 0, 1, 0] []), upv (check_0_0_b6 k a0 b0 c0 n0 cd l0 l1 l2 l3 γ1) [(8, .int .i64 0), (9, .int .i64 a0), (25, .bool true), (26, .int .i64 0), (27, .int .i64 a0)], [(γ1 1, 51, [.int .i64 4, .int .i64 0, .int .i64 2, .slice none 0 0]), (γ1 0, 41, [.int .i64 (k : Int), .int .i64 a0, .int .i64 b0, .int .i64 c0, .int .i64 n0])]⟩, [], [], by kernel_rfl, .nil, ?_⟩
  refine dr [] [] .nil ?_
  refine df [0, 1, 2, 3, 4, 5] [(4, 0)] [] [(4, γ1 1)] [] .nil ?_
  refine dp 6 (fun W hW => fits_is hl0 hf0 W) ?_
  refine df [7] [] [] [] [] .nil ?_
  refine de (fs := (ktl [1, 1, 0, 0, 1, 0] (I3 6) (kt (bdy Try.f23) [1, 1, 1, 0, 1, 0] [])).tail) ?_
  refine st0 (fs := (ktl [1, 1, 0, 0, 1, 0] (I3 6) (kt (bdy Try.f23) [1, 1, 1, 0, 1, 0] [])).tail) ((check_0_0_b10 k a0 b0 c0 n0 cd l0 l1 l2 l3 γ1)) [(γ1 1, 51, [.int .i64 4, .int .i64 0, .int .i64 2, .slice none 0 0]), (γ1 0, 41, [.int .i64 (k : Int), .int .i64 a0, .int .i64 b0, .int .i64 c0, .int .i64 n0])] ?_
  refine ck 1 [] [] fun γ5 => ⟨⟨ktl [1, 1, 0, 0, 1, 1, 0, 1] (I3 6) (kt (bdy Try.f23) [1, 1, 1, 0, 1, 0] []), upv (check_0_0_b10 k a0 b0 c0 n0 cd l0 l1 l2 l3 γ1) [(6, .int .i64 3)], [(γ1 1, 51, [.int .i64 4, .int .i64 0, .int .i64 2, .slice none 0 0]), (γ1 0, 41, [.int .i64 (k : Int), .int .i64 a0, .int .i64 b0, .int .i64 c0, .int .i64 n0])]⟩, [], [], by kernel_rfl, .nil, ?_⟩
  refine rt (.int .i64 3) [] [] (fun W hW => ?_)
  exact ⟨rfl, (hW.old 0 rfl)⟩
def check_1_0_l0 (k : Nat) (a0 : Int) (b0 : Int) (c0 : Int) (n0 : Int) (cd : Int) (γ1 : Nat → Nat) : List Value := [.agg #[.int .i64 (k : Int), .int .i64 a0, .int .i64 b0, .int .i64 c0, .int .i64 n0], .agg #[.int .i64 4, .int .i64 0, .int .i64 2, .slice none 0 0], .int .i64 cd, .pointer (some ⟨γ1 0, 0, none⟩), .pointer (some ⟨γ1 1, 0, none⟩), zz, .int .i64 0, zz, zz, zz, .pointer (some ⟨γ1 0, 0, none⟩), .int .i64 (k : Int), zz, zz, zz, zz]
def check_1_0_l1 : List Value := [zz, zz, zz, zz, zz, zz, zz, zz, zz, zz, zz, zz, zz, zz, zz, zz]
def check_1_0_l2 : List Value := [zz, zz, zz, zz, zz]
def check_1_0_b3 (k : Nat) (a0 : Int) (b0 : Int) (c0 : Int) (n0 : Int) (cd : Int) (γ1 : Nat → Nat) : List Value := (check_1_0_l0 k a0 b0 c0 n0 cd γ1) ++ (check_1_0_l1 ++ (check_1_0_l2))
def check_1_0_l4 (k : Nat) (a0 : Int) (b0 : Int) (c0 : Int) (n0 : Int) (cd : Int) (l0 : UInt8) (l1 : UInt8) (l2 : UInt8) (l3 : UInt8) (γ1 : Nat → Nat) : List Value := [.agg #[.int .i64 (k : Int), .int .i64 a0, .int .i64 b0, .int .i64 c0, .int .i64 n0], .agg #[.int .i64 4, .int .i64 0, .int .i64 2, .slice none 0 0], .int .i64 cd, .pointer (some ⟨γ1 0, 0, none⟩), .pointer (some ⟨γ1 1, 0, none⟩), zz, .int .i64 0, .string ⟨#[l0, l1, l2, l3]⟩, zz, zz, .pointer (some ⟨γ1 0, 0, none⟩), .int .i64 (k : Int), .string ⟨#[l0, l1, l2, l3]⟩, .string ⟨#[l0, l1, l2, l3]⟩, .bool false, .pointer (some ⟨γ1 0, 1, none⟩)]
def check_1_0_l5 (a0 : Int) (b0 : Int) (c0 : Int) (n0 : Int) (γ1 : Nat → Nat) : List Value := [.int .i64 a0, .pointer (some ⟨γ1 0, 2, none⟩), .int .i64 b0, .pointer (some ⟨γ1 0, 3, none⟩), .int .i64 c0, .pointer (some ⟨γ1 0, 4, none⟩), .int .i64 n0, .agg #[.int .i64 a0, .int .i64 b0, .int .i64 c0, .int .i64 n0], .int .i64 0, zz, zz, zz, zz, zz, zz, zz]
def check_1_0_b6 (k : Nat) (a0 : Int) (b0 : Int) (c0 : Int) (n0 : Int) (cd : Int) (l0 : UInt8) (l1 : UInt8) (l2 : UInt8) (l3 : UInt8) (γ1 : Nat → Nat) : List Value := (check_1_0_l4 k a0 b0 c0 n0 cd l0 l1 l2 l3 γ1) ++ ((check_1_0_l5 a0 b0 c0 n0 γ1) ++ (check_1_0_l2))
def check_1_0_l7 (k : Nat) (a0 : Int) (b0 : Int) (c0 : Int) (n0 : Int) (cd : Int) (l0 : UInt8) (l1 : UInt8) (l2 : UInt8) (l3 : UInt8) (γ1 : Nat → Nat) : List Value := [.agg #[.int .i64 (k : Int), .int .i64 a0, .int .i64 b0, .int .i64 c0, .int .i64 n0], .agg #[.int .i64 4, .int .i64 0, .int .i64 2, .slice none 0 0], .int .i64 cd, .pointer (some ⟨γ1 0, 0, none⟩), .pointer (some ⟨γ1 1, 0, none⟩), zz, .int .i64 0, .string ⟨#[l0, l1, l2, l3]⟩, .int .i64 0, .int .i64 a0, .pointer (some ⟨γ1 0, 0, none⟩), .int .i64 (k : Int), .string ⟨#[l0, l1, l2, l3]⟩, .string ⟨#[l0, l1, l2, l3]⟩, .bool false, .pointer (some ⟨γ1 0, 1, none⟩)]
def check_1_0_l8 (a0 : Int) (b0 : Int) (c0 : Int) (n0 : Int) (l0 : UInt8) (l1 : UInt8) (l2 : UInt8) (l3 : UInt8) (γ1 : Nat → Nat) : List Value := [.int .i64 a0, .pointer (some ⟨γ1 0, 2, none⟩), .int .i64 b0, .pointer (some ⟨γ1 0, 3, none⟩), .int .i64 c0, .pointer (some ⟨γ1 0, 4, none⟩), .int .i64 n0, .agg #[.int .i64 a0, .int .i64 b0, .int .i64 c0, .int .i64 n0], .int .i64 0, .bool true, .int .i64 0, .int .i64 a0, .string ⟨#[l0, l1, l2, l3]⟩, .int .i64 0, .int .u8 ((l0.toNat : Nat) : Int), .int .i64 a0]
def check_1_0_l9 (cd : Int) : List Value := [.agg #[.int .i64 4, .int .i64 0, .int .i64 2, .slice none 0 0], .int .i64 cd, .bool true, .bool false, zz]
def check_1_0_b10 (k : Nat) (a0 : Int) (b0 : Int) (c0 : Int) (n0 : Int) (cd : Int) (l0 : UInt8) (l1 : UInt8) (l2 : UInt8) (l3 : UInt8) (γ1 : Nat → Nat) : List Value := (check_1_0_l7 k a0 b0 c0 n0 cd l0 l1 l2 l3 γ1) ++ ((check_1_0_l8 a0 b0 c0 n0 l0 l1 l2 l3 γ1) ++ ((check_1_0_l9 cd)))
set_option maxHeartbeats 8000000 in
set_option maxRecDepth 100000 in
theorem check_1 {k : Nat} {a0 b0 c0 n0 cd : Int} {l0 l1 l2 l3 : UInt8} (hk : k < 26) (he : (OPL[k]!).2 = ⟨#[l0, l1, l2, l3]⟩) (hl0 : okL ((l0.toNat : Nat) : Int)) (hl1 : okL ((l1.toNat : Nat) : Int)) (hf0 : fitF ((l0.toNat : Nat) : Int) a0 cd = true) (hf1 : fitF ((l1.toNat : Nat) : Int) b0 cd = false) (w : World) : Calls Try.prog 23 #[.agg #[.int .i64 (k : Int), .int .i64 a0, .int .i64 b0, .int .i64 c0, .int .i64 n0], .agg #[.int .i64 4, .int .i64 0, .int .i64 2, .slice none 0 0], .int .i64 cd] w fun e w' => e = .returned (.int .i64 3) ∧ Below w.heap.size w w' := by
  refine enter (args := [.agg #[.int .i64 (k : Int), .int .i64 a0, .int .i64 b0, .int .i64 c0, .int .i64 n0], .agg #[.int .i64 4, .int .i64 0, .int .i64 2, .slice none 0 0], .int .i64 cd]) (fn := Try.f23) rfl (c := bdy Try.f23) (by kernel_rfl) ?_
  refine ck 5 [(1, 1)] [] fun γ1 => ⟨⟨kt (bdy Try.f23) [1, 0, 2] [], (check_1_0_b3 k a0 b0 c0 n0 cd γ1), [(γ1 1, 51, [.int .i64 4, .int .i64 0, .int .i64 2, .slice none 0 0]), (γ1 0, 41, [.int .i64 (k : Int), .int .i64 a0, .int .i64 b0, .int .i64 c0, .int .i64 n0])]⟩, [(1, γ1 0)], [], by kernel_rfl, .nil, ?_⟩
  refine cp (fun W hW => shapeyes hk he W) ?_
  refine ck 13 [(4, 1)] [(2, .bool false)] fun γ2 => ⟨⟨kt (bdy Try.f23) [1, 1, 1, 0, 1, 0] [], (check_1_0_b6 k a0 b0 c0 n0 cd l0 l1 l2 l3 γ1), [(γ1 1, 51, [.int .i64 4, .int .i64 0, .int .i64 2, .slice none 0 0]), (γ1 0, 41, [.int .i64 (k : Int), .int .i64 a0, .int .i64 b0, .int .i64 c0, .int .i64 n0])]⟩, [(4, γ1 0)], [Value.bool (ByteArray.toList (⟨#[l0, l1, l2, l3]⟩) == ByteArray.toList (⟨#[]⟩)) = .bool false], by kernel_rfl, (.cons (seF (by simp)) .nil), ?_⟩
  refine lu 6 (fun I3 hI3 => ?_)
  refine ck 5 [] [] fun γ4 => ⟨⟨ktl [1, 1, 0, 0, 1, 0] (I3 6) (kt (bdy Try.f23) [1, 1, 1, 0, 1, 0] []), upv (check_1_0_b6 k a0 b0 c0 n0 cd l0 l1 l2 l3 γ1) [(8, .int .i64 0), (9, .int .i64 a0), (25, .bool true), (26, .int .i64 0), (27, .int .i64 a0)], [(γ1 1, 51, [.int .i64 4, .int .i64 0, .int .i64 2, .slice none 0 0]), (γ1 0, 41, [.int .i64 (k : Int), .int .i64 a0, .int .i64 b0, .int .i64 c0, .int .i64 n0])]⟩, [], [], by kernel_rfl, .nil, ?_⟩
  refine dr [] [] .nil ?_
  refine df [0, 1, 2, 3, 4, 5] [(4, 0)] [] [(4, γ1 1)] [] .nil ?_
  refine dp 6 (fun W hW => fits_is hl0 hf0 W) ?_
  refine df [7] [] [] [] [] .nil ?_
  refine de (fs := (ktl [1, 1, 0, 0, 1, 0] (I3 6) (kt (bdy Try.f23) [1, 1, 1, 0, 1, 0] [])).tail) ?_
  refine st0 (fs := (ktl [1, 1, 0, 0, 1, 0] (I3 6) (kt (bdy Try.f23) [1, 1, 1, 0, 1, 0] [])).tail) ((check_1_0_b10 k a0 b0 c0 n0 cd l0 l1 l2 l3 γ1)) [(γ1 1, 51, [.int .i64 4, .int .i64 0, .int .i64 2, .slice none 0 0]), (γ1 0, 41, [.int .i64 (k : Int), .int .i64 a0, .int .i64 b0, .int .i64 c0, .int .i64 n0])] ?_
  refine ck 2 [] [] fun γ5 => ⟨⟨ktp (I3 6) (kt (bdy Try.f23) [1, 1, 1, 0, 1, 0] []), upv (check_1_0_b10 k a0 b0 c0 n0 cd l0 l1 l2 l3 γ1) [(24, .int .i64 1), (36, .int .i64 1)], [(γ1 1, 51, [.int .i64 4, .int .i64 0, .int .i64 2, .slice none 0 0]), (γ1 0, 41, [.int .i64 (k : Int), .int .i64 a0, .int .i64 b0, .int .i64 c0, .int .i64 n0])]⟩, [], [], by kernel_rfl, .nil, ?_⟩
  refine lv hI3 5 ?_
  refine ck 5 [] [] fun γ6 => ⟨⟨ktl [1, 1, 0, 0, 1, 0] (I3 5) (kt (bdy Try.f23) [1, 1, 1, 0, 1, 0] []), upv (check_1_0_b10 k a0 b0 c0 n0 cd l0 l1 l2 l3 γ1) [(8, .int .i64 1), (9, .int .i64 b0), (24, .int .i64 1), (26, .int .i64 1), (27, .int .i64 b0), (36, .int .i64 1)], [(γ1 1, 51, [.int .i64 4, .int .i64 0, .int .i64 2, .slice none 0 0]), (γ1 0, 41, [.int .i64 (k : Int), .int .i64 a0, .int .i64 b0, .int .i64 c0, .int .i64 n0])]⟩, [], [], by kernel_rfl, .nil, ?_⟩
  refine dr [] [] .nil ?_
  refine df [0, 1, 2, 3, 4, 5] [(4, 0)] [] [(4, γ1 1)] [] .nil ?_
  refine dp 6 (fun W hW => fits_is hl1 hf1 W) ?_
  refine df [7] [] [] [] [] .nil ?_
  refine de (fs := (ktl [1, 1, 0, 0, 1, 0] (I3 5) (kt (bdy Try.f23) [1, 1, 1, 0, 1, 0] [])).tail) ?_
  refine st0 (fs := (ktl [1, 1, 0, 0, 1, 0] (I3 5) (kt (bdy Try.f23) [1, 1, 1, 0, 1, 0] [])).tail) (upv (check_1_0_b10 k a0 b0 c0 n0 cd l0 l1 l2 l3 γ1) [(8, .int .i64 1), (9, .int .i64 b0), (24, .int .i64 1), (26, .int .i64 1), (27, .int .i64 b0), (29, .int .i64 1), (30, .int .u8 ((l1.toNat : Nat) : Int)), (31, .int .i64 b0), (34, .bool false), (35, .bool true), (36, .int .i64 1)]) [(γ1 1, 51, [.int .i64 4, .int .i64 0, .int .i64 2, .slice none 0 0]), (γ1 0, 41, [.int .i64 (k : Int), .int .i64 a0, .int .i64 b0, .int .i64 c0, .int .i64 n0])] ?_
  refine ck 1 [] [] fun γ7 => ⟨⟨ktl [1, 1, 0, 0, 1, 1, 0, 1] (I3 5) (kt (bdy Try.f23) [1, 1, 1, 0, 1, 0] []), upv (check_1_0_b10 k a0 b0 c0 n0 cd l0 l1 l2 l3 γ1) [(6, .int .i64 3), (8, .int .i64 1), (9, .int .i64 b0), (24, .int .i64 1), (26, .int .i64 1), (27, .int .i64 b0), (29, .int .i64 1), (30, .int .u8 ((l1.toNat : Nat) : Int)), (31, .int .i64 b0), (34, .bool false), (35, .bool true), (36, .int .i64 1)], [(γ1 1, 51, [.int .i64 4, .int .i64 0, .int .i64 2, .slice none 0 0]), (γ1 0, 41, [.int .i64 (k : Int), .int .i64 a0, .int .i64 b0, .int .i64 c0, .int .i64 n0])]⟩, [], [], by kernel_rfl, .nil, ?_⟩
  refine rt (.int .i64 3) [] [] (fun W hW => ?_)
  exact ⟨rfl, (hW.old 0 rfl)⟩
def check_2_0_l0 (k : Nat) (a0 : Int) (b0 : Int) (c0 : Int) (n0 : Int) (cd : Int) (γ1 : Nat → Nat) : List Value := [.agg #[.int .i64 (k : Int), .int .i64 a0, .int .i64 b0, .int .i64 c0, .int .i64 n0], .agg #[.int .i64 4, .int .i64 0, .int .i64 2, .slice none 0 0], .int .i64 cd, .pointer (some ⟨γ1 0, 0, none⟩), .pointer (some ⟨γ1 1, 0, none⟩), zz, .int .i64 0, zz, zz, zz, .pointer (some ⟨γ1 0, 0, none⟩), .int .i64 (k : Int), zz, zz, zz, zz]
def check_2_0_l1 : List Value := [zz, zz, zz, zz, zz, zz, zz, zz, zz, zz, zz, zz, zz, zz, zz, zz]
def check_2_0_l2 : List Value := [zz, zz, zz, zz, zz]
def check_2_0_b3 (k : Nat) (a0 : Int) (b0 : Int) (c0 : Int) (n0 : Int) (cd : Int) (γ1 : Nat → Nat) : List Value := (check_2_0_l0 k a0 b0 c0 n0 cd γ1) ++ (check_2_0_l1 ++ (check_2_0_l2))
def check_2_0_l4 (k : Nat) (a0 : Int) (b0 : Int) (c0 : Int) (n0 : Int) (cd : Int) (l0 : UInt8) (l1 : UInt8) (l2 : UInt8) (l3 : UInt8) (γ1 : Nat → Nat) : List Value := [.agg #[.int .i64 (k : Int), .int .i64 a0, .int .i64 b0, .int .i64 c0, .int .i64 n0], .agg #[.int .i64 4, .int .i64 0, .int .i64 2, .slice none 0 0], .int .i64 cd, .pointer (some ⟨γ1 0, 0, none⟩), .pointer (some ⟨γ1 1, 0, none⟩), zz, .int .i64 0, .string ⟨#[l0, l1, l2, l3]⟩, zz, zz, .pointer (some ⟨γ1 0, 0, none⟩), .int .i64 (k : Int), .string ⟨#[l0, l1, l2, l3]⟩, .string ⟨#[l0, l1, l2, l3]⟩, .bool false, .pointer (some ⟨γ1 0, 1, none⟩)]
def check_2_0_l5 (a0 : Int) (b0 : Int) (c0 : Int) (n0 : Int) (γ1 : Nat → Nat) : List Value := [.int .i64 a0, .pointer (some ⟨γ1 0, 2, none⟩), .int .i64 b0, .pointer (some ⟨γ1 0, 3, none⟩), .int .i64 c0, .pointer (some ⟨γ1 0, 4, none⟩), .int .i64 n0, .agg #[.int .i64 a0, .int .i64 b0, .int .i64 c0, .int .i64 n0], .int .i64 0, zz, zz, zz, zz, zz, zz, zz]
def check_2_0_b6 (k : Nat) (a0 : Int) (b0 : Int) (c0 : Int) (n0 : Int) (cd : Int) (l0 : UInt8) (l1 : UInt8) (l2 : UInt8) (l3 : UInt8) (γ1 : Nat → Nat) : List Value := (check_2_0_l4 k a0 b0 c0 n0 cd l0 l1 l2 l3 γ1) ++ ((check_2_0_l5 a0 b0 c0 n0 γ1) ++ (check_2_0_l2))
def check_2_0_l7 (k : Nat) (a0 : Int) (b0 : Int) (c0 : Int) (n0 : Int) (cd : Int) (l0 : UInt8) (l1 : UInt8) (l2 : UInt8) (l3 : UInt8) (γ1 : Nat → Nat) : List Value := [.agg #[.int .i64 (k : Int), .int .i64 a0, .int .i64 b0, .int .i64 c0, .int .i64 n0], .agg #[.int .i64 4, .int .i64 0, .int .i64 2, .slice none 0 0], .int .i64 cd, .pointer (some ⟨γ1 0, 0, none⟩), .pointer (some ⟨γ1 1, 0, none⟩), zz, .int .i64 0, .string ⟨#[l0, l1, l2, l3]⟩, .int .i64 0, .int .i64 a0, .pointer (some ⟨γ1 0, 0, none⟩), .int .i64 (k : Int), .string ⟨#[l0, l1, l2, l3]⟩, .string ⟨#[l0, l1, l2, l3]⟩, .bool false, .pointer (some ⟨γ1 0, 1, none⟩)]
def check_2_0_l8 (a0 : Int) (b0 : Int) (c0 : Int) (n0 : Int) (l0 : UInt8) (l1 : UInt8) (l2 : UInt8) (l3 : UInt8) (γ1 : Nat → Nat) : List Value := [.int .i64 a0, .pointer (some ⟨γ1 0, 2, none⟩), .int .i64 b0, .pointer (some ⟨γ1 0, 3, none⟩), .int .i64 c0, .pointer (some ⟨γ1 0, 4, none⟩), .int .i64 n0, .agg #[.int .i64 a0, .int .i64 b0, .int .i64 c0, .int .i64 n0], .int .i64 0, .bool true, .int .i64 0, .int .i64 a0, .string ⟨#[l0, l1, l2, l3]⟩, .int .i64 0, .int .u8 ((l0.toNat : Nat) : Int), .int .i64 a0]
def check_2_0_l9 (cd : Int) : List Value := [.agg #[.int .i64 4, .int .i64 0, .int .i64 2, .slice none 0 0], .int .i64 cd, .bool true, .bool false, zz]
def check_2_0_b10 (k : Nat) (a0 : Int) (b0 : Int) (c0 : Int) (n0 : Int) (cd : Int) (l0 : UInt8) (l1 : UInt8) (l2 : UInt8) (l3 : UInt8) (γ1 : Nat → Nat) : List Value := (check_2_0_l7 k a0 b0 c0 n0 cd l0 l1 l2 l3 γ1) ++ ((check_2_0_l8 a0 b0 c0 n0 l0 l1 l2 l3 γ1) ++ ((check_2_0_l9 cd)))
set_option maxHeartbeats 8000000 in
set_option maxRecDepth 100000 in
theorem check_2 {k : Nat} {a0 b0 c0 n0 cd : Int} {l0 l1 l2 l3 : UInt8} (hk : k < 26) (he : (OPL[k]!).2 = ⟨#[l0, l1, l2, l3]⟩) (hl0 : okL ((l0.toNat : Nat) : Int)) (hl1 : okL ((l1.toNat : Nat) : Int)) (hl2 : okL ((l2.toNat : Nat) : Int)) (hf0 : fitF ((l0.toNat : Nat) : Int) a0 cd = true) (hf1 : fitF ((l1.toNat : Nat) : Int) b0 cd = true) (hf2 : fitF ((l2.toNat : Nat) : Int) c0 cd = false) (w : World) : Calls Try.prog 23 #[.agg #[.int .i64 (k : Int), .int .i64 a0, .int .i64 b0, .int .i64 c0, .int .i64 n0], .agg #[.int .i64 4, .int .i64 0, .int .i64 2, .slice none 0 0], .int .i64 cd] w fun e w' => e = .returned (.int .i64 3) ∧ Below w.heap.size w w' := by
  refine enter (args := [.agg #[.int .i64 (k : Int), .int .i64 a0, .int .i64 b0, .int .i64 c0, .int .i64 n0], .agg #[.int .i64 4, .int .i64 0, .int .i64 2, .slice none 0 0], .int .i64 cd]) (fn := Try.f23) rfl (c := bdy Try.f23) (by kernel_rfl) ?_
  refine ck 5 [(1, 1)] [] fun γ1 => ⟨⟨kt (bdy Try.f23) [1, 0, 2] [], (check_2_0_b3 k a0 b0 c0 n0 cd γ1), [(γ1 1, 51, [.int .i64 4, .int .i64 0, .int .i64 2, .slice none 0 0]), (γ1 0, 41, [.int .i64 (k : Int), .int .i64 a0, .int .i64 b0, .int .i64 c0, .int .i64 n0])]⟩, [(1, γ1 0)], [], by kernel_rfl, .nil, ?_⟩
  refine cp (fun W hW => shapeyes hk he W) ?_
  refine ck 13 [(4, 1)] [(2, .bool false)] fun γ2 => ⟨⟨kt (bdy Try.f23) [1, 1, 1, 0, 1, 0] [], (check_2_0_b6 k a0 b0 c0 n0 cd l0 l1 l2 l3 γ1), [(γ1 1, 51, [.int .i64 4, .int .i64 0, .int .i64 2, .slice none 0 0]), (γ1 0, 41, [.int .i64 (k : Int), .int .i64 a0, .int .i64 b0, .int .i64 c0, .int .i64 n0])]⟩, [(4, γ1 0)], [Value.bool (ByteArray.toList (⟨#[l0, l1, l2, l3]⟩) == ByteArray.toList (⟨#[]⟩)) = .bool false], by kernel_rfl, (.cons (seF (by simp)) .nil), ?_⟩
  refine lu 6 (fun I3 hI3 => ?_)
  refine ck 5 [] [] fun γ4 => ⟨⟨ktl [1, 1, 0, 0, 1, 0] (I3 6) (kt (bdy Try.f23) [1, 1, 1, 0, 1, 0] []), upv (check_2_0_b6 k a0 b0 c0 n0 cd l0 l1 l2 l3 γ1) [(8, .int .i64 0), (9, .int .i64 a0), (25, .bool true), (26, .int .i64 0), (27, .int .i64 a0)], [(γ1 1, 51, [.int .i64 4, .int .i64 0, .int .i64 2, .slice none 0 0]), (γ1 0, 41, [.int .i64 (k : Int), .int .i64 a0, .int .i64 b0, .int .i64 c0, .int .i64 n0])]⟩, [], [], by kernel_rfl, .nil, ?_⟩
  refine dr [] [] .nil ?_
  refine df [0, 1, 2, 3, 4, 5] [(4, 0)] [] [(4, γ1 1)] [] .nil ?_
  refine dp 6 (fun W hW => fits_is hl0 hf0 W) ?_
  refine df [7] [] [] [] [] .nil ?_
  refine de (fs := (ktl [1, 1, 0, 0, 1, 0] (I3 6) (kt (bdy Try.f23) [1, 1, 1, 0, 1, 0] [])).tail) ?_
  refine st0 (fs := (ktl [1, 1, 0, 0, 1, 0] (I3 6) (kt (bdy Try.f23) [1, 1, 1, 0, 1, 0] [])).tail) ((check_2_0_b10 k a0 b0 c0 n0 cd l0 l1 l2 l3 γ1)) [(γ1 1, 51, [.int .i64 4, .int .i64 0, .int .i64 2, .slice none 0 0]), (γ1 0, 41, [.int .i64 (k : Int), .int .i64 a0, .int .i64 b0, .int .i64 c0, .int .i64 n0])] ?_
  refine ck 2 [] [] fun γ5 => ⟨⟨ktp (I3 6) (kt (bdy Try.f23) [1, 1, 1, 0, 1, 0] []), upv (check_2_0_b10 k a0 b0 c0 n0 cd l0 l1 l2 l3 γ1) [(24, .int .i64 1), (36, .int .i64 1)], [(γ1 1, 51, [.int .i64 4, .int .i64 0, .int .i64 2, .slice none 0 0]), (γ1 0, 41, [.int .i64 (k : Int), .int .i64 a0, .int .i64 b0, .int .i64 c0, .int .i64 n0])]⟩, [], [], by kernel_rfl, .nil, ?_⟩
  refine lv hI3 5 ?_
  refine ck 5 [] [] fun γ6 => ⟨⟨ktl [1, 1, 0, 0, 1, 0] (I3 5) (kt (bdy Try.f23) [1, 1, 1, 0, 1, 0] []), upv (check_2_0_b10 k a0 b0 c0 n0 cd l0 l1 l2 l3 γ1) [(8, .int .i64 1), (9, .int .i64 b0), (24, .int .i64 1), (26, .int .i64 1), (27, .int .i64 b0), (36, .int .i64 1)], [(γ1 1, 51, [.int .i64 4, .int .i64 0, .int .i64 2, .slice none 0 0]), (γ1 0, 41, [.int .i64 (k : Int), .int .i64 a0, .int .i64 b0, .int .i64 c0, .int .i64 n0])]⟩, [], [], by kernel_rfl, .nil, ?_⟩
  refine dr [] [] .nil ?_
  refine df [0, 1, 2, 3, 4, 5] [(4, 0)] [] [(4, γ1 1)] [] .nil ?_
  refine dp 6 (fun W hW => fits_is hl1 hf1 W) ?_
  refine df [7] [] [] [] [] .nil ?_
  refine de (fs := (ktl [1, 1, 0, 0, 1, 0] (I3 5) (kt (bdy Try.f23) [1, 1, 1, 0, 1, 0] [])).tail) ?_
  refine st0 (fs := (ktl [1, 1, 0, 0, 1, 0] (I3 5) (kt (bdy Try.f23) [1, 1, 1, 0, 1, 0] [])).tail) (upv (check_2_0_b10 k a0 b0 c0 n0 cd l0 l1 l2 l3 γ1) [(8, .int .i64 1), (9, .int .i64 b0), (24, .int .i64 1), (26, .int .i64 1), (27, .int .i64 b0), (29, .int .i64 1), (30, .int .u8 ((l1.toNat : Nat) : Int)), (31, .int .i64 b0), (36, .int .i64 1)]) [(γ1 1, 51, [.int .i64 4, .int .i64 0, .int .i64 2, .slice none 0 0]), (γ1 0, 41, [.int .i64 (k : Int), .int .i64 a0, .int .i64 b0, .int .i64 c0, .int .i64 n0])] ?_
  refine ck 2 [] [] fun γ7 => ⟨⟨ktp (I3 5) (kt (bdy Try.f23) [1, 1, 1, 0, 1, 0] []), upv (check_2_0_b10 k a0 b0 c0 n0 cd l0 l1 l2 l3 γ1) [(8, .int .i64 1), (9, .int .i64 b0), (24, .int .i64 2), (26, .int .i64 1), (27, .int .i64 b0), (29, .int .i64 1), (30, .int .u8 ((l1.toNat : Nat) : Int)), (31, .int .i64 b0), (36, .int .i64 2)], [(γ1 1, 51, [.int .i64 4, .int .i64 0, .int .i64 2, .slice none 0 0]), (γ1 0, 41, [.int .i64 (k : Int), .int .i64 a0, .int .i64 b0, .int .i64 c0, .int .i64 n0])]⟩, [], [], by kernel_rfl, .nil, ?_⟩
  refine lv hI3 4 ?_
  refine ck 5 [] [] fun γ8 => ⟨⟨ktl [1, 1, 0, 0, 1, 0] (I3 4) (kt (bdy Try.f23) [1, 1, 1, 0, 1, 0] []), upv (check_2_0_b10 k a0 b0 c0 n0 cd l0 l1 l2 l3 γ1) [(8, .int .i64 2), (9, .int .i64 c0), (24, .int .i64 2), (26, .int .i64 2), (27, .int .i64 c0), (29, .int .i64 1), (30, .int .u8 ((l1.toNat : Nat) : Int)), (31, .int .i64 b0), (36, .int .i64 2)], [(γ1 1, 51, [.int .i64 4, .int .i64 0, .int .i64 2, .slice none 0 0]), (γ1 0, 41, [.int .i64 (k : Int), .int .i64 a0, .int .i64 b0, .int .i64 c0, .int .i64 n0])]⟩, [], [], by kernel_rfl, .nil, ?_⟩
  refine dr [] [] .nil ?_
  refine df [0, 1, 2, 3, 4, 5] [(4, 0)] [] [(4, γ1 1)] [] .nil ?_
  refine dp 6 (fun W hW => fits_is hl2 hf2 W) ?_
  refine df [7] [] [] [] [] .nil ?_
  refine de (fs := (ktl [1, 1, 0, 0, 1, 0] (I3 4) (kt (bdy Try.f23) [1, 1, 1, 0, 1, 0] [])).tail) ?_
  refine st0 (fs := (ktl [1, 1, 0, 0, 1, 0] (I3 4) (kt (bdy Try.f23) [1, 1, 1, 0, 1, 0] [])).tail) (upv (check_2_0_b10 k a0 b0 c0 n0 cd l0 l1 l2 l3 γ1) [(8, .int .i64 2), (9, .int .i64 c0), (24, .int .i64 2), (26, .int .i64 2), (27, .int .i64 c0), (29, .int .i64 2), (30, .int .u8 ((l2.toNat : Nat) : Int)), (31, .int .i64 c0), (34, .bool false), (35, .bool true), (36, .int .i64 2)]) [(γ1 1, 51, [.int .i64 4, .int .i64 0, .int .i64 2, .slice none 0 0]), (γ1 0, 41, [.int .i64 (k : Int), .int .i64 a0, .int .i64 b0, .int .i64 c0, .int .i64 n0])] ?_
  refine ck 1 [] [] fun γ9 => ⟨⟨ktl [1, 1, 0, 0, 1, 1, 0, 1] (I3 4) (kt (bdy Try.f23) [1, 1, 1, 0, 1, 0] []), upv (check_2_0_b10 k a0 b0 c0 n0 cd l0 l1 l2 l3 γ1) [(6, .int .i64 3), (8, .int .i64 2), (9, .int .i64 c0), (24, .int .i64 2), (26, .int .i64 2), (27, .int .i64 c0), (29, .int .i64 2), (30, .int .u8 ((l2.toNat : Nat) : Int)), (31, .int .i64 c0), (34, .bool false), (35, .bool true), (36, .int .i64 2)], [(γ1 1, 51, [.int .i64 4, .int .i64 0, .int .i64 2, .slice none 0 0]), (γ1 0, 41, [.int .i64 (k : Int), .int .i64 a0, .int .i64 b0, .int .i64 c0, .int .i64 n0])]⟩, [], [], by kernel_rfl, .nil, ?_⟩
  refine rt (.int .i64 3) [] [] (fun W hW => ?_)
  exact ⟨rfl, (hW.old 0 rfl)⟩
def check_3_0_l0 (k : Nat) (a0 : Int) (b0 : Int) (c0 : Int) (n0 : Int) (cd : Int) (γ1 : Nat → Nat) : List Value := [.agg #[.int .i64 (k : Int), .int .i64 a0, .int .i64 b0, .int .i64 c0, .int .i64 n0], .agg #[.int .i64 4, .int .i64 0, .int .i64 2, .slice none 0 0], .int .i64 cd, .pointer (some ⟨γ1 0, 0, none⟩), .pointer (some ⟨γ1 1, 0, none⟩), zz, .int .i64 0, zz, zz, zz, .pointer (some ⟨γ1 0, 0, none⟩), .int .i64 (k : Int), zz, zz, zz, zz]
def check_3_0_l1 : List Value := [zz, zz, zz, zz, zz, zz, zz, zz, zz, zz, zz, zz, zz, zz, zz, zz]
def check_3_0_l2 : List Value := [zz, zz, zz, zz, zz]
def check_3_0_b3 (k : Nat) (a0 : Int) (b0 : Int) (c0 : Int) (n0 : Int) (cd : Int) (γ1 : Nat → Nat) : List Value := (check_3_0_l0 k a0 b0 c0 n0 cd γ1) ++ (check_3_0_l1 ++ (check_3_0_l2))
def check_3_0_l4 (k : Nat) (a0 : Int) (b0 : Int) (c0 : Int) (n0 : Int) (cd : Int) (l0 : UInt8) (l1 : UInt8) (l2 : UInt8) (l3 : UInt8) (γ1 : Nat → Nat) : List Value := [.agg #[.int .i64 (k : Int), .int .i64 a0, .int .i64 b0, .int .i64 c0, .int .i64 n0], .agg #[.int .i64 4, .int .i64 0, .int .i64 2, .slice none 0 0], .int .i64 cd, .pointer (some ⟨γ1 0, 0, none⟩), .pointer (some ⟨γ1 1, 0, none⟩), zz, .int .i64 0, .string ⟨#[l0, l1, l2, l3]⟩, zz, zz, .pointer (some ⟨γ1 0, 0, none⟩), .int .i64 (k : Int), .string ⟨#[l0, l1, l2, l3]⟩, .string ⟨#[l0, l1, l2, l3]⟩, .bool false, .pointer (some ⟨γ1 0, 1, none⟩)]
def check_3_0_l5 (a0 : Int) (b0 : Int) (c0 : Int) (n0 : Int) (γ1 : Nat → Nat) : List Value := [.int .i64 a0, .pointer (some ⟨γ1 0, 2, none⟩), .int .i64 b0, .pointer (some ⟨γ1 0, 3, none⟩), .int .i64 c0, .pointer (some ⟨γ1 0, 4, none⟩), .int .i64 n0, .agg #[.int .i64 a0, .int .i64 b0, .int .i64 c0, .int .i64 n0], .int .i64 0, zz, zz, zz, zz, zz, zz, zz]
def check_3_0_b6 (k : Nat) (a0 : Int) (b0 : Int) (c0 : Int) (n0 : Int) (cd : Int) (l0 : UInt8) (l1 : UInt8) (l2 : UInt8) (l3 : UInt8) (γ1 : Nat → Nat) : List Value := (check_3_0_l4 k a0 b0 c0 n0 cd l0 l1 l2 l3 γ1) ++ ((check_3_0_l5 a0 b0 c0 n0 γ1) ++ (check_3_0_l2))
def check_3_0_l7 (k : Nat) (a0 : Int) (b0 : Int) (c0 : Int) (n0 : Int) (cd : Int) (l0 : UInt8) (l1 : UInt8) (l2 : UInt8) (l3 : UInt8) (γ1 : Nat → Nat) : List Value := [.agg #[.int .i64 (k : Int), .int .i64 a0, .int .i64 b0, .int .i64 c0, .int .i64 n0], .agg #[.int .i64 4, .int .i64 0, .int .i64 2, .slice none 0 0], .int .i64 cd, .pointer (some ⟨γ1 0, 0, none⟩), .pointer (some ⟨γ1 1, 0, none⟩), zz, .int .i64 0, .string ⟨#[l0, l1, l2, l3]⟩, .int .i64 0, .int .i64 a0, .pointer (some ⟨γ1 0, 0, none⟩), .int .i64 (k : Int), .string ⟨#[l0, l1, l2, l3]⟩, .string ⟨#[l0, l1, l2, l3]⟩, .bool false, .pointer (some ⟨γ1 0, 1, none⟩)]
def check_3_0_l8 (a0 : Int) (b0 : Int) (c0 : Int) (n0 : Int) (l0 : UInt8) (l1 : UInt8) (l2 : UInt8) (l3 : UInt8) (γ1 : Nat → Nat) : List Value := [.int .i64 a0, .pointer (some ⟨γ1 0, 2, none⟩), .int .i64 b0, .pointer (some ⟨γ1 0, 3, none⟩), .int .i64 c0, .pointer (some ⟨γ1 0, 4, none⟩), .int .i64 n0, .agg #[.int .i64 a0, .int .i64 b0, .int .i64 c0, .int .i64 n0], .int .i64 0, .bool true, .int .i64 0, .int .i64 a0, .string ⟨#[l0, l1, l2, l3]⟩, .int .i64 0, .int .u8 ((l0.toNat : Nat) : Int), .int .i64 a0]
def check_3_0_l9 (cd : Int) : List Value := [.agg #[.int .i64 4, .int .i64 0, .int .i64 2, .slice none 0 0], .int .i64 cd, .bool true, .bool false, zz]
def check_3_0_b10 (k : Nat) (a0 : Int) (b0 : Int) (c0 : Int) (n0 : Int) (cd : Int) (l0 : UInt8) (l1 : UInt8) (l2 : UInt8) (l3 : UInt8) (γ1 : Nat → Nat) : List Value := (check_3_0_l7 k a0 b0 c0 n0 cd l0 l1 l2 l3 γ1) ++ ((check_3_0_l8 a0 b0 c0 n0 l0 l1 l2 l3 γ1) ++ ((check_3_0_l9 cd)))
set_option maxHeartbeats 8000000 in
set_option maxRecDepth 100000 in
theorem check_3 {k : Nat} {a0 b0 c0 n0 cd : Int} {l0 l1 l2 l3 : UInt8} (hk : k < 26) (he : (OPL[k]!).2 = ⟨#[l0, l1, l2, l3]⟩) (hl0 : okL ((l0.toNat : Nat) : Int)) (hl1 : okL ((l1.toNat : Nat) : Int)) (hl2 : okL ((l2.toNat : Nat) : Int)) (hl3 : okL ((l3.toNat : Nat) : Int)) (hf0 : fitF ((l0.toNat : Nat) : Int) a0 cd = true) (hf1 : fitF ((l1.toNat : Nat) : Int) b0 cd = true) (hf2 : fitF ((l2.toNat : Nat) : Int) c0 cd = true) (hf3 : fitF ((l3.toNat : Nat) : Int) n0 cd = false) (w : World) : Calls Try.prog 23 #[.agg #[.int .i64 (k : Int), .int .i64 a0, .int .i64 b0, .int .i64 c0, .int .i64 n0], .agg #[.int .i64 4, .int .i64 0, .int .i64 2, .slice none 0 0], .int .i64 cd] w fun e w' => e = .returned (.int .i64 3) ∧ Below w.heap.size w w' := by
  refine enter (args := [.agg #[.int .i64 (k : Int), .int .i64 a0, .int .i64 b0, .int .i64 c0, .int .i64 n0], .agg #[.int .i64 4, .int .i64 0, .int .i64 2, .slice none 0 0], .int .i64 cd]) (fn := Try.f23) rfl (c := bdy Try.f23) (by kernel_rfl) ?_
  refine ck 5 [(1, 1)] [] fun γ1 => ⟨⟨kt (bdy Try.f23) [1, 0, 2] [], (check_3_0_b3 k a0 b0 c0 n0 cd γ1), [(γ1 1, 51, [.int .i64 4, .int .i64 0, .int .i64 2, .slice none 0 0]), (γ1 0, 41, [.int .i64 (k : Int), .int .i64 a0, .int .i64 b0, .int .i64 c0, .int .i64 n0])]⟩, [(1, γ1 0)], [], by kernel_rfl, .nil, ?_⟩
  refine cp (fun W hW => shapeyes hk he W) ?_
  refine ck 13 [(4, 1)] [(2, .bool false)] fun γ2 => ⟨⟨kt (bdy Try.f23) [1, 1, 1, 0, 1, 0] [], (check_3_0_b6 k a0 b0 c0 n0 cd l0 l1 l2 l3 γ1), [(γ1 1, 51, [.int .i64 4, .int .i64 0, .int .i64 2, .slice none 0 0]), (γ1 0, 41, [.int .i64 (k : Int), .int .i64 a0, .int .i64 b0, .int .i64 c0, .int .i64 n0])]⟩, [(4, γ1 0)], [Value.bool (ByteArray.toList (⟨#[l0, l1, l2, l3]⟩) == ByteArray.toList (⟨#[]⟩)) = .bool false], by kernel_rfl, (.cons (seF (by simp)) .nil), ?_⟩
  refine lu 6 (fun I3 hI3 => ?_)
  refine ck 5 [] [] fun γ4 => ⟨⟨ktl [1, 1, 0, 0, 1, 0] (I3 6) (kt (bdy Try.f23) [1, 1, 1, 0, 1, 0] []), upv (check_3_0_b6 k a0 b0 c0 n0 cd l0 l1 l2 l3 γ1) [(8, .int .i64 0), (9, .int .i64 a0), (25, .bool true), (26, .int .i64 0), (27, .int .i64 a0)], [(γ1 1, 51, [.int .i64 4, .int .i64 0, .int .i64 2, .slice none 0 0]), (γ1 0, 41, [.int .i64 (k : Int), .int .i64 a0, .int .i64 b0, .int .i64 c0, .int .i64 n0])]⟩, [], [], by kernel_rfl, .nil, ?_⟩
  refine dr [] [] .nil ?_
  refine df [0, 1, 2, 3, 4, 5] [(4, 0)] [] [(4, γ1 1)] [] .nil ?_
  refine dp 6 (fun W hW => fits_is hl0 hf0 W) ?_
  refine df [7] [] [] [] [] .nil ?_
  refine de (fs := (ktl [1, 1, 0, 0, 1, 0] (I3 6) (kt (bdy Try.f23) [1, 1, 1, 0, 1, 0] [])).tail) ?_
  refine st0 (fs := (ktl [1, 1, 0, 0, 1, 0] (I3 6) (kt (bdy Try.f23) [1, 1, 1, 0, 1, 0] [])).tail) ((check_3_0_b10 k a0 b0 c0 n0 cd l0 l1 l2 l3 γ1)) [(γ1 1, 51, [.int .i64 4, .int .i64 0, .int .i64 2, .slice none 0 0]), (γ1 0, 41, [.int .i64 (k : Int), .int .i64 a0, .int .i64 b0, .int .i64 c0, .int .i64 n0])] ?_
  refine ck 2 [] [] fun γ5 => ⟨⟨ktp (I3 6) (kt (bdy Try.f23) [1, 1, 1, 0, 1, 0] []), upv (check_3_0_b10 k a0 b0 c0 n0 cd l0 l1 l2 l3 γ1) [(24, .int .i64 1), (36, .int .i64 1)], [(γ1 1, 51, [.int .i64 4, .int .i64 0, .int .i64 2, .slice none 0 0]), (γ1 0, 41, [.int .i64 (k : Int), .int .i64 a0, .int .i64 b0, .int .i64 c0, .int .i64 n0])]⟩, [], [], by kernel_rfl, .nil, ?_⟩
  refine lv hI3 5 ?_
  refine ck 5 [] [] fun γ6 => ⟨⟨ktl [1, 1, 0, 0, 1, 0] (I3 5) (kt (bdy Try.f23) [1, 1, 1, 0, 1, 0] []), upv (check_3_0_b10 k a0 b0 c0 n0 cd l0 l1 l2 l3 γ1) [(8, .int .i64 1), (9, .int .i64 b0), (24, .int .i64 1), (26, .int .i64 1), (27, .int .i64 b0), (36, .int .i64 1)], [(γ1 1, 51, [.int .i64 4, .int .i64 0, .int .i64 2, .slice none 0 0]), (γ1 0, 41, [.int .i64 (k : Int), .int .i64 a0, .int .i64 b0, .int .i64 c0, .int .i64 n0])]⟩, [], [], by kernel_rfl, .nil, ?_⟩
  refine dr [] [] .nil ?_
  refine df [0, 1, 2, 3, 4, 5] [(4, 0)] [] [(4, γ1 1)] [] .nil ?_
  refine dp 6 (fun W hW => fits_is hl1 hf1 W) ?_
  refine df [7] [] [] [] [] .nil ?_
  refine de (fs := (ktl [1, 1, 0, 0, 1, 0] (I3 5) (kt (bdy Try.f23) [1, 1, 1, 0, 1, 0] [])).tail) ?_
  refine st0 (fs := (ktl [1, 1, 0, 0, 1, 0] (I3 5) (kt (bdy Try.f23) [1, 1, 1, 0, 1, 0] [])).tail) (upv (check_3_0_b10 k a0 b0 c0 n0 cd l0 l1 l2 l3 γ1) [(8, .int .i64 1), (9, .int .i64 b0), (24, .int .i64 1), (26, .int .i64 1), (27, .int .i64 b0), (29, .int .i64 1), (30, .int .u8 ((l1.toNat : Nat) : Int)), (31, .int .i64 b0), (36, .int .i64 1)]) [(γ1 1, 51, [.int .i64 4, .int .i64 0, .int .i64 2, .slice none 0 0]), (γ1 0, 41, [.int .i64 (k : Int), .int .i64 a0, .int .i64 b0, .int .i64 c0, .int .i64 n0])] ?_
  refine ck 2 [] [] fun γ7 => ⟨⟨ktp (I3 5) (kt (bdy Try.f23) [1, 1, 1, 0, 1, 0] []), upv (check_3_0_b10 k a0 b0 c0 n0 cd l0 l1 l2 l3 γ1) [(8, .int .i64 1), (9, .int .i64 b0), (24, .int .i64 2), (26, .int .i64 1), (27, .int .i64 b0), (29, .int .i64 1), (30, .int .u8 ((l1.toNat : Nat) : Int)), (31, .int .i64 b0), (36, .int .i64 2)], [(γ1 1, 51, [.int .i64 4, .int .i64 0, .int .i64 2, .slice none 0 0]), (γ1 0, 41, [.int .i64 (k : Int), .int .i64 a0, .int .i64 b0, .int .i64 c0, .int .i64 n0])]⟩, [], [], by kernel_rfl, .nil, ?_⟩
  refine lv hI3 4 ?_
  refine ck 5 [] [] fun γ8 => ⟨⟨ktl [1, 1, 0, 0, 1, 0] (I3 4) (kt (bdy Try.f23) [1, 1, 1, 0, 1, 0] []), upv (check_3_0_b10 k a0 b0 c0 n0 cd l0 l1 l2 l3 γ1) [(8, .int .i64 2), (9, .int .i64 c0), (24, .int .i64 2), (26, .int .i64 2), (27, .int .i64 c0), (29, .int .i64 1), (30, .int .u8 ((l1.toNat : Nat) : Int)), (31, .int .i64 b0), (36, .int .i64 2)], [(γ1 1, 51, [.int .i64 4, .int .i64 0, .int .i64 2, .slice none 0 0]), (γ1 0, 41, [.int .i64 (k : Int), .int .i64 a0, .int .i64 b0, .int .i64 c0, .int .i64 n0])]⟩, [], [], by kernel_rfl, .nil, ?_⟩
  refine dr [] [] .nil ?_
  refine df [0, 1, 2, 3, 4, 5] [(4, 0)] [] [(4, γ1 1)] [] .nil ?_
  refine dp 6 (fun W hW => fits_is hl2 hf2 W) ?_
  refine df [7] [] [] [] [] .nil ?_
  refine de (fs := (ktl [1, 1, 0, 0, 1, 0] (I3 4) (kt (bdy Try.f23) [1, 1, 1, 0, 1, 0] [])).tail) ?_
  refine st0 (fs := (ktl [1, 1, 0, 0, 1, 0] (I3 4) (kt (bdy Try.f23) [1, 1, 1, 0, 1, 0] [])).tail) (upv (check_3_0_b10 k a0 b0 c0 n0 cd l0 l1 l2 l3 γ1) [(8, .int .i64 2), (9, .int .i64 c0), (24, .int .i64 2), (26, .int .i64 2), (27, .int .i64 c0), (29, .int .i64 2), (30, .int .u8 ((l2.toNat : Nat) : Int)), (31, .int .i64 c0), (36, .int .i64 2)]) [(γ1 1, 51, [.int .i64 4, .int .i64 0, .int .i64 2, .slice none 0 0]), (γ1 0, 41, [.int .i64 (k : Int), .int .i64 a0, .int .i64 b0, .int .i64 c0, .int .i64 n0])] ?_
  refine ck 2 [] [] fun γ9 => ⟨⟨ktp (I3 4) (kt (bdy Try.f23) [1, 1, 1, 0, 1, 0] []), upv (check_3_0_b10 k a0 b0 c0 n0 cd l0 l1 l2 l3 γ1) [(8, .int .i64 2), (9, .int .i64 c0), (24, .int .i64 3), (26, .int .i64 2), (27, .int .i64 c0), (29, .int .i64 2), (30, .int .u8 ((l2.toNat : Nat) : Int)), (31, .int .i64 c0), (36, .int .i64 3)], [(γ1 1, 51, [.int .i64 4, .int .i64 0, .int .i64 2, .slice none 0 0]), (γ1 0, 41, [.int .i64 (k : Int), .int .i64 a0, .int .i64 b0, .int .i64 c0, .int .i64 n0])]⟩, [], [], by kernel_rfl, .nil, ?_⟩
  refine lv hI3 3 ?_
  refine ck 5 [] [] fun γ10 => ⟨⟨ktl [1, 1, 0, 0, 1, 0] (I3 3) (kt (bdy Try.f23) [1, 1, 1, 0, 1, 0] []), upv (check_3_0_b10 k a0 b0 c0 n0 cd l0 l1 l2 l3 γ1) [(8, .int .i64 3), (9, .int .i64 n0), (24, .int .i64 3), (26, .int .i64 3), (27, .int .i64 n0), (29, .int .i64 2), (30, .int .u8 ((l2.toNat : Nat) : Int)), (31, .int .i64 c0), (36, .int .i64 3)], [(γ1 1, 51, [.int .i64 4, .int .i64 0, .int .i64 2, .slice none 0 0]), (γ1 0, 41, [.int .i64 (k : Int), .int .i64 a0, .int .i64 b0, .int .i64 c0, .int .i64 n0])]⟩, [], [], by kernel_rfl, .nil, ?_⟩
  refine dr [] [] .nil ?_
  refine df [0, 1, 2, 3, 4, 5] [(4, 0)] [] [(4, γ1 1)] [] .nil ?_
  refine dp 6 (fun W hW => fits_is hl3 hf3 W) ?_
  refine df [7] [] [] [] [] .nil ?_
  refine de (fs := (ktl [1, 1, 0, 0, 1, 0] (I3 3) (kt (bdy Try.f23) [1, 1, 1, 0, 1, 0] [])).tail) ?_
  refine st0 (fs := (ktl [1, 1, 0, 0, 1, 0] (I3 3) (kt (bdy Try.f23) [1, 1, 1, 0, 1, 0] [])).tail) (upv (check_3_0_b10 k a0 b0 c0 n0 cd l0 l1 l2 l3 γ1) [(8, .int .i64 3), (9, .int .i64 n0), (24, .int .i64 3), (26, .int .i64 3), (27, .int .i64 n0), (29, .int .i64 3), (30, .int .u8 ((l3.toNat : Nat) : Int)), (31, .int .i64 n0), (34, .bool false), (35, .bool true), (36, .int .i64 3)]) [(γ1 1, 51, [.int .i64 4, .int .i64 0, .int .i64 2, .slice none 0 0]), (γ1 0, 41, [.int .i64 (k : Int), .int .i64 a0, .int .i64 b0, .int .i64 c0, .int .i64 n0])] ?_
  refine ck 1 [] [] fun γ11 => ⟨⟨ktl [1, 1, 0, 0, 1, 1, 0, 1] (I3 3) (kt (bdy Try.f23) [1, 1, 1, 0, 1, 0] []), upv (check_3_0_b10 k a0 b0 c0 n0 cd l0 l1 l2 l3 γ1) [(6, .int .i64 3), (8, .int .i64 3), (9, .int .i64 n0), (24, .int .i64 3), (26, .int .i64 3), (27, .int .i64 n0), (29, .int .i64 3), (30, .int .u8 ((l3.toNat : Nat) : Int)), (31, .int .i64 n0), (34, .bool false), (35, .bool true), (36, .int .i64 3)], [(γ1 1, 51, [.int .i64 4, .int .i64 0, .int .i64 2, .slice none 0 0]), (γ1 0, 41, [.int .i64 (k : Int), .int .i64 a0, .int .i64 b0, .int .i64 c0, .int .i64 n0])]⟩, [], [], by kernel_rfl, .nil, ?_⟩
  refine rt (.int .i64 3) [] [] (fun W hW => ?_)
  exact ⟨rfl, (hW.old 0 rfl)⟩
def check_4_0_l0 (k : Nat) (a0 : Int) (b0 : Int) (c0 : Int) (n0 : Int) (cd : Int) (γ1 : Nat → Nat) : List Value := [.agg #[.int .i64 (k : Int), .int .i64 a0, .int .i64 b0, .int .i64 c0, .int .i64 n0], .agg #[.int .i64 4, .int .i64 0, .int .i64 2, .slice none 0 0], .int .i64 cd, .pointer (some ⟨γ1 0, 0, none⟩), .pointer (some ⟨γ1 1, 0, none⟩), zz, .int .i64 0, zz, zz, zz, .pointer (some ⟨γ1 0, 0, none⟩), .int .i64 (k : Int), zz, zz, zz, zz]
def check_4_0_l1 : List Value := [zz, zz, zz, zz, zz, zz, zz, zz, zz, zz, zz, zz, zz, zz, zz, zz]
def check_4_0_l2 : List Value := [zz, zz, zz, zz, zz]
def check_4_0_b3 (k : Nat) (a0 : Int) (b0 : Int) (c0 : Int) (n0 : Int) (cd : Int) (γ1 : Nat → Nat) : List Value := (check_4_0_l0 k a0 b0 c0 n0 cd γ1) ++ (check_4_0_l1 ++ (check_4_0_l2))
def check_4_0_l4 (k : Nat) (a0 : Int) (b0 : Int) (c0 : Int) (n0 : Int) (cd : Int) (l0 : UInt8) (l1 : UInt8) (l2 : UInt8) (l3 : UInt8) (γ1 : Nat → Nat) : List Value := [.agg #[.int .i64 (k : Int), .int .i64 a0, .int .i64 b0, .int .i64 c0, .int .i64 n0], .agg #[.int .i64 4, .int .i64 0, .int .i64 2, .slice none 0 0], .int .i64 cd, .pointer (some ⟨γ1 0, 0, none⟩), .pointer (some ⟨γ1 1, 0, none⟩), zz, .int .i64 0, .string ⟨#[l0, l1, l2, l3]⟩, zz, zz, .pointer (some ⟨γ1 0, 0, none⟩), .int .i64 (k : Int), .string ⟨#[l0, l1, l2, l3]⟩, .string ⟨#[l0, l1, l2, l3]⟩, .bool false, .pointer (some ⟨γ1 0, 1, none⟩)]
def check_4_0_l5 (a0 : Int) (b0 : Int) (c0 : Int) (n0 : Int) (γ1 : Nat → Nat) : List Value := [.int .i64 a0, .pointer (some ⟨γ1 0, 2, none⟩), .int .i64 b0, .pointer (some ⟨γ1 0, 3, none⟩), .int .i64 c0, .pointer (some ⟨γ1 0, 4, none⟩), .int .i64 n0, .agg #[.int .i64 a0, .int .i64 b0, .int .i64 c0, .int .i64 n0], .int .i64 0, zz, zz, zz, zz, zz, zz, zz]
def check_4_0_b6 (k : Nat) (a0 : Int) (b0 : Int) (c0 : Int) (n0 : Int) (cd : Int) (l0 : UInt8) (l1 : UInt8) (l2 : UInt8) (l3 : UInt8) (γ1 : Nat → Nat) : List Value := (check_4_0_l4 k a0 b0 c0 n0 cd l0 l1 l2 l3 γ1) ++ ((check_4_0_l5 a0 b0 c0 n0 γ1) ++ (check_4_0_l2))
def check_4_0_l7 (k : Nat) (a0 : Int) (b0 : Int) (c0 : Int) (n0 : Int) (cd : Int) (l0 : UInt8) (l1 : UInt8) (l2 : UInt8) (l3 : UInt8) (γ1 : Nat → Nat) : List Value := [.agg #[.int .i64 (k : Int), .int .i64 a0, .int .i64 b0, .int .i64 c0, .int .i64 n0], .agg #[.int .i64 4, .int .i64 0, .int .i64 2, .slice none 0 0], .int .i64 cd, .pointer (some ⟨γ1 0, 0, none⟩), .pointer (some ⟨γ1 1, 0, none⟩), zz, .int .i64 0, .string ⟨#[l0, l1, l2, l3]⟩, .int .i64 0, .int .i64 a0, .pointer (some ⟨γ1 0, 0, none⟩), .int .i64 (k : Int), .string ⟨#[l0, l1, l2, l3]⟩, .string ⟨#[l0, l1, l2, l3]⟩, .bool false, .pointer (some ⟨γ1 0, 1, none⟩)]
def check_4_0_l8 (a0 : Int) (b0 : Int) (c0 : Int) (n0 : Int) (l0 : UInt8) (l1 : UInt8) (l2 : UInt8) (l3 : UInt8) (γ1 : Nat → Nat) : List Value := [.int .i64 a0, .pointer (some ⟨γ1 0, 2, none⟩), .int .i64 b0, .pointer (some ⟨γ1 0, 3, none⟩), .int .i64 c0, .pointer (some ⟨γ1 0, 4, none⟩), .int .i64 n0, .agg #[.int .i64 a0, .int .i64 b0, .int .i64 c0, .int .i64 n0], .int .i64 0, .bool true, .int .i64 0, .int .i64 a0, .string ⟨#[l0, l1, l2, l3]⟩, .int .i64 0, .int .u8 ((l0.toNat : Nat) : Int), .int .i64 a0]
def check_4_0_l9 (cd : Int) : List Value := [.agg #[.int .i64 4, .int .i64 0, .int .i64 2, .slice none 0 0], .int .i64 cd, .bool true, .bool false, zz]
def check_4_0_b10 (k : Nat) (a0 : Int) (b0 : Int) (c0 : Int) (n0 : Int) (cd : Int) (l0 : UInt8) (l1 : UInt8) (l2 : UInt8) (l3 : UInt8) (γ1 : Nat → Nat) : List Value := (check_4_0_l7 k a0 b0 c0 n0 cd l0 l1 l2 l3 γ1) ++ ((check_4_0_l8 a0 b0 c0 n0 l0 l1 l2 l3 γ1) ++ ((check_4_0_l9 cd)))
set_option maxHeartbeats 8000000 in
set_option maxRecDepth 100000 in
theorem check_4 {k : Nat} {a0 b0 c0 n0 cd : Int} {l0 l1 l2 l3 : UInt8} (hk : k < 26) (he : (OPL[k]!).2 = ⟨#[l0, l1, l2, l3]⟩) (hl0 : okL ((l0.toNat : Nat) : Int)) (hl1 : okL ((l1.toNat : Nat) : Int)) (hl2 : okL ((l2.toNat : Nat) : Int)) (hl3 : okL ((l3.toNat : Nat) : Int)) (hf0 : fitF ((l0.toNat : Nat) : Int) a0 cd = true) (hf1 : fitF ((l1.toNat : Nat) : Int) b0 cd = true) (hf2 : fitF ((l2.toNat : Nat) : Int) c0 cd = true) (hf3 : fitF ((l3.toNat : Nat) : Int) n0 cd = true) (w : World) : Calls Try.prog 23 #[.agg #[.int .i64 (k : Int), .int .i64 a0, .int .i64 b0, .int .i64 c0, .int .i64 n0], .agg #[.int .i64 4, .int .i64 0, .int .i64 2, .slice none 0 0], .int .i64 cd] w fun e w' => e = .returned (.int .i64 0) ∧ Below w.heap.size w w' := by
  refine enter (args := [.agg #[.int .i64 (k : Int), .int .i64 a0, .int .i64 b0, .int .i64 c0, .int .i64 n0], .agg #[.int .i64 4, .int .i64 0, .int .i64 2, .slice none 0 0], .int .i64 cd]) (fn := Try.f23) rfl (c := bdy Try.f23) (by kernel_rfl) ?_
  refine ck 5 [(1, 1)] [] fun γ1 => ⟨⟨kt (bdy Try.f23) [1, 0, 2] [], (check_4_0_b3 k a0 b0 c0 n0 cd γ1), [(γ1 1, 51, [.int .i64 4, .int .i64 0, .int .i64 2, .slice none 0 0]), (γ1 0, 41, [.int .i64 (k : Int), .int .i64 a0, .int .i64 b0, .int .i64 c0, .int .i64 n0])]⟩, [(1, γ1 0)], [], by kernel_rfl, .nil, ?_⟩
  refine cp (fun W hW => shapeyes hk he W) ?_
  refine ck 13 [(4, 1)] [(2, .bool false)] fun γ2 => ⟨⟨kt (bdy Try.f23) [1, 1, 1, 0, 1, 0] [], (check_4_0_b6 k a0 b0 c0 n0 cd l0 l1 l2 l3 γ1), [(γ1 1, 51, [.int .i64 4, .int .i64 0, .int .i64 2, .slice none 0 0]), (γ1 0, 41, [.int .i64 (k : Int), .int .i64 a0, .int .i64 b0, .int .i64 c0, .int .i64 n0])]⟩, [(4, γ1 0)], [Value.bool (ByteArray.toList (⟨#[l0, l1, l2, l3]⟩) == ByteArray.toList (⟨#[]⟩)) = .bool false], by kernel_rfl, (.cons (seF (by simp)) .nil), ?_⟩
  refine lu 6 (fun I3 hI3 => ?_)
  refine ck 5 [] [] fun γ4 => ⟨⟨ktl [1, 1, 0, 0, 1, 0] (I3 6) (kt (bdy Try.f23) [1, 1, 1, 0, 1, 0] []), upv (check_4_0_b6 k a0 b0 c0 n0 cd l0 l1 l2 l3 γ1) [(8, .int .i64 0), (9, .int .i64 a0), (25, .bool true), (26, .int .i64 0), (27, .int .i64 a0)], [(γ1 1, 51, [.int .i64 4, .int .i64 0, .int .i64 2, .slice none 0 0]), (γ1 0, 41, [.int .i64 (k : Int), .int .i64 a0, .int .i64 b0, .int .i64 c0, .int .i64 n0])]⟩, [], [], by kernel_rfl, .nil, ?_⟩
  refine dr [] [] .nil ?_
  refine df [0, 1, 2, 3, 4, 5] [(4, 0)] [] [(4, γ1 1)] [] .nil ?_
  refine dp 6 (fun W hW => fits_is hl0 hf0 W) ?_
  refine df [7] [] [] [] [] .nil ?_
  refine de (fs := (ktl [1, 1, 0, 0, 1, 0] (I3 6) (kt (bdy Try.f23) [1, 1, 1, 0, 1, 0] [])).tail) ?_
  refine st0 (fs := (ktl [1, 1, 0, 0, 1, 0] (I3 6) (kt (bdy Try.f23) [1, 1, 1, 0, 1, 0] [])).tail) ((check_4_0_b10 k a0 b0 c0 n0 cd l0 l1 l2 l3 γ1)) [(γ1 1, 51, [.int .i64 4, .int .i64 0, .int .i64 2, .slice none 0 0]), (γ1 0, 41, [.int .i64 (k : Int), .int .i64 a0, .int .i64 b0, .int .i64 c0, .int .i64 n0])] ?_
  refine ck 2 [] [] fun γ5 => ⟨⟨ktp (I3 6) (kt (bdy Try.f23) [1, 1, 1, 0, 1, 0] []), upv (check_4_0_b10 k a0 b0 c0 n0 cd l0 l1 l2 l3 γ1) [(24, .int .i64 1), (36, .int .i64 1)], [(γ1 1, 51, [.int .i64 4, .int .i64 0, .int .i64 2, .slice none 0 0]), (γ1 0, 41, [.int .i64 (k : Int), .int .i64 a0, .int .i64 b0, .int .i64 c0, .int .i64 n0])]⟩, [], [], by kernel_rfl, .nil, ?_⟩
  refine lv hI3 5 ?_
  refine ck 5 [] [] fun γ6 => ⟨⟨ktl [1, 1, 0, 0, 1, 0] (I3 5) (kt (bdy Try.f23) [1, 1, 1, 0, 1, 0] []), upv (check_4_0_b10 k a0 b0 c0 n0 cd l0 l1 l2 l3 γ1) [(8, .int .i64 1), (9, .int .i64 b0), (24, .int .i64 1), (26, .int .i64 1), (27, .int .i64 b0), (36, .int .i64 1)], [(γ1 1, 51, [.int .i64 4, .int .i64 0, .int .i64 2, .slice none 0 0]), (γ1 0, 41, [.int .i64 (k : Int), .int .i64 a0, .int .i64 b0, .int .i64 c0, .int .i64 n0])]⟩, [], [], by kernel_rfl, .nil, ?_⟩
  refine dr [] [] .nil ?_
  refine df [0, 1, 2, 3, 4, 5] [(4, 0)] [] [(4, γ1 1)] [] .nil ?_
  refine dp 6 (fun W hW => fits_is hl1 hf1 W) ?_
  refine df [7] [] [] [] [] .nil ?_
  refine de (fs := (ktl [1, 1, 0, 0, 1, 0] (I3 5) (kt (bdy Try.f23) [1, 1, 1, 0, 1, 0] [])).tail) ?_
  refine st0 (fs := (ktl [1, 1, 0, 0, 1, 0] (I3 5) (kt (bdy Try.f23) [1, 1, 1, 0, 1, 0] [])).tail) (upv (check_4_0_b10 k a0 b0 c0 n0 cd l0 l1 l2 l3 γ1) [(8, .int .i64 1), (9, .int .i64 b0), (24, .int .i64 1), (26, .int .i64 1), (27, .int .i64 b0), (29, .int .i64 1), (30, .int .u8 ((l1.toNat : Nat) : Int)), (31, .int .i64 b0), (36, .int .i64 1)]) [(γ1 1, 51, [.int .i64 4, .int .i64 0, .int .i64 2, .slice none 0 0]), (γ1 0, 41, [.int .i64 (k : Int), .int .i64 a0, .int .i64 b0, .int .i64 c0, .int .i64 n0])] ?_
  refine ck 2 [] [] fun γ7 => ⟨⟨ktp (I3 5) (kt (bdy Try.f23) [1, 1, 1, 0, 1, 0] []), upv (check_4_0_b10 k a0 b0 c0 n0 cd l0 l1 l2 l3 γ1) [(8, .int .i64 1), (9, .int .i64 b0), (24, .int .i64 2), (26, .int .i64 1), (27, .int .i64 b0), (29, .int .i64 1), (30, .int .u8 ((l1.toNat : Nat) : Int)), (31, .int .i64 b0), (36, .int .i64 2)], [(γ1 1, 51, [.int .i64 4, .int .i64 0, .int .i64 2, .slice none 0 0]), (γ1 0, 41, [.int .i64 (k : Int), .int .i64 a0, .int .i64 b0, .int .i64 c0, .int .i64 n0])]⟩, [], [], by kernel_rfl, .nil, ?_⟩
  refine lv hI3 4 ?_
  refine ck 5 [] [] fun γ8 => ⟨⟨ktl [1, 1, 0, 0, 1, 0] (I3 4) (kt (bdy Try.f23) [1, 1, 1, 0, 1, 0] []), upv (check_4_0_b10 k a0 b0 c0 n0 cd l0 l1 l2 l3 γ1) [(8, .int .i64 2), (9, .int .i64 c0), (24, .int .i64 2), (26, .int .i64 2), (27, .int .i64 c0), (29, .int .i64 1), (30, .int .u8 ((l1.toNat : Nat) : Int)), (31, .int .i64 b0), (36, .int .i64 2)], [(γ1 1, 51, [.int .i64 4, .int .i64 0, .int .i64 2, .slice none 0 0]), (γ1 0, 41, [.int .i64 (k : Int), .int .i64 a0, .int .i64 b0, .int .i64 c0, .int .i64 n0])]⟩, [], [], by kernel_rfl, .nil, ?_⟩
  refine dr [] [] .nil ?_
  refine df [0, 1, 2, 3, 4, 5] [(4, 0)] [] [(4, γ1 1)] [] .nil ?_
  refine dp 6 (fun W hW => fits_is hl2 hf2 W) ?_
  refine df [7] [] [] [] [] .nil ?_
  refine de (fs := (ktl [1, 1, 0, 0, 1, 0] (I3 4) (kt (bdy Try.f23) [1, 1, 1, 0, 1, 0] [])).tail) ?_
  refine st0 (fs := (ktl [1, 1, 0, 0, 1, 0] (I3 4) (kt (bdy Try.f23) [1, 1, 1, 0, 1, 0] [])).tail) (upv (check_4_0_b10 k a0 b0 c0 n0 cd l0 l1 l2 l3 γ1) [(8, .int .i64 2), (9, .int .i64 c0), (24, .int .i64 2), (26, .int .i64 2), (27, .int .i64 c0), (29, .int .i64 2), (30, .int .u8 ((l2.toNat : Nat) : Int)), (31, .int .i64 c0), (36, .int .i64 2)]) [(γ1 1, 51, [.int .i64 4, .int .i64 0, .int .i64 2, .slice none 0 0]), (γ1 0, 41, [.int .i64 (k : Int), .int .i64 a0, .int .i64 b0, .int .i64 c0, .int .i64 n0])] ?_
  refine ck 2 [] [] fun γ9 => ⟨⟨ktp (I3 4) (kt (bdy Try.f23) [1, 1, 1, 0, 1, 0] []), upv (check_4_0_b10 k a0 b0 c0 n0 cd l0 l1 l2 l3 γ1) [(8, .int .i64 2), (9, .int .i64 c0), (24, .int .i64 3), (26, .int .i64 2), (27, .int .i64 c0), (29, .int .i64 2), (30, .int .u8 ((l2.toNat : Nat) : Int)), (31, .int .i64 c0), (36, .int .i64 3)], [(γ1 1, 51, [.int .i64 4, .int .i64 0, .int .i64 2, .slice none 0 0]), (γ1 0, 41, [.int .i64 (k : Int), .int .i64 a0, .int .i64 b0, .int .i64 c0, .int .i64 n0])]⟩, [], [], by kernel_rfl, .nil, ?_⟩
  refine lv hI3 3 ?_
  refine ck 5 [] [] fun γ10 => ⟨⟨ktl [1, 1, 0, 0, 1, 0] (I3 3) (kt (bdy Try.f23) [1, 1, 1, 0, 1, 0] []), upv (check_4_0_b10 k a0 b0 c0 n0 cd l0 l1 l2 l3 γ1) [(8, .int .i64 3), (9, .int .i64 n0), (24, .int .i64 3), (26, .int .i64 3), (27, .int .i64 n0), (29, .int .i64 2), (30, .int .u8 ((l2.toNat : Nat) : Int)), (31, .int .i64 c0), (36, .int .i64 3)], [(γ1 1, 51, [.int .i64 4, .int .i64 0, .int .i64 2, .slice none 0 0]), (γ1 0, 41, [.int .i64 (k : Int), .int .i64 a0, .int .i64 b0, .int .i64 c0, .int .i64 n0])]⟩, [], [], by kernel_rfl, .nil, ?_⟩
  refine dr [] [] .nil ?_
  refine df [0, 1, 2, 3, 4, 5] [(4, 0)] [] [(4, γ1 1)] [] .nil ?_
  refine dp 6 (fun W hW => fits_is hl3 hf3 W) ?_
  refine df [7] [] [] [] [] .nil ?_
  refine de (fs := (ktl [1, 1, 0, 0, 1, 0] (I3 3) (kt (bdy Try.f23) [1, 1, 1, 0, 1, 0] [])).tail) ?_
  refine st0 (fs := (ktl [1, 1, 0, 0, 1, 0] (I3 3) (kt (bdy Try.f23) [1, 1, 1, 0, 1, 0] [])).tail) (upv (check_4_0_b10 k a0 b0 c0 n0 cd l0 l1 l2 l3 γ1) [(8, .int .i64 3), (9, .int .i64 n0), (24, .int .i64 3), (26, .int .i64 3), (27, .int .i64 n0), (29, .int .i64 3), (30, .int .u8 ((l3.toNat : Nat) : Int)), (31, .int .i64 n0), (36, .int .i64 3)]) [(γ1 1, 51, [.int .i64 4, .int .i64 0, .int .i64 2, .slice none 0 0]), (γ1 0, 41, [.int .i64 (k : Int), .int .i64 a0, .int .i64 b0, .int .i64 c0, .int .i64 n0])] ?_
  refine ck 2 [] [] fun γ11 => ⟨⟨ktp (I3 3) (kt (bdy Try.f23) [1, 1, 1, 0, 1, 0] []), upv (check_4_0_b10 k a0 b0 c0 n0 cd l0 l1 l2 l3 γ1) [(8, .int .i64 3), (9, .int .i64 n0), (24, .int .i64 4), (26, .int .i64 3), (27, .int .i64 n0), (29, .int .i64 3), (30, .int .u8 ((l3.toNat : Nat) : Int)), (31, .int .i64 n0), (36, .int .i64 4)], [(γ1 1, 51, [.int .i64 4, .int .i64 0, .int .i64 2, .slice none 0 0]), (γ1 0, 41, [.int .i64 (k : Int), .int .i64 a0, .int .i64 b0, .int .i64 c0, .int .i64 n0])]⟩, [], [], by kernel_rfl, .nil, ?_⟩
  refine lv hI3 2 ?_
  refine ck 2 [] [] fun γ12 => ⟨⟨kt (bdy Try.f23) [1, 1, 1, 1, 1] [], upv (check_4_0_b10 k a0 b0 c0 n0 cd l0 l1 l2 l3 γ1) [(8, .int .i64 3), (9, .int .i64 n0), (24, .int .i64 4), (25, .bool false), (26, .int .i64 3), (27, .int .i64 n0), (29, .int .i64 3), (30, .int .u8 ((l3.toNat : Nat) : Int)), (31, .int .i64 n0), (36, .int .i64 4)], [(γ1 1, 51, [.int .i64 4, .int .i64 0, .int .i64 2, .slice none 0 0]), (γ1 0, 41, [.int .i64 (k : Int), .int .i64 a0, .int .i64 b0, .int .i64 c0, .int .i64 n0])]⟩, [], [], by kernel_rfl, .nil, ?_⟩
  refine rt (.int .i64 0) [] [] (fun W hW => ?_)
  exact ⟨rfl, (hW.old 0 rfl)⟩
theorem fit_rng {l n cd : Int} (hl : okL l) (h1 : l ≠ 110) (hc : cd < 17) (h : fitF l n cd = true) : 0 ≤ n ∧ n < 256 := by
  unfold fitF mostF at h
  have h2 := of_decide_eq_true h
  rcases h2 with h2 | ⟨h2, h3⟩
  · exact absurd h2 h1
  · refine ⟨h2, ?_⟩
    rcases hl with rfl | rfl | rfl | rfl | rfl | rfl | rfl <;> simp at h3 <;> omega
theorem wrap_be8 {n : Int} (h : -9223372036854775808 ≤ n ∧ n < 9223372036854775808) : IntKind.wrap .i64 (be8 (dg n 7) (dg n 6) (dg n 5) (dg n 4) (dg n 3) (dg n 2) (dg n 1) (dg n 0)) = n := by
  have s0 : sh n 0 = n % 18446744073709551616 := by unfold sh; simp
  have s1 : sh n 0 = 256 * sh n 1 + dg n 0 := by unfold dg sh; simp only [Int.reducePow]; omega
  have s2 : sh n 1 = 256 * sh n 2 + dg n 1 := by unfold dg sh; simp only [Int.reducePow]; omega
  have s3 : sh n 2 = 256 * sh n 3 + dg n 2 := by unfold dg sh; simp only [Int.reducePow]; omega
  have s4 : sh n 3 = 256 * sh n 4 + dg n 3 := by unfold dg sh; simp only [Int.reducePow]; omega
  have s5 : sh n 4 = 256 * sh n 5 + dg n 4 := by unfold dg sh; simp only [Int.reducePow]; omega
  have s6 : sh n 5 = 256 * sh n 6 + dg n 5 := by unfold dg sh; simp only [Int.reducePow]; omega
  have s7 : sh n 6 = 256 * sh n 7 + dg n 6 := by unfold dg sh; simp only [Int.reducePow]; omega
  have s8 : sh n 7 = dg n 7 := by unfold dg sh; simp only [Int.reducePow]; omega
  have e : be8 (dg n 7) (dg n 6) (dg n 5) (dg n 4) (dg n 3) (dg n 2) (dg n 1) (dg n 0) = n % 18446744073709551616 := by
    unfold be8
    omega
  rw [e, wi64]
  split <;> omega
abbrev Back (o0 a0 b0 c0 n0 : Int) : Prop := dg o0 0 = o0 ∧ dg a0 0 = a0 ∧ dg b0 0 = b0 ∧ dg c0 0 = c0 ∧ IntKind.wrap .i64 (be8 (dg n0 7) (dg n0 6) (dg n0 5) (dg n0 4) (dg n0 3) (dg n0 2) (dg n0 1) (dg n0 0)) = n0
theorem check_is {o0 a0 b0 c0 n0 cd : Int} (hn : -9223372036854775808 ≤ n0 ∧ n0 < 9223372036854775808) (hcd : cd < 17) : ∃ x : Int, (x ≠ 0 ∨ (x = 0 ∧ Back o0 a0 b0 c0 n0)) ∧ ∀ w : World, Calls Try.prog 23 #[.agg #[.int .i64 o0, .int .i64 a0, .int .i64 b0, .int .i64 c0, .int .i64 n0], .agg #[.int .i64 4, .int .i64 0, .int .i64 2, .slice none 0 0], .int .i64 cd] w fun e w' => e = .returned (.int .i64 x) ∧ Below w.heap.size w w' := by
  by_cases hk : o0 ≤ 0 ∨ 26 ≤ o0
  · exact ⟨_, .inl (by decide), check_kind o0 a0 b0 c0 n0 hk⟩
  · obtain ⟨k, rfl⟩ := Int.eq_ofNat_of_zero_le (show 0 ≤ o0 by omega)
    have hk26 : k < 26 := by omega
    obtain ⟨l0, l1, l2, l3, he, h0, h1, h2, h3, g0, g1, g2⟩ := shapeL k hk26 (by omega)
    have h0 := okB_spec h0
    have h1 := okB_spec h1
    have h2 := okB_spec h2
    have h3 := okB_spec h3
    cases f0 : fitF ((l0.toNat : Nat) : Int) a0 cd with
    | false => exact ⟨_, .inl (by decide), check_0 hk26 he h0 f0⟩
    | true =>
      cases f1 : fitF ((l1.toNat : Nat) : Int) b0 cd with
      | false => exact ⟨_, .inl (by decide), check_1 hk26 he h0 h1 f0 f1⟩
      | true =>
        cases f2 : fitF ((l2.toNat : Nat) : Int) c0 cd with
        | false => exact ⟨_, .inl (by decide), check_2 hk26 he h0 h1 h2 f0 f1 f2⟩
        | true =>
          cases f3 : fitF ((l3.toNat : Nat) : Int) n0 cd with
          | false => exact ⟨_, .inl (by decide), check_3 hk26 he h0 h1 h2 h3 f0 f1 f2 f3⟩
          | true =>
            refine ⟨_, .inr ⟨rfl, ?_⟩, check_4 hk26 he h0 h1 h2 h3 f0 f1 f2 f3⟩
            exact ⟨dg_byte (by omega), dg_byte (fit_rng h0 (ok110 g0) hcd f0), dg_byte (fit_rng h1 (ok110 g1) hcd f1), dg_byte (fit_rng h2 (ok110 g2) hcd f2), wrap_be8 hn⟩
end Go.Proofs.Ythcmcekjgecnhab.Sr
