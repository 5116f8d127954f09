/- The layer is alive. No condition beside those that each theorem names. -/
import Derived.Test.YthcmcekjgecnhabReA
namespace Go.Proofs.Ythcmcekjgecnhab.Sr
open Go.RowKit Go.Proofs.YthcmcekjgecnhabM.Mach
set_option linter.unusedVariables false
set_option linter.unusedSimpArgs false
theorem eq71 (a0 a1 a2 b0 b1 b2 : Int) (W : World) : (Op.equal 71 (.agg #[.int .i64 a0, .int .i64 a1, .int .i64 a2]) (.agg #[.int .i64 b0, .int .i64 b1, .int .i64 b2])).run Try.prog W = .ok (decide (a0 = b0 ∧ a1 = b1 ∧ a2 = b2)) W := by
  show (Op.equalIn (9998 + 2) 71 _ _).run Try.prog W = _
  by_cases h0 : a0 = b0 <;> by_cases h1 : a1 = b1 <;> by_cases h2 : a2 = b2 <;> go_simp
theorem eq71s (a0 a1 a2 : Int) (W : World) : (Op.equal 71 (.agg #[.int .i64 a0, .int .i64 a1, .int .i64 a2]) (.agg #[.int .i64 a0, .int .i64 a1, .int .i64 a2])).run Try.prog W = .ok true W := by
  rw [eq71, decide_eq_true ⟨rfl, rfl, rfl⟩]
def al_c0 : List Value := [.int .i64 1, .int .i64 1, .int .i64 2, .int .i64 3, .int .i64 0, .int .i64 0, .int .i64 0, .int .i64 0, .int .i64 0, .int .i64 0]
def al_l1 (γ1 : Nat → Nat) : List Value := [.bool false, zz, zz, .agg ⟨al_c0⟩, .slice (some ⟨γ1 2, 0, none⟩) 1 1, zz, zz, zz, zz, zz, zz, zz, zz, zz, zz, zz]
def al_l2 : List Value := [zz, zz, zz, zz, zz, zz, zz, zz, zz, zz, zz, zz, zz, zz, zz]
def al_b3 (γ1 : Nat → Nat) : List Value := (al_l1 γ1) ++ (al_l2)
def al_l4 (γ1 : Nat → Nat) : List Value := [.slice none 0 0, .slice (some ⟨γ1 2, 0, none⟩) 1 1, zz, zz, .slice none 0 0, .slice none 0 0, zz, zz, zz, .slice none 0 0, .slice (some ⟨γ1 2, 0, none⟩) 1 1, zz, zz, zz, zz, zz]
def al_l5 : List Value := [zz, zz, zz, zz, zz, zz, zz, zz, zz, zz, zz, zz, zz, zz, zz, zz]
def al_l6 : List Value := [zz, zz, zz, zz, zz, zz, zz, zz, zz, zz]
def al_b7 (γ1 : Nat → Nat) : List Value := (al_l4 γ1) ++ (al_l5 ++ (al_l6))
def al_l8 (γ1 : Nat → Nat) : List Value := [.slice none 0 0, .slice (some ⟨γ1 2, 0, none⟩) 1 1, zz, zz, .slice none 0 0, zz, zz, zz, .slice (some ⟨γ1 2, 0, none⟩) 1 1, .int .i64 1, zz, zz, zz, zz, zz, zz]
def al_l9 : List Value := [zz, zz, zz, zz, zz, zz]
def al_b10 (γ1 : Nat → Nat) : List Value := (al_l8 γ1) ++ (al_l5 ++ (al_l5 ++ (al_l9)))
def al_l11 : List Value := [.slice none 0 0, zz, .slice none 0 0, .slice none 0 0, .bool true, zz, zz, zz]
def al_l12 (γ1 : Nat → Nat) (g6 : Nat) : List Value := [.slice none 0 0, .slice (some ⟨γ1 2, 0, none⟩) 1 1, zz, zz, .slice none 0 0, .slice (some ⟨g6, 0, none⟩) 1 1, .slice none 0 0, zz, .slice (some ⟨γ1 2, 0, none⟩) 1 1, .int .i64 1, .slice (some ⟨g6, 0, none⟩) 1 1, .slice none 0 0, .slice none 0 0, zz, zz, zz]
def al_b13 (γ1 : Nat → Nat) (g6 : Nat) : List Value := (al_l12 γ1 g6) ++ (al_l5 ++ (al_l5 ++ (al_l9)))
def al_l14 (γ1 : Nat → Nat) (g6 : Nat) : List Value := [.slice none 0 0, .slice (some ⟨γ1 2, 0, none⟩) 1 1, zz, zz, .slice none 0 0, .slice none 0 0, zz, zz, zz, .slice none 0 0, .slice (some ⟨γ1 2, 0, none⟩) 1 1, .slice (some ⟨g6, 0, none⟩) 1 1, .int .i64 1, .int .i64 0, zz, zz]
def al_b15 (γ1 : Nat → Nat) (g6 : Nat) : List Value := (al_l14 γ1 g6) ++ (al_l5 ++ (al_l6))
def al_l16 (γ1 : Nat → Nat) (g6 : Nat) (γ15 : Nat → Nat) : List Value := [.slice none 0 0, .slice (some ⟨γ1 2, 0, none⟩) 1 1, zz, zz, .slice none 0 0, .slice none 0 0, .int .i64 0, .bool false, .pointer (some ⟨γ15 10, 0, none⟩), .slice none 0 0, .slice (some ⟨γ1 2, 0, none⟩) 1 1, .slice (some ⟨g6, 0, none⟩) 1 1, .int .i64 1, .int .i64 0, .bool true, .int .i64 0]
def al_l17 (γ1 : Nat → Nat) (g6 : Nat) (γ15 : Nat → Nat) : List Value := [.pointer (some ⟨g6, 0, none⟩), .bool false, .slice (some ⟨γ1 2, 0, none⟩) 1 1, .int .i64 0, .pointer (some ⟨γ1 2, 0, none⟩), .agg ⟨al_c0⟩, .bool false, .bool true, .bool true, .pointer (some ⟨γ15 10, 0, none⟩), .int .i64 1, .bool true, .bool true, .slice none 0 0, .pointer (some ⟨γ15 10, 2, none⟩), .int .i64 2]
def al_l18 (γ15 : Nat → Nat) : List Value := [.pointer (some ⟨γ15 10, 3, none⟩), .int .i64 3, .agg #[.int .i64 6, .int .i64 2, .int .i64 3], .slice (some ⟨γ15 25, 0, none⟩) 1 1, zz, zz, zz, zz, zz, zz]
def al_b19 (γ1 : Nat → Nat) (g6 : Nat) (γ15 : Nat → Nat) : List Value := (al_l16 γ1 g6 γ15) ++ ((al_l17 γ1 g6 γ15) ++ ((al_l18 γ15)))
def al_c20 : List Value := [.int .i64 6, .int .i64 2, .int .i64 3]
def al_l21 (A16 : Option Addr) (c16 : Nat) : List Value := [.slice A16 1 c16, .func (.func 37) #[] #[], zz, zz, .int .i64 1, .slice A16 1 c16, .int .i64 1, .slice A16 1 c16, .int .i64 1, .int .i64 1, .int .u64 1, zz, zz, zz]
def al_l22 : List Value := [.int .u64 1, zz, .int .i64 0, zz, zz, zz, .int .u64 1, zz]
def al_l23 : List Value := [.int .u64 1, zz, .int .i64 1, .int .u64 1, .bool false, zz, zz, .int .u64 1, .bool false, zz, zz, zz, zz, .int .u64 1, .bool false, zz]
def al_l24 : List Value := [zz, zz, zz, .int .i64 0, .int .u64 1, .int .u8 1, .int .u8 1, .int .i64 1, .int .i64 1]
def al_b25 : List Value := al_l23 ++ (al_l24)
def al_l26 : List Value := [.int .u64 1, zz, .int .i64 1, zz, zz, zz, .int .u64 1, .int .i64 1]
def al_l27 (A16 : Option Addr) (c16 : Nat) : List Value := [.slice A16 1 c16, .func (.func 37) #[] #[], zz, zz, .int .i64 1, .slice A16 1 c16, .int .i64 1, .slice A16 1 c16, .int .i64 1, .int .i64 1, .int .u64 1, .int .i64 1, .func (.func 37) #[] #[], zz]
def al_l28 (A16 : Option Addr) (c16 : Nat) : List Value := [.slice A16 1 c16, .int .i64 0, .int .i64 1, .int .i64 1, .func (.func 37) #[] #[], zz, zz, zz, zz, zz, .bool true, .bool true, zz, zz, zz, zz]
def al_l29 : List Value := [zz, zz, zz, zz]
def al_b30 (A16 : Option Addr) (c16 : Nat) : List Value := (al_l28 A16 c16) ++ (al_l5 ++ (al_l5 ++ (al_l5 ++ (al_l5 ++ (al_l5 ++ (al_l5 ++ (al_l5 ++ (al_l5 ++ (al_l29)))))))))
def al_l31 (A16 : Option Addr) (c16 : Nat) : List Value := [.slice A16 1 c16, .int .i64 0, .int .i64 1, .func (.func 37) #[] #[], zz, zz, zz, zz, .int .i64 1, zz, .int .i64 0, .int .i64 1, zz, zz, zz, zz]
def al_l32 : List Value := [zz, zz, zz, zz, zz]
def al_b33 (A16 : Option Addr) (c16 : Nat) : List Value := (al_l31 A16 c16) ++ (al_l5 ++ (al_l5 ++ (al_l32)))
def al_l34 (γ1 : Nat → Nat) (g6 : Nat) (γ15 : Nat → Nat) (A16 : Option Addr) (c16 : Nat) : List Value := [.slice none 0 0, .slice (some ⟨γ1 2, 0, none⟩) 1 1, zz, zz, .slice none 0 0, .slice A16 1 c16, .int .i64 0, .bool false, .pointer (some ⟨γ15 10, 0, none⟩), .slice none 0 0, .slice (some ⟨γ1 2, 0, none⟩) 1 1, .slice (some ⟨g6, 0, none⟩) 1 1, .int .i64 1, .int .i64 1, .bool false, .int .i64 0]
def al_l35 (γ15 : Nat → Nat) (A16 : Option Addr) (c16 : Nat) : List Value := [.pointer (some ⟨γ15 10, 3, none⟩), .int .i64 3, .agg #[.int .i64 6, .int .i64 2, .int .i64 3], .slice (some ⟨γ15 25, 0, none⟩) 1 1, .slice A16 1 c16, .int .i64 1, .slice A16 1 c16, .tuple #[], .slice A16 1 c16, zz]
def al_b36 (γ1 : Nat → Nat) (g6 : Nat) (γ15 : Nat → Nat) (A16 : Option Addr) (c16 : Nat) : List Value := (al_l34 γ1 g6 γ15 A16 c16) ++ ((al_l17 γ1 g6 γ15) ++ ((al_l35 γ15 A16 c16)))
def al_l37 (A16 : Option Addr) (c16 : Nat) : List Value := [.slice A16 1 c16, zz, .slice A16 1 c16, zz, zz, zz, .slice A16 1 c16, .int .i64 1, .bool true, .slice A16 1 c16, zz, zz, zz, zz, zz, zz]
def al_l38 : List Value := [zz, zz, zz, zz, zz, zz, zz, zz, zz, zz, zz, zz, zz]
def al_b39 (A16 : Option Addr) (c16 : Nat) : List Value := (al_l37 A16 c16) ++ (al_l5 ++ (al_l5 ++ (al_l38)))
def al_l40 (γ1 : Nat → Nat) (g6 : Nat) (γ15 : Nat → Nat) (A16 : Option Addr) (c16 : Nat) : List Value := [.slice none 0 0, .slice (some ⟨γ1 2, 0, none⟩) 1 1, zz, zz, .slice A16 1 c16, .slice A16 1 c16, .int .i64 0, .bool false, .pointer (some ⟨γ15 10, 0, none⟩), .slice none 0 0, .slice (some ⟨γ1 2, 0, none⟩) 1 1, .slice (some ⟨g6, 0, none⟩) 1 1, .int .i64 1, .int .i64 1, .bool false, .int .i64 0]
def al_l41 (γ15 : Nat → Nat) (A16 : Option Addr) (c16 : Nat) : List Value := [.pointer (some ⟨γ15 10, 3, none⟩), .int .i64 3, .agg #[.int .i64 6, .int .i64 2, .int .i64 3], .slice (some ⟨γ15 25, 0, none⟩) 1 1, .slice A16 1 c16, .int .i64 1, .slice A16 1 c16, .tuple #[], .slice A16 1 c16, .slice A16 1 c16]
def al_b42 (γ1 : Nat → Nat) (g6 : Nat) (γ15 : Nat → Nat) (A16 : Option Addr) (c16 : Nat) : List Value := (al_l40 γ1 g6 γ15 A16 c16) ++ ((al_l17 γ1 g6 γ15) ++ ((al_l41 γ15 A16 c16)))
def al_c43 : List Value := [.int .i64 1, .int .i64 1, .int .i64 0, .int .i64 0, .int .i64 0, .int .i64 0, .int .i64 0, .int .i64 0, .int .i64 0, .int .i64 0]
def al_l44 (γ1 : Nat → Nat) (A16 : Option Addr) (c16 : Nat) (γ39 : Nat → Nat) : List Value := [.bool false, .slice A16 1 c16, zz, .agg ⟨al_c0⟩, .slice (some ⟨γ1 2, 0, none⟩) 1 1, .slice A16 1 c16, .agg #[.int .i64 1, .int .i64 1, .int .i64 1], .slice (some ⟨γ39 2, 0, none⟩) 1 1, .agg ⟨al_c43⟩, .slice (some ⟨γ39 4, 0, none⟩) 1 1, zz, zz, zz, zz, zz, zz]
def al_b45 (γ1 : Nat → Nat) (A16 : Option Addr) (c16 : Nat) (γ39 : Nat → Nat) : List Value := (al_l44 γ1 A16 c16 γ39) ++ (al_l2)
def al_c46 : List Value := [.int .i64 1, .int .i64 1, .int .i64 1]
def al_l47 (γ39 : Nat → Nat) : List Value := [.slice (some ⟨γ39 2, 0, none⟩) 1 1, .slice (some ⟨γ39 4, 0, none⟩) 1 1, zz, zz, .slice none 0 0, zz, zz, zz, .slice (some ⟨γ39 4, 0, none⟩) 1 1, .int .i64 1, zz, zz, zz, zz, zz, zz]
def al_b48 (γ39 : Nat → Nat) : List Value := (al_l47 γ39) ++ (al_l5 ++ (al_l5 ++ (al_l9)))
def al_l49 (γ39 : Nat → Nat) (γ45 : Nat → Nat) : List Value := [.slice (some ⟨γ39 2, 0, none⟩) 1 1, zz, .slice none 0 0, .slice (some ⟨γ39 2, 0, none⟩) 1 1, .bool false, .slice (some ⟨γ45 3, 0, none⟩) 0 0, .slice (some ⟨γ39 2, 0, none⟩) 1 1, zz]
def al_l50 (γ39 : Nat → Nat) (g42 : Nat) (A46 : Option Addr) (c46 : Nat) : List Value := [.slice (some ⟨γ39 2, 0, none⟩) 1 1, .slice (some ⟨γ39 4, 0, none⟩) 1 1, zz, zz, .slice none 0 0, .slice (some ⟨g42, 0, none⟩) 1 1, .slice A46 1 c46, zz, .slice (some ⟨γ39 4, 0, none⟩) 1 1, .int .i64 1, .slice (some ⟨g42, 0, none⟩) 1 1, .slice (some ⟨γ39 2, 0, none⟩) 1 1, .slice A46 1 c46, zz, zz, zz]
def al_b51 (γ39 : Nat → Nat) (g42 : Nat) (A46 : Option Addr) (c46 : Nat) : List Value := (al_l50 γ39 g42 A46 c46) ++ (al_l5 ++ (al_l5 ++ (al_l9)))
def al_l52 (γ39 : Nat → Nat) (g42 : Nat) (A46 : Option Addr) (c46 : Nat) (γ52 : Nat → Nat) : List Value := [.slice (some ⟨γ39 2, 0, none⟩) 1 1, .slice (some ⟨γ39 4, 0, none⟩) 1 1, zz, zz, .slice none 0 0, .slice (some ⟨g42, 0, none⟩) 1 1, .slice A46 1 c46, .pointer (some ⟨γ52 0, 0, none⟩), .slice (some ⟨γ39 4, 0, none⟩) 1 1, .int .i64 1, .slice (some ⟨g42, 0, none⟩) 1 1, .slice (some ⟨γ39 2, 0, none⟩) 1 1, .slice A46 1 c46, .slice A46 1 c46, .int .i64 1, .bool true]
def al_l53 (A46 : Option Addr) (c46 : Nat) (g51 : Nat) : List Value := [.slice A46 1 c46, .slice A46 1 c46, .int .i64 1, .int .i64 0, .pointer (some ⟨g51, 0 + 0 * 3, none⟩), .agg #[.int .i64 1, .int .i64 1, .int .i64 1], .slice A46 1 c46, .slice A46 1 c46, .int .i64 1, .int .i64 0, zz, zz, zz, zz, zz, zz]
def al_b54 (γ39 : Nat → Nat) (g42 : Nat) (A46 : Option Addr) (c46 : Nat) (g51 : Nat) (γ52 : Nat → Nat) : List Value := (al_l52 γ39 g42 A46 c46 γ52) ++ ((al_l53 A46 c46 g51) ++ (al_l5 ++ (al_l9)))
def al_l55 (γ39 : Nat → Nat) (γ56 : Nat → Nat) : List Value := [.agg #[.int .i64 1, .int .i64 1, .int .i64 1], .slice (some ⟨γ39 4, 0, none⟩) 1 1, .pointer (some ⟨γ56 0, 0, none⟩), zz, .bool false, zz, .agg #[.int .i64 1, .int .i64 1, .int .i64 1], zz, zz, zz, zz, zz, zz, zz, zz, zz]
def al_b56 (γ39 : Nat → Nat) (γ56 : Nat → Nat) : List Value := (al_l55 γ39 γ56) ++ (al_l5)
def al_l57 (γ58 : Nat → Nat) : List Value := [.agg #[.int .i64 1, .int .i64 1, .int .i64 1], .pointer (some ⟨γ58 0, 0, none⟩), .bool true, .pointer (some ⟨γ58 0, 1, none⟩), .int .i64 1, .bool true]
def al_l58 (γ39 : Nat → Nat) (γ56 : Nat → Nat) (γ59 : Nat → Nat) : List Value := [.agg #[.int .i64 1, .int .i64 1, .int .i64 1], .slice (some ⟨γ39 4, 0, none⟩) 1 1, .pointer (some ⟨γ56 0, 0, none⟩), zz, .bool true, .pointer (some ⟨γ59 14, 0, none⟩), .agg #[.int .i64 1, .int .i64 1, .int .i64 1], .bool true, .bool false, .bool false, .pointer (some ⟨γ56 0, 1, none⟩), .int .i64 1, .slice (some ⟨γ39 4, 0, none⟩) 1 1, .int .i64 1, .bool false, .bool false]
def al_l59 (γ39 : Nat → Nat) (γ56 : Nat → Nat) (γ59 : Nat → Nat) : List Value := [.slice (some ⟨γ39 4, 0, none⟩) 1 1, .pointer (some ⟨γ56 0, 1, none⟩), .int .i64 1, .int .i64 0, .pointer (some ⟨γ39 4, 0, none⟩), .agg ⟨al_c43⟩, .pointer (some ⟨γ59 14, 0, none⟩), .int .i64 1, .bool true, .bool true, .pointer (some ⟨γ59 14, 1, none⟩), .int .i64 1, .pointer (some ⟨γ56 0, 2, none⟩), .int .i64 1, .bool true, .bool true]
def al_b60 (γ39 : Nat → Nat) (γ56 : Nat → Nat) (γ59 : Nat → Nat) : List Value := (al_l58 γ39 γ56 γ59) ++ ((al_l59 γ39 γ56 γ59))
def al_l61 (γ39 : Nat → Nat) (g42 : Nat) (A46 : Option Addr) (c46 : Nat) (γ52 : Nat → Nat) : List Value := [.slice (some ⟨γ39 2, 0, none⟩) 1 1, .slice (some ⟨γ39 4, 0, none⟩) 1 1, zz, zz, .slice none 0 0, .slice (some ⟨g42, 0, none⟩) 1 1, .slice A46 0 c46, .pointer (some ⟨γ52 0, 0, none⟩), .slice (some ⟨γ39 4, 0, none⟩) 1 1, .int .i64 1, .slice (some ⟨g42, 0, none⟩) 1 1, .slice (some ⟨γ39 2, 0, none⟩) 1 1, .slice A46 1 c46, .slice A46 1 c46, .int .i64 1, .bool true]
def al_l62 (γ39 : Nat → Nat) (A46 : Option Addr) (c46 : Nat) (g51 : Nat) : List Value := [.slice A46 1 c46, .slice A46 1 c46, .int .i64 1, .int .i64 0, .pointer (some ⟨g51, 0 + 0 * 3, none⟩), .agg #[.int .i64 1, .int .i64 1, .int .i64 1], .slice A46 1 c46, .slice A46 1 c46, .int .i64 1, .int .i64 0, .slice A46 0 c46, .agg #[.int .i64 1, .int .i64 1, .int .i64 1], .slice (some ⟨γ39 4, 0, none⟩) 1 1, .bool true, .bool false, .bool false]
def al_l63 (γ39 : Nat → Nat) (g42 : Nat) (A46 : Option Addr) (c46 : Nat) (γ52 : Nat → Nat) : List Value := [.slice (some ⟨g42, 0, none⟩) 1 1, .pointer (some ⟨γ52 0, 1, none⟩), .int .i64 1, .int .i64 0, .pointer (some ⟨g42, 0, none⟩), .bool false, .bool false, .slice (some ⟨g42, 0, none⟩) 1 1, .pointer (some ⟨γ52 0, 1, none⟩), .int .i64 1, .int .i64 0, .pointer (some ⟨g42, 0, none⟩), .slice A46 0 c46, .slice (some ⟨γ39 4, 0, none⟩) 1 1, .pointer (some ⟨γ52 0, 1, none⟩), .int .i64 1]
def al_l64 (γ39 : Nat → Nat) : List Value := [.int .i64 0, .pointer (some ⟨γ39 4, 0, none⟩), .pointer (some ⟨γ39 4, 4, none⟩), .slice (some ⟨γ39 4, 4, none⟩) 2 2, zz, zz]
def al_b65 (γ39 : Nat → Nat) (g42 : Nat) (A46 : Option Addr) (c46 : Nat) (g51 : Nat) (γ52 : Nat → Nat) : List Value := (al_l61 γ39 g42 A46 c46 γ52) ++ ((al_l62 γ39 A46 c46 g51) ++ ((al_l63 γ39 g42 A46 c46 γ52) ++ ((al_l64 γ39))))
def al_l66 (γ39 : Nat → Nat) (g42 : Nat) (A46 : Option Addr) (c46 : Nat) (A61 : Option Addr) (c61 : Nat) (γ65 : Nat → Nat) : List Value := [.slice (some ⟨γ39 2, 0, none⟩) 1 1, .slice (some ⟨γ39 4, 0, none⟩) 1 1, zz, zz, .slice none 0 0, .slice (some ⟨g42, 0, none⟩) 1 1, .slice A61 2 c61, .pointer (some ⟨γ65 0, 0, none⟩), .slice (some ⟨γ39 4, 0, none⟩) 1 1, .int .i64 1, .slice (some ⟨g42, 0, none⟩) 1 1, .slice (some ⟨γ39 2, 0, none⟩) 1 1, .slice A46 1 c46, .slice A61 2 c61, .int .i64 2, .bool true]
def al_l67 (γ39 : Nat → Nat) (A46 : Option Addr) (c46 : Nat) (A61 : Option Addr) (c61 : Nat) (g64 : Nat) : List Value := [.slice A61 2 c61, .slice A61 2 c61, .int .i64 2, .int .i64 1, .pointer (some ⟨g64, 0 + 1 * 3, none⟩), .agg #[.int .i64 0, .int .i64 0, .int .i64 0], .slice A61 2 c61, .slice A61 2 c61, .int .i64 2, .int .i64 1, .slice A46 0 c46, .agg #[.int .i64 1, .int .i64 1, .int .i64 1], .slice (some ⟨γ39 4, 0, none⟩) 1 1, .bool true, .bool false, .bool false]
def al_l68 (γ39 : Nat → Nat) (A61 : Option Addr) (c61 : Nat) : List Value := [.int .i64 0, .pointer (some ⟨γ39 4, 0, none⟩), .pointer (some ⟨γ39 4, 4, none⟩), .slice (some ⟨γ39 4, 4, none⟩) 2 2, .slice A61 2 c61, zz]
def al_b69 (γ39 : Nat → Nat) (g42 : Nat) (A46 : Option Addr) (c46 : Nat) (γ52 : Nat → Nat) (A61 : Option Addr) (c61 : Nat) (g64 : Nat) (γ65 : Nat → Nat) : List Value := (al_l66 γ39 g42 A46 c46 A61 c61 γ65) ++ ((al_l67 γ39 A46 c46 A61 c61 g64) ++ ((al_l63 γ39 g42 A46 c46 γ52) ++ ((al_l68 γ39 A61 c61))))
def al_c70 : List Value := [.int .i64 0, .int .i64 0, .int .i64 0]
def al_l71 (γ39 : Nat → Nat) (γ69 : Nat → Nat) : List Value := [.agg #[.int .i64 0, .int .i64 0, .int .i64 0], .slice (some ⟨γ39 4, 0, none⟩) 1 1, .pointer (some ⟨γ69 0, 0, none⟩), zz, .bool false, zz, .agg #[.int .i64 0, .int .i64 0, .int .i64 0], zz, zz, zz, zz, zz, zz, zz, zz, zz]
def al_b72 (γ39 : Nat → Nat) (γ69 : Nat → Nat) : List Value := (al_l71 γ39 γ69) ++ (al_l5)
def al_l73 (γ71 : Nat → Nat) : List Value := [.agg #[.int .i64 0, .int .i64 0, .int .i64 0], .pointer (some ⟨γ71 0, 0, none⟩), .bool false, .pointer (some ⟨γ71 0, 1, none⟩), .int .i64 0, .bool false]
def al_l74 (γ39 : Nat → Nat) (γ69 : Nat → Nat) : List Value := [.agg #[.int .i64 0, .int .i64 0, .int .i64 0], .slice (some ⟨γ39 4, 0, none⟩) 1 1, .pointer (some ⟨γ69 0, 0, none⟩), zz, .bool false, zz, .agg #[.int .i64 0, .int .i64 0, .int .i64 0], .bool false, .bool true, .bool true, zz, zz, zz, zz, zz, .bool true]
def al_b75 (γ39 : Nat → Nat) (γ69 : Nat → Nat) : List Value := (al_l74 γ39 γ69) ++ (al_l5)
def al_l76 (γ39 : Nat → Nat) (g42 : Nat) (A46 : Option Addr) (c46 : Nat) (A61 : Option Addr) (c61 : Nat) (γ65 : Nat → Nat) : List Value := [.slice (some ⟨γ39 2, 0, none⟩) 1 1, .slice (some ⟨γ39 4, 0, none⟩) 1 1, zz, zz, .slice none 0 0, .slice (some ⟨g42, 0, none⟩) 1 1, .slice A61 1 c61, .pointer (some ⟨γ65 0, 0, none⟩), .slice (some ⟨γ39 4, 0, none⟩) 1 1, .int .i64 1, .slice (some ⟨g42, 0, none⟩) 1 1, .slice (some ⟨γ39 2, 0, none⟩) 1 1, .slice A46 1 c46, .slice A61 2 c61, .int .i64 2, .bool true]
def al_l77 (γ39 : Nat → Nat) (A61 : Option Addr) (c61 : Nat) (g64 : Nat) : List Value := [.slice A61 2 c61, .slice A61 2 c61, .int .i64 2, .int .i64 1, .pointer (some ⟨g64, 0 + 1 * 3, none⟩), .agg #[.int .i64 0, .int .i64 0, .int .i64 0], .slice A61 2 c61, .slice A61 2 c61, .int .i64 2, .int .i64 1, .slice A61 1 c61, .agg #[.int .i64 0, .int .i64 0, .int .i64 0], .slice (some ⟨γ39 4, 0, none⟩) 1 1, .bool false, .bool true, .bool true]
def al_l78 (γ39 : Nat → Nat) (g42 : Nat) (A46 : Option Addr) (c46 : Nat) (γ52 : Nat → Nat) : List Value := [zz, zz, zz, zz, zz, zz, .bool true, .slice (some ⟨g42, 0, none⟩) 1 1, .pointer (some ⟨γ52 0, 1, none⟩), .int .i64 1, .int .i64 0, .pointer (some ⟨g42, 0, none⟩), .slice A46 0 c46, .slice (some ⟨γ39 4, 0, none⟩) 1 1, .pointer (some ⟨γ52 0, 1, none⟩), .int .i64 1]
def al_b79 (γ39 : Nat → Nat) (g42 : Nat) (A46 : Option Addr) (c46 : Nat) (γ52 : Nat → Nat) (A61 : Option Addr) (c61 : Nat) (g64 : Nat) (γ65 : Nat → Nat) : List Value := (al_l76 γ39 g42 A46 c46 A61 c61 γ65) ++ ((al_l77 γ39 A61 c61 g64) ++ ((al_l78 γ39 g42 A46 c46 γ52) ++ ((al_l68 γ39 A61 c61))))
def al_l80 (γ39 : Nat → Nat) (g42 : Nat) (A46 : Option Addr) (c46 : Nat) (A61 : Option Addr) (c61 : Nat) (γ77 : Nat → Nat) : List Value := [.slice (some ⟨γ39 2, 0, none⟩) 1 1, .slice (some ⟨γ39 4, 0, none⟩) 1 1, zz, zz, .slice none 0 0, .slice (some ⟨g42, 0, none⟩) 1 1, .slice A61 0 c61, .pointer (some ⟨γ77 0, 0, none⟩), .slice (some ⟨γ39 4, 0, none⟩) 1 1, .int .i64 1, .slice (some ⟨g42, 0, none⟩) 1 1, .slice (some ⟨γ39 2, 0, none⟩) 1 1, .slice A46 1 c46, .slice A61 1 c61, .int .i64 1, .bool true]
def al_l81 (γ39 : Nat → Nat) (A61 : Option Addr) (c61 : Nat) (B75 : Nat) (o76 : Nat) : List Value := [.slice A61 1 c61, .slice A61 1 c61, .int .i64 1, .int .i64 0, .pointer (some ⟨B75, o76 + 0 * 3, none⟩), .agg #[.int .i64 0, .int .i64 0, .int .i64 0], .slice A61 1 c61, .slice A61 1 c61, .int .i64 1, .int .i64 0, .slice A61 0 c61, .agg #[.int .i64 0, .int .i64 0, .int .i64 0], .slice (some ⟨γ39 4, 0, none⟩) 1 1, .bool false, .bool true, .bool true]
def al_b82 (γ39 : Nat → Nat) (g42 : Nat) (A46 : Option Addr) (c46 : Nat) (γ52 : Nat → Nat) (A61 : Option Addr) (c61 : Nat) (B75 : Nat) (o76 : Nat) (γ77 : Nat → Nat) : List Value := (al_l80 γ39 g42 A46 c46 A61 c61 γ77) ++ ((al_l81 γ39 A61 c61 B75 o76) ++ ((al_l78 γ39 g42 A46 c46 γ52) ++ ((al_l68 γ39 A61 c61))))
def al_l83 (γ39 : Nat → Nat) (γ80 : Nat → Nat) : List Value := [.agg #[.int .i64 0, .int .i64 0, .int .i64 0], .slice (some ⟨γ39 4, 0, none⟩) 1 1, .pointer (some ⟨γ80 0, 0, none⟩), zz, .bool false, zz, .agg #[.int .i64 0, .int .i64 0, .int .i64 0], zz, zz, zz, zz, zz, zz, zz, zz, zz]
def al_b84 (γ39 : Nat → Nat) (γ80 : Nat → Nat) : List Value := (al_l83 γ39 γ80) ++ (al_l5)
def al_l85 (γ82 : Nat → Nat) : List Value := [.agg #[.int .i64 0, .int .i64 0, .int .i64 0], .pointer (some ⟨γ82 0, 0, none⟩), .bool false, .pointer (some ⟨γ82 0, 1, none⟩), .int .i64 0, .bool false]
def al_l86 (γ39 : Nat → Nat) (γ80 : Nat → Nat) : List Value := [.agg #[.int .i64 0, .int .i64 0, .int .i64 0], .slice (some ⟨γ39 4, 0, none⟩) 1 1, .pointer (some ⟨γ80 0, 0, none⟩), zz, .bool false, zz, .agg #[.int .i64 0, .int .i64 0, .int .i64 0], .bool false, .bool true, .bool true, zz, zz, zz, zz, zz, .bool true]
def al_b87 (γ39 : Nat → Nat) (γ80 : Nat → Nat) : List Value := (al_l86 γ39 γ80) ++ (al_l5)
def al_l88 (γ1 : Nat → Nat) (A16 : Option Addr) (c16 : Nat) (γ39 : Nat → Nat) (g42 : Nat) : List Value := [.bool false, .slice A16 1 c16, .slice (some ⟨g42, 0, none⟩) 1 1, .agg ⟨al_c0⟩, .slice (some ⟨γ1 2, 0, none⟩) 1 1, .slice A16 1 c16, .agg #[.int .i64 1, .int .i64 1, .int .i64 1], .slice (some ⟨γ39 2, 0, none⟩) 1 1, .agg ⟨al_c43⟩, .slice (some ⟨γ39 4, 0, none⟩) 1 1, .slice (some ⟨g42, 0, none⟩) 1 1, .slice A16 1 c16, .int .i64 1, .bool true, .bool true, .slice A16 1 c16]
def al_b89 (γ1 : Nat → Nat) (A16 : Option Addr) (c16 : Nat) (γ39 : Nat → Nat) (g42 : Nat) : List Value := (al_l88 γ1 A16 c16 γ39 g42) ++ (al_l2)
def al_l90 (γ1 : Nat → Nat) (A16 : Option Addr) (c16 : Nat) (γ39 : Nat → Nat) (g42 : Nat) : List Value := [.bool true, .slice A16 1 c16, .slice (some ⟨g42, 0, none⟩) 1 1, .agg ⟨al_c0⟩, .slice (some ⟨γ1 2, 0, none⟩) 1 1, .slice A16 1 c16, .agg #[.int .i64 1, .int .i64 1, .int .i64 1], .slice (some ⟨γ39 2, 0, none⟩) 1 1, .agg ⟨al_c43⟩, .slice (some ⟨γ39 4, 0, none⟩) 1 1, .slice (some ⟨g42, 0, none⟩) 1 1, .slice A16 1 c16, .int .i64 1, .bool true, .bool true, .slice A16 1 c16]
def al_l91 (g42 : Nat) (g87 : Nat) : List Value := [.pointer (some ⟨g87, 0 + 0 * 3, none⟩), .agg #[.int .i64 6, .int .i64 2, .int .i64 3], .agg #[.int .i64 6, .int .i64 2, .int .i64 3], .bool true, .bool true, .bool true, .slice (some ⟨g42, 0, none⟩) 1 1, .int .i64 1, .bool true, .bool true, .bool true, .slice (some ⟨g42, 0, none⟩) 1 1, .pointer (some ⟨g42, 0, none⟩), .bool true, .bool true]
def al_b92 (γ1 : Nat → Nat) (A16 : Option Addr) (c16 : Nat) (γ39 : Nat → Nat) (g42 : Nat) (g87 : Nat) : List Value := (al_l90 γ1 A16 c16 γ39 g42) ++ ((al_l91 g42 g87))
set_option maxHeartbeats 8000000 in
set_option maxRecDepth 100000 in
theorem alive_is (w : World) : Calls Try.prog 9 #[] w fun e w' => e = .returned (.bool true) ∧ Below w.heap.size w w' := by
  refine enter (args := []) (fn := Try.f9) rfl (c := bdy Try.f9) (by kernel_rfl) ?_
  refine ck 3 [] [] fun γ1 => ⟨⟨kt (bdy Try.f9) [1, 0, 2] [], (al_b3 γ1), [(γ1 2, 38, al_c0)]⟩, [], [], by kernel_rfl, .nil, ?_⟩
  refine ci (f := 16) (args := [.slice none 0 0, .slice (some ⟨γ1 2, 0, none⟩) 1 1]) (fn := Try.f16) (c := bdy Try.f16) rfl (fun R2 hR2 => ?_)
  refine ck 4 [] [] fun γ3 => ⟨⟨kt (bdy Try.f16) [1, 1, 0, 0, 2] [], (al_b7 γ1), [(γ1 2, 38, al_c0)]⟩, [], [], by kernel_rfl, .nil, ?_⟩
  refine ci (f := 13) (args := [.slice none 0 0, .slice (some ⟨γ1 2, 0, none⟩) 1 1]) (fn := Try.f13) (c := bdy Try.f13) rfl (fun R4 hR4 => ?_)
  refine ck 3 [] [] fun γ5 => ⟨⟨kt (bdy Try.f13) [1, 0, 2] [], (al_b10 γ1), [(γ1 2, 38, al_c0)]⟩, [], [], by kernel_rfl, .nil, ?_⟩
  refine mks (kl := .i64) (kc := .i64) (t := 28) (e := 4) (bytes := 1) (sz := 1) (z := [.bool false]) (x := 1) (y := 1) 1 rfl rfl (by decide) (by decide) ([.bool false]) (by kernel_rfl) (fun g6 => ?_)
  refine ck 2 [] [] fun γ7 => ⟨⟨kt (bdy Try.f13) [1, 1, 0, 1] [], upv (al_b10 γ1) [(5, .slice (some ⟨g6, 0, none⟩) 1 1), (10, .slice (some ⟨g6, 0, none⟩) 1 1), (11, .slice none 0 0)], [(g6, 4, [.bool false]), (γ1 2, 38, al_c0)]⟩, [], [], by kernel_rfl, .nil, ?_⟩
  refine ci (f := 33) (args := [.slice none 0 0]) (fn := Try.f33) (c := bdy Try.f33) rfl (fun R8 hR8 => ?_)
  refine ck 4 [] [] fun γ9 => ⟨⟨kt (bdy Try.f33) [1, 0, 1, 0, 1] [], al_l11, [(g6, 4, [.bool false]), (γ1 2, 38, al_c0)]⟩, [], [], by kernel_rfl, .nil, ?_⟩
  refine crm hR8 (.slice none 0 0) [] [] [true, true] ?_
  refine ck 1 [] [] fun γ10 => ⟨⟨kt (bdy Try.f13) [1, 1, 1, 0, 0] [], (al_b13 γ1 g6), [(g6, 4, [.bool false]), (γ1 2, 38, al_c0)]⟩, [], [], by kernel_rfl, .nil, ?_⟩
  refine lu 8 (fun I11 hI11 => ?_)
  refine ck 5 [] [] fun γ12 => ⟨⟨kt (bdy Try.f13) [1, 1, 1, 1, 1] [], upv (al_b13 γ1 g6) [(4, .slice (some ⟨g6, 0, none⟩) 1 1), (13, .slice none 0 0), (14, .int .i64 0), (15, .bool false), (53, .slice (some ⟨g6, 0, none⟩) 1 1)], [(g6, 4, [.bool false]), (γ1 2, 38, al_c0)]⟩, [], [], by kernel_rfl, .nil, ?_⟩
  refine crm hR4 (.slice (some ⟨g6, 0, none⟩) 1 1) [] [] [true, true] ?_
  refine ck 2 [] [] fun γ13 => ⟨⟨kt (bdy Try.f16) [1, 1, 0, 1, 0] [], (al_b15 γ1 g6), [(g6, 4, [.bool false]), (γ1 2, 38, al_c0)]⟩, [], [], by kernel_rfl, .nil, ?_⟩
  refine lu 8 (fun I14 hI14 => ?_)
  refine ck 26 [(1, 0), (10, 1), (13, 0)] [] fun γ15 => ⟨⟨ktl [1, 1, 0, 0, 1, 1, 1, 0, 7] (I14 8) (kt (bdy Try.f16) [1, 1, 0, 1, 0] []), (al_b19 γ1 g6 γ15), [(γ15 25, 71, al_c20), (γ15 10, 38, al_c0), (g6, 4, [.bool false]), (γ1 2, 38, al_c0)]⟩, [(1, g6), (10, γ1 2), (13, γ15 10)], [(0 : Int) ≤ 0 ∧ 0 < ((1 : Nat) : Int), (0 : Int) ≤ 0 ∧ 0 < ((1 : Nat) : Int)], by kernel_rfl, (.cons ⟨by omega, by omega⟩ (.cons ⟨by omega, by omega⟩ .nil)), ?_⟩
  refine nilrow 71 3 ?_
  refine ap (m := 1) (c := 1) (g := (γ15 25)) (T := 71) (cs := [.int .i64 6, .int .i64 2, .int .i64 3]) 0 0 24 rfl (by first | omega | (simp only [List.length_append, List.length_cons, List.length_nil]; omega)) (by simp only [maxLen]; first | omega | (simp only [List.length_append, List.length_cons, List.length_nil]; omega)) (([(6, 2, 3)] : List (Int × Int × Int)).length) (([(6, 2, 3)] : List (Int × Int × Int)).flatMap encT71) (by simp) (by simp [encT71]) fun A16 c16 => ?_
  refine ck 3 [] [] fun γ17 => ⟨⟨ktp (I14 8) (kt (bdy Try.f16) [1, 1, 0, 1, 0] []), upv (al_b19 γ1 g6 γ15) [(5, .slice A16 1 c16), (13, .int .i64 1), (36, .slice A16 1 c16), (37, .int .i64 1)], [(γ15 25, 71, al_c20), (γ15 10, 38, al_c0), (g6, 4, [.bool false]), (γ1 2, 38, al_c0)]⟩, [], [], by kernel_rfl, .nil, ?_⟩
  refine lv hI14 7 ?_
  refine ck 2 [] [] fun γ18 => ⟨⟨kt (bdy Try.f16) [1, 1, 1, 0, 1] [], upv (al_b19 γ1 g6 γ15) [(5, .slice A16 1 c16), (13, .int .i64 1), (14, .bool false), (36, .slice A16 1 c16), (37, .int .i64 1), (38, .slice A16 1 c16)], [(γ15 25, 71, al_c20), (γ15 10, 38, al_c0), (g6, 4, [.bool false]), (γ1 2, 38, al_c0)]⟩, [], [], by kernel_rfl, .nil, ?_⟩
  refine ci (f := 36) (args := [.slice A16 1 c16, .func (.func 37) #[] #[]]) (fn := Try.f36) (c := bdy Try.f36) rfl (fun R19 hR19 => ?_)
  refine ck 7 [] [] fun γ20 => ⟨⟨kt (bdy Try.f36) [1, 4] [], (al_l21 A16 c16), [(γ15 25, 71, al_c20), (γ15 10, 38, al_c0), (g6, 4, [.bool false]), (γ1 2, 38, al_c0)]⟩, [], [], by kernel_rfl, .nil, ?_⟩
  refine ci (f := 68) (args := [.int .u64 1]) (fn := Try.f68) (c := bdy Try.f68) rfl (fun R21 hR21 => ?_)
  refine ck 2 [] [] fun γ22 => ⟨⟨kt (bdy Try.f68) [1, 1, 0, 1] [], al_l22, [(γ15 25, 71, al_c20), (γ15 10, 38, al_c0), (g6, 4, [.bool false]), (γ1 2, 38, al_c0)]⟩, [], [], by kernel_rfl, .nil, ?_⟩
  refine ci (f := 95) (args := [.int .u64 1]) (fn := Try.f95) (c := bdy Try.f95) rfl (fun R23 hR23 => ?_)
  refine ck 14 [] [] fun γ24 => ⟨⟨kt (bdy Try.f95) [1, 1, 1, 1, 1] [], al_b25, [(γ15 25, 71, al_c20), (γ15 10, 38, al_c0), (g6, 4, [.bool false]), (γ1 2, 38, al_c0)]⟩, [], [], by kernel_rfl, .nil, ?_⟩
  refine crm hR23 (.int .i64 1) [] [] [false, false, false, true] ?_
  refine ck 1 [] [] fun γ25 => ⟨⟨kt (bdy Try.f68) [1, 1, 1] [], al_l26, [(γ1 2, 38, al_c0)]⟩, [], [], by kernel_rfl, .nil, ?_⟩
  refine crm hR21 (.int .i64 1) [] [] [true] ?_
  refine ck 1 [] [] fun γ26 => ⟨⟨kt (bdy Try.f36) [1, 6] [], (al_l27 A16 c16), [(γ1 2, 38, al_c0)]⟩, [], [], by kernel_rfl, .nil, ?_⟩
  refine ci (f := 67) (args := [.slice A16 1 c16, .int .i64 0, .int .i64 1, .int .i64 1, .func (.func 37) #[] #[]]) (fn := Try.f67) (c := bdy Try.f67) rfl (fun R27 hR27 => ?_)
  refine ck 2 [] [] fun γ28 => ⟨⟨kt (bdy Try.f67) [1, 1, 0] [], (al_b30 A16 c16), [(γ1 2, 38, al_c0)]⟩, [], [], by kernel_rfl, .nil, ?_⟩
  refine lu 8 (fun I29 hI29 => ?_)
  refine ck 10 [] [] fun γ30 => ⟨⟨ktl [0, 1, 0, 1, 0, 0, 4] (I29 8) (kt (bdy Try.f67) [1, 1, 0] []), upv (al_b30 A16 c16) [(12, .int .i64 1), (21, .int .i64 1), (22, .int .i64 0), (23, .int .i64 1), (24, .int .i64 1), (25, .bool true), (26, .slice A16 1 c16), (27, .int .i64 0), (28, .int .i64 1), (29, .func (.func 37) #[] #[])], [(γ1 2, 38, al_c0)]⟩, [], [], by kernel_rfl, .nil, ?_⟩
  refine ci (f := 86) (args := [.slice A16 1 c16, .int .i64 0, .int .i64 1, .func (.func 37) #[] #[]]) (fn := Try.f86) (c := bdy Try.f86) rfl (fun R31 hR31 => ?_)
  refine ck 3 [] [] fun γ32 => ⟨⟨kt (bdy Try.f86) [1, 0] [], (al_b33 A16 c16), [(γ1 2, 38, al_c0)]⟩, [], [], by kernel_rfl, .nil, ?_⟩
  refine lu 8 (fun I33 hI33 => ?_)
  refine ck 3 [] [] fun γ34 => ⟨⟨[], upv (al_b33 A16 c16) [(12, .int .i64 1), (13, .int .i64 1), (14, .bool false)], [(γ1 2, 38, al_c0)]⟩, [], [], by kernel_rfl, .nil, ?_⟩
  refine crm hR31 (.tuple #[]) [] [] [true] ?_
  refine crm hR27 (.tuple #[]) [] [] [true] ?_
  refine crm hR19 (.tuple #[]) [] [] [true] ?_
  refine ck 1 [] [] fun γ35 => ⟨⟨kt (bdy Try.f16) [1, 1, 1, 1, 0, 1] [], (al_b36 γ1 g6 γ15 A16 c16), [(γ1 2, 38, al_c0)]⟩, [], [], by kernel_rfl, .nil, ?_⟩
  refine ci (f := 40) (args := [.slice A16 1 c16]) (fn := Try.f40) (c := bdy Try.f40) rfl (fun R36 hR36 => ?_)
  refine ck 6 [] [] fun γ37 => ⟨⟨kt (bdy Try.f40) [1, 0, 1, 0, 1] [], (al_b39 A16 c16), [(γ1 2, 38, al_c0)]⟩, [], [], by kernel_rfl, .nil, ?_⟩
  refine crm hR36 (.slice A16 1 c16) [] [] [true] ?_
  refine ck 1 [] [] fun γ38 => ⟨⟨kt (bdy Try.f16) [1, 1, 1, 1, 1] [], (al_b42 γ1 g6 γ15 A16 c16), [(γ1 2, 38, al_c0)]⟩, [], [], by kernel_rfl, .nil, ?_⟩
  refine crm hR2 (.slice A16 1 c16) [] [] [true] ?_
  refine ck 5 [] [] fun γ39 => ⟨⟨kt (bdy Try.f9) [1, 1, 0, 4] [], (al_b45 γ1 A16 c16 γ39), [(γ39 4, 38, al_c43), (γ39 2, 35, al_c46), (γ1 2, 38, al_c0)]⟩, [], [], by kernel_rfl, .nil, ?_⟩
  refine ci (f := 13) (args := [.slice (some ⟨γ39 2, 0, none⟩) 1 1, .slice (some ⟨γ39 4, 0, none⟩) 1 1]) (fn := Try.f13) (c := bdy Try.f13) rfl (fun R40 hR40 => ?_)
  refine ck 3 [] [] fun γ41 => ⟨⟨kt (bdy Try.f13) [1, 0, 2] [], (al_b48 γ39), [(γ39 4, 38, al_c43), (γ39 2, 35, al_c46), (γ1 2, 38, al_c0)]⟩, [], [], by kernel_rfl, .nil, ?_⟩
  refine mks (kl := .i64) (kc := .i64) (t := 28) (e := 4) (bytes := 1) (sz := 1) (z := [.bool false]) (x := 1) (y := 1) 1 rfl rfl (by decide) (by decide) ([.bool false]) (by kernel_rfl) (fun g42 => ?_)
  refine ck 2 [] [] fun γ43 => ⟨⟨kt (bdy Try.f13) [1, 1, 0, 1] [], upv (al_b48 γ39) [(5, .slice (some ⟨g42, 0, none⟩) 1 1), (10, .slice (some ⟨g42, 0, none⟩) 1 1), (11, .slice (some ⟨γ39 2, 0, none⟩) 1 1)], [(g42, 4, [.bool false]), (γ39 4, 38, al_c43), (γ39 2, 35, al_c46), (γ1 2, 38, al_c0)]⟩, [], [], by kernel_rfl, .nil, ?_⟩
  refine ci (f := 33) (args := [.slice (some ⟨γ39 2, 0, none⟩) 1 1]) (fn := Try.f33) (c := bdy Try.f33) rfl (fun R44 hR44 => ?_)
  refine ck 5 [] [] fun γ45 => ⟨⟨kt (bdy Try.f33) [1, 1, 0, 2] [], (al_l49 γ39 γ45), [(γ45 3, 35, []), (g42, 4, [.bool false]), (γ39 4, 38, al_c43), (γ39 2, 35, al_c46), (γ1 2, 38, al_c0)]⟩, [], [], by kernel_rfl, .nil, ?_⟩
  refine zrow 35 3 (some ⟨γ45 3, 0, none⟩) ?_
  refine ap (m := 1) (c := 1) (g := (γ39 2)) (T := 35) (cs := [.int .i64 1, .int .i64 1, .int .i64 1]) 0 3 24 rfl (by first | omega | (simp only [List.length_append, List.length_cons, List.length_nil]; omega)) (by simp only [maxLen]; first | omega | (simp only [List.length_append, List.length_cons, List.length_nil]; omega)) (([(1, 1, 1)] : List (Int × Int × Int)).length) (([(1, 1, 1)] : List (Int × Int × Int)).flatMap encT35) (by simp) (by simp [encT35]) fun A46 c46 => ?_
  refine ck 1 [] [] fun γ47 => ⟨⟨kt (bdy Try.f33) [1, 1, 1] [], upv (al_l49 γ39 γ45) [(2, .slice A46 1 c46), (7, .slice A46 1 c46)], [(γ45 3, 35, []), (g42, 4, [.bool false]), (γ39 4, 38, al_c43), (γ39 2, 35, al_c46), (γ1 2, 38, al_c0)]⟩, [], [], by kernel_rfl, .nil, ?_⟩
  refine crm hR44 (.slice A46 1 c46) [] [] [false, true, true, true, true] ?_
  refine ck 1 [] [] fun γ48 => ⟨⟨kt (bdy Try.f13) [1, 1, 1, 0, 0] [], (al_b51 γ39 g42 A46 c46), [(g42, 4, [.bool false]), (γ39 4, 38, al_c43), (γ39 2, 35, al_c46), (γ1 2, 38, al_c0)]⟩, [], [], by kernel_rfl, .nil, ?_⟩
  refine lu 8 (fun I49 hI49 => ?_)
  refine ck 7 [] [] fun γ50 => ⟨⟨ktl [1, 0, 0, 4] (I49 8) (kt (bdy Try.f13) [1, 1, 1, 0, 0] []), upv (al_b51 γ39 g42 A46 c46) [(13, .slice A46 1 c46), (14, .int .i64 1), (15, .bool true), (16, .slice A46 1 c46), (17, .slice A46 1 c46), (18, .int .i64 1), (19, .int .i64 0)], [(g42, 4, [.bool false]), (γ39 4, 38, al_c43), (γ39 2, 35, al_c46), (γ1 2, 38, al_c0)]⟩, [], [], by kernel_rfl, .nil, ?_⟩
  refine ixo 0 (n := 1) (c := c46) (A := A46) (xs := ([(1, 1, 1)] : List (Int × Int × Int)).flatMap encT35) rfl 0 (by first | omega | simp) (fun g51 hg51 => ?_)
  refine ldr (n := 3) (row := true) [.int .i64 1, .int .i64 1, .int .i64 1] (fun W hW => ((Rd.atE (own_rd encT35_len (hW.at 0 rfl)) hg51 (by first | omega | (simp only [List.length_set]; omega) | simp))).ld (i := 0) (by first | omega | simp) 0 [.int .i64 1, .int .i64 1, .int .i64 1] rfl) ?_
  refine ck 6 [(3, 0)] [] fun γ52 => ⟨⟨ktl [1, 0, 1, 0, 4] (I49 8) (kt (bdy Try.f13) [1, 1, 1, 0, 0] []), (al_b54 γ39 g42 A46 c46 g51 γ52), [(γ52 0, 35, al_c46), (g42, 4, [.bool false]), (γ39 4, 38, al_c43), (γ39 2, 35, al_c46), (γ1 2, 38, al_c0)]⟩, [(3, γ52 0)], [], by kernel_rfl, .nil, ?_⟩
  refine shp 0 rfl fun A' c' e' hc' hz' hl' => ?_
  cases e'
  have hcp53 : 1 ≤ c46 := hc'
  clear hl' hz'
  refine sl0 (A := A46) (n := 1) (c := c46) (sz := 3) (some (.int .i64 0)) none 0 c46 rfl rfl rfl (by omega) (by omega) ?_ none rfl
  refine ck 3 [(3, 0)] [] fun γ54 => ⟨⟨ktl [1, 0, 1, 1, 0, 0, 2] (I49 8) (kt (bdy Try.f13) [1, 1, 1, 0, 0] []), upv (al_b54 γ39 g42 A46 c46 g51 γ52) [(6, .slice A46 0 c46), (26, .slice A46 0 c46), (27, .agg #[.int .i64 1, .int .i64 1, .int .i64 1]), (28, .slice (some ⟨γ39 4, 0, none⟩) 1 1)], [(γ52 0, 35, al_c46), (g42, 4, [.bool false]), (γ39 4, 38, al_c43), (γ39 2, 35, al_c46), (γ1 2, 38, al_c0)]⟩, [(3, γ52 0)], [], by kernel_rfl, .nil, ?_⟩
  refine ci (f := 34) (args := [.agg #[.int .i64 1, .int .i64 1, .int .i64 1], .slice (some ⟨γ39 4, 0, none⟩) 1 1]) (fn := Try.f34) (c := bdy Try.f34) rfl (fun R55 hR55 => ?_)
  refine ck 3 [(3, 0)] [] fun γ56 => ⟨⟨kt (bdy Try.f34) [1, 0, 0, 1] [], (al_b56 γ39 γ56), [(γ56 0, 35, al_c46), (γ52 0, 35, al_c46), (g42, 4, [.bool false]), (γ39 4, 38, al_c43), (γ39 2, 35, al_c46), (γ1 2, 38, al_c0)]⟩, [(3, γ56 0)], [], by kernel_rfl, .nil, ?_⟩
  refine ci (f := 65) (args := [.agg #[.int .i64 1, .int .i64 1, .int .i64 1]]) (fn := Try.f65) (c := bdy Try.f65) rfl (fun R57 hR57 => ?_)
  refine ck 6 [(1, 0)] [] fun γ58 => ⟨⟨kt (bdy Try.f65) [1, 1] [], (al_l57 γ58), [(γ58 0, 35, al_c46), (γ56 0, 35, al_c46), (γ52 0, 35, al_c46), (g42, 4, [.bool false]), (γ39 4, 38, al_c43), (γ39 2, 35, al_c46), (γ1 2, 38, al_c0)]⟩, [(1, γ58 0)], [], by kernel_rfl, .nil, ?_⟩
  refine crm hR57 (.bool true) [] [] [false, true, true, true, true, true, true] ?_
  refine ck 27 [(2, 0), (10, 3), (12, 0), (1, 1)] [] fun γ59 => ⟨⟨kt (bdy Try.f34) [1, 1, 1, 1] [], (al_b60 γ39 γ56 γ59), [(γ59 14, 38, al_c43), (γ56 0, 35, al_c46), (γ52 0, 35, al_c46), (g42, 4, [.bool false]), (γ39 4, 38, al_c43), (γ39 2, 35, al_c46), (γ1 2, 38, al_c0)]⟩, [(2, γ56 0), (10, γ39 4), (12, γ59 14), (1, γ56 0)], [(0 : Int) ≤ 0 ∧ 0 < ((1 : Nat) : Int)], by kernel_rfl, (.cons ⟨by omega, by omega⟩ .nil), ?_⟩
  refine crm hR55 (.bool true) [] [] [false, false, true, true, true, true, true] ?_
  refine ck 23 [(1, 0), (1, 1), (1, 0), (1, 1), (1, 0)] [] fun γ60 => ⟨⟨ktl [1, 0, 1, 1, 1, 1, 8] (I49 8) (kt (bdy Try.f13) [1, 1, 1, 0, 0] []), (al_b65 γ39 g42 A46 c46 g51 γ52), [(γ52 0, 35, al_c46), (g42, 4, [.bool true]), (γ39 4, 38, al_c43), (γ39 2, 35, al_c46), (γ1 2, 38, al_c0)]⟩, [(1, γ52 0), (1, g42), (1, γ52 0), (1, g42), (1, γ52 0)], [(0 : Int) ≤ 0 ∧ 0 < ((1 : Nat) : Int), (0 : Int) ≤ 0 ∧ 0 < ((1 : Nat) : Int), (0 : Int) ≤ 0 ∧ 0 < ((1 : Nat) : Int)], by kernel_rfl, (.cons ⟨by omega, by omega⟩ (.cons ⟨by omega, by omega⟩ (.cons ⟨by omega, by omega⟩ .nil))), ?_⟩
  refine rsh 0 (n := 1) (c := c46) (A := A46) (xs := ([(1, 1, 1)] : List (Int × Int × Int)).flatMap encT35) rfl 0 (by decide) (([] : List (Int × Int × Int)).flatMap encT35) (by rfl) ?_
  refine apo (m := 2) (c := 2) (g := (γ39 4)) (off := 4) (T := 38) (cs0 := al_c43) 0 2 24 rfl (by first | omega | (simp only [List.length_append, List.length_cons, List.length_nil]; omega)) (by simp only [maxLen]; first | omega | (simp only [List.length_append, List.length_cons, List.length_nil]; omega)) [.int .i64 0, .int .i64 0, .int .i64 0, .int .i64 0, .int .i64 0, .int .i64 0] (by rfl) (([(0, 0, 0), (0, 0, 0)] : List (Int × Int × Int)).length) (([(0, 0, 0), (0, 0, 0)] : List (Int × Int × Int)).flatMap encT35) (by simp) (by simp [encT35]) fun A61 c61 => ?_
  refine ck 1 [] [] fun γ62 => ⟨⟨ktp (I49 8) (kt (bdy Try.f13) [1, 1, 1, 0, 0] []), upv (al_b65 γ39 g42 A46 c46 g51 γ52) [(6, .slice A61 2 c61), (52, .slice A61 2 c61)], [(γ52 0, 35, al_c46), (g42, 4, [.bool true]), (γ39 4, 38, al_c43), (γ39 2, 35, al_c46), (γ1 2, 38, al_c0)]⟩, [], [], by kernel_rfl, .nil, ?_⟩
  refine lv hI49 7 ?_
  refine ck 7 [] [] fun γ63 => ⟨⟨ktl [1, 0, 0, 4] (I49 7) (kt (bdy Try.f13) [1, 1, 1, 0, 0] []), upv (al_b65 γ39 g42 A46 c46 g51 γ52) [(6, .slice A61 2 c61), (13, .slice A61 2 c61), (14, .int .i64 2), (16, .slice A61 2 c61), (17, .slice A61 2 c61), (18, .int .i64 2), (19, .int .i64 1), (52, .slice A61 2 c61)], [(γ52 0, 35, al_c46), (g42, 4, [.bool true]), (γ39 4, 38, al_c43), (γ39 2, 35, al_c46), (γ1 2, 38, al_c0)]⟩, [], [], by kernel_rfl, .nil, ?_⟩
  refine ixo 0 (n := 2) (c := c61) (A := A61) (xs := ([(0, 0, 0), (0, 0, 0)] : List (Int × Int × Int)).flatMap encT35) rfl 1 (by first | omega | simp) (fun g64 hg64 => ?_)
  refine ldr (n := 3) (row := true) [.int .i64 0, .int .i64 0, .int .i64 0] (fun W hW => ((Rd.atE (own_rd encT35_len (hW.at 0 rfl)) hg64 (by first | omega | (simp only [List.length_set]; omega) | simp))).ld (i := 1) (by first | omega | simp) 0 [.int .i64 0, .int .i64 0, .int .i64 0] rfl) ?_
  refine ck 6 [(3, 0)] [] fun γ65 => ⟨⟨ktl [1, 0, 1, 0, 4] (I49 7) (kt (bdy Try.f13) [1, 1, 1, 0, 0] []), (al_b69 γ39 g42 A46 c46 γ52 A61 c61 g64 γ65), [(γ65 0, 35, al_c70), (γ52 0, 35, al_c46), (g42, 4, [.bool true]), (γ39 4, 38, al_c43), (γ39 2, 35, al_c46), (γ1 2, 38, al_c0)]⟩, [(3, γ65 0)], [], by kernel_rfl, .nil, ?_⟩
  refine shp 0 rfl fun A' c' e' hc' hz' hl' => ?_
  cases e'
  have hcp66 : 2 ≤ c61 := hc'
  clear hl' hz'
  refine sl0 (A := A61) (n := 2) (c := c61) (sz := 3) (some (.int .i64 1)) none 1 c61 rfl rfl rfl (by omega) (by omega) ?_ none rfl
  refine ck 3 [(3, 0)] [] fun γ67 => ⟨⟨ktl [1, 0, 1, 1, 0, 0, 2] (I49 7) (kt (bdy Try.f13) [1, 1, 1, 0, 0] []), upv (al_b69 γ39 g42 A46 c46 γ52 A61 c61 g64 γ65) [(6, .slice A61 1 c61), (26, .slice A61 1 c61), (27, .agg #[.int .i64 0, .int .i64 0, .int .i64 0])], [(γ65 0, 35, al_c70), (γ52 0, 35, al_c46), (g42, 4, [.bool true]), (γ39 4, 38, al_c43), (γ39 2, 35, al_c46), (γ1 2, 38, al_c0)]⟩, [(3, γ65 0)], [], by kernel_rfl, .nil, ?_⟩
  refine ci (f := 34) (args := [.agg #[.int .i64 0, .int .i64 0, .int .i64 0], .slice (some ⟨γ39 4, 0, none⟩) 1 1]) (fn := Try.f34) (c := bdy Try.f34) rfl (fun R68 hR68 => ?_)
  refine ck 3 [(3, 0)] [] fun γ69 => ⟨⟨kt (bdy Try.f34) [1, 0, 0, 1] [], (al_b72 γ39 γ69), [(γ69 0, 35, al_c70), (γ65 0, 35, al_c70), (γ52 0, 35, al_c46), (g42, 4, [.bool true]), (γ39 4, 38, al_c43), (γ39 2, 35, al_c46), (γ1 2, 38, al_c0)]⟩, [(3, γ69 0)], [], by kernel_rfl, .nil, ?_⟩
  refine ci (f := 65) (args := [.agg #[.int .i64 0, .int .i64 0, .int .i64 0]]) (fn := Try.f65) (c := bdy Try.f65) rfl (fun R70 hR70 => ?_)
  refine ck 6 [(1, 0)] [] fun γ71 => ⟨⟨kt (bdy Try.f65) [1, 1] [], (al_l73 γ71), [(γ71 0, 35, al_c70), (γ69 0, 35, al_c70), (γ65 0, 35, al_c70), (γ52 0, 35, al_c46), (g42, 4, [.bool true]), (γ39 4, 38, al_c43), (γ39 2, 35, al_c46), (γ1 2, 38, al_c0)]⟩, [(1, γ71 0)], [], by kernel_rfl, .nil, ?_⟩
  refine crm hR70 (.bool false) [] [] [false, true, true, true, true, true, true, true] ?_
  refine ck 9 [] [] fun γ72 => ⟨⟨kt (bdy Try.f34) [1, 0, 1, 0, 1] [], (al_b75 γ39 γ69), [(γ69 0, 35, al_c70), (γ65 0, 35, al_c70), (γ52 0, 35, al_c46), (g42, 4, [.bool true]), (γ39 4, 38, al_c43), (γ39 2, 35, al_c46), (γ1 2, 38, al_c0)]⟩, [], [], by kernel_rfl, .nil, ?_⟩
  refine crm hR68 (.bool false) [] [] [false, true, true, true, true, true, true] ?_
  refine ck 9 [] [] fun γ73 => ⟨⟨ktp (I49 7) (kt (bdy Try.f13) [1, 1, 1, 0, 0] []), (al_b79 γ39 g42 A46 c46 γ52 A61 c61 g64 γ65), [(γ65 0, 35, al_c70), (γ52 0, 35, al_c46), (g42, 4, [.bool true]), (γ39 4, 38, al_c43), (γ39 2, 35, al_c46), (γ1 2, 38, al_c0)]⟩, [], [], by kernel_rfl, .nil, ?_⟩
  refine lv hI49 6 ?_
  refine ck 7 [] [] fun γ74 => ⟨⟨ktl [1, 0, 0, 4] (I49 6) (kt (bdy Try.f13) [1, 1, 1, 0, 0] []), upv (al_b79 γ39 g42 A46 c46 γ52 A61 c61 g64 γ65) [(13, .slice A61 1 c61), (14, .int .i64 1), (16, .slice A61 1 c61), (17, .slice A61 1 c61), (18, .int .i64 1), (19, .int .i64 0)], [(γ65 0, 35, al_c70), (γ52 0, 35, al_c46), (g42, 4, [.bool true]), (γ39 4, 38, al_c43), (γ39 2, 35, al_c46), (γ1 2, 38, al_c0)]⟩, [], [], by kernel_rfl, .nil, ?_⟩
  refine ixs (fun W hW => (Rd.take (b := 1) (own_rd encT35_len (hW.at 0 rfl)) (by decide))) 0 (by first | omega | decide) (fun B75 o76 hB75 => ?_)
  refine ldr (n := 3) (row := true) [.int .i64 0, .int .i64 0, .int .i64 0] (fun W hW => ((Rd.atE (Rd.take (b := 1) (own_rd encT35_len (hW.at 0 rfl)) (by decide)) hB75 (by first | omega | simp))).ld (i := 0) (by first | omega | simp) 0 [.int .i64 0, .int .i64 0, .int .i64 0] rfl) ?_
  refine ck 6 [(3, 0)] [] fun γ77 => ⟨⟨ktl [1, 0, 1, 0, 4] (I49 6) (kt (bdy Try.f13) [1, 1, 1, 0, 0] []), upv (al_b79 γ39 g42 A46 c46 γ52 A61 c61 g64 γ65) [(7, .pointer (some ⟨γ77 0, 0, none⟩)), (13, .slice A61 1 c61), (14, .int .i64 1), (16, .slice A61 1 c61), (17, .slice A61 1 c61), (18, .int .i64 1), (19, .int .i64 0), (20, .pointer (some ⟨B75, o76 + 0 * 3, none⟩)), (22, .slice A61 1 c61), (23, .slice A61 1 c61), (24, .int .i64 1), (25, .int .i64 0)], [(γ77 0, 35, al_c70), (γ65 0, 35, al_c70), (γ52 0, 35, al_c46), (g42, 4, [.bool true]), (γ39 4, 38, al_c43), (γ39 2, 35, al_c46), (γ1 2, 38, al_c0)]⟩, [(3, γ77 0)], [], by kernel_rfl, .nil, ?_⟩
  refine sl0 (A := A61) (n := 1) (c := c61) (sz := 3) (some (.int .i64 0)) none 0 c61 rfl rfl rfl (by omega) (by omega) ?_ none rfl
  refine ck 3 [(3, 0)] [] fun γ78 => ⟨⟨ktl [1, 0, 1, 1, 0, 0, 2] (I49 6) (kt (bdy Try.f13) [1, 1, 1, 0, 0] []), (al_b82 γ39 g42 A46 c46 γ52 A61 c61 B75 o76 γ77), [(γ77 0, 35, al_c70), (γ65 0, 35, al_c70), (γ52 0, 35, al_c46), (g42, 4, [.bool true]), (γ39 4, 38, al_c43), (γ39 2, 35, al_c46), (γ1 2, 38, al_c0)]⟩, [(3, γ77 0)], [], by kernel_rfl, .nil, ?_⟩
  refine ci (f := 34) (args := [.agg #[.int .i64 0, .int .i64 0, .int .i64 0], .slice (some ⟨γ39 4, 0, none⟩) 1 1]) (fn := Try.f34) (c := bdy Try.f34) rfl (fun R79 hR79 => ?_)
  refine ck 3 [(3, 0)] [] fun γ80 => ⟨⟨kt (bdy Try.f34) [1, 0, 0, 1] [], (al_b84 γ39 γ80), [(γ80 0, 35, al_c70), (γ77 0, 35, al_c70), (γ65 0, 35, al_c70), (γ52 0, 35, al_c46), (g42, 4, [.bool true]), (γ39 4, 38, al_c43), (γ39 2, 35, al_c46), (γ1 2, 38, al_c0)]⟩, [(3, γ80 0)], [], by kernel_rfl, .nil, ?_⟩
  refine ci (f := 65) (args := [.agg #[.int .i64 0, .int .i64 0, .int .i64 0]]) (fn := Try.f65) (c := bdy Try.f65) rfl (fun R81 hR81 => ?_)
  refine ck 6 [(1, 0)] [] fun γ82 => ⟨⟨kt (bdy Try.f65) [1, 1] [], (al_l85 γ82), [(γ82 0, 35, al_c70), (γ80 0, 35, al_c70), (γ77 0, 35, al_c70), (γ65 0, 35, al_c70), (γ52 0, 35, al_c46), (g42, 4, [.bool true]), (γ39 4, 38, al_c43), (γ39 2, 35, al_c46), (γ1 2, 38, al_c0)]⟩, [(1, γ82 0)], [], by kernel_rfl, .nil, ?_⟩
  refine crm hR81 (.bool false) [] [] [false, true, true, false, true, true, true, true, true] ?_
  refine ck 9 [] [] fun γ83 => ⟨⟨kt (bdy Try.f34) [1, 0, 1, 0, 1] [], (al_b87 γ39 γ80), [(γ80 0, 35, al_c70), (γ77 0, 35, al_c70), (γ52 0, 35, al_c46), (g42, 4, [.bool true]), (γ39 4, 38, al_c43), (γ39 2, 35, al_c46), (γ1 2, 38, al_c0)]⟩, [], [], by kernel_rfl, .nil, ?_⟩
  refine crm hR79 (.bool false) [] [] [false, true, true, true, true, true, true] ?_
  refine ck 9 [] [] fun γ84 => ⟨⟨ktp (I49 6) (kt (bdy Try.f13) [1, 1, 1, 0, 0] []), (al_b82 γ39 g42 A46 c46 γ52 A61 c61 B75 o76 γ77), [(γ77 0, 35, al_c70), (γ52 0, 35, al_c46), (g42, 4, [.bool true]), (γ39 4, 38, al_c43), (γ39 2, 35, al_c46), (γ1 2, 38, al_c0)]⟩, [], [], by kernel_rfl, .nil, ?_⟩
  refine lv hI49 5 ?_
  refine ck 5 [] [] fun γ85 => ⟨⟨kt (bdy Try.f13) [1, 1, 1, 1, 1] [], upv (al_b82 γ39 g42 A46 c46 γ52 A61 c61 B75 o76 γ77) [(4, .slice (some ⟨g42, 0, none⟩) 1 1), (13, .slice A61 0 c61), (14, .int .i64 0), (15, .bool false), (53, .slice (some ⟨g42, 0, none⟩) 1 1)], [(γ77 0, 35, al_c70), (γ52 0, 35, al_c46), (g42, 4, [.bool true]), (γ39 4, 38, al_c43), (γ39 2, 35, al_c46), (γ1 2, 38, al_c0)]⟩, [], [], by kernel_rfl, .nil, ?_⟩
  refine crm hR40 (.slice (some ⟨g42, 0, none⟩) 1 1) [] [] [false, false, true, true, true, true] ?_
  refine ck 6 [] [] fun γ86 => ⟨⟨kt (bdy Try.f9) [1, 1, 1, 0, 5] [], (al_b89 γ1 A16 c16 γ39 g42), [(g42, 4, [.bool true]), (γ39 4, 38, al_c43), (γ39 2, 35, al_c46), (γ1 2, 38, al_c0)]⟩, [], [], by kernel_rfl, .nil, ?_⟩
  refine ixo 1 (n := 1) (c := c16) (A := A16) (xs := ([(6, 2, 3)] : List (Int × Int × Int)).flatMap encT71) rfl 0 (by first | omega | simp) (fun g87 hg87 => ?_)
  refine ldr (n := 3) (row := true) [.int .i64 6, .int .i64 2, .int .i64 3] (fun W hW => ((Rd.atE (own_rd encT71_len (hW.at 1 rfl)) hg87 (by first | omega | (simp only [List.length_set]; omega) | simp))).ld (i := 0) (by first | omega | simp) 0 [.int .i64 6, .int .i64 2, .int .i64 3] rfl) ?_
  refine ck 1 [] [] fun γ88 => ⟨⟨kt (bdy Try.f9) [1, 1, 1, 0, 8] [], upv (al_b89 γ1 A16 c16 γ39 g42) [(16, .pointer (some ⟨g87, 0 + 0 * 3, none⟩)), (17, .agg #[.int .i64 6, .int .i64 2, .int .i64 3]), (18, .agg #[.int .i64 6, .int .i64 2, .int .i64 3])], [(g42, 4, [.bool true]), (γ39 4, 38, al_c43), (γ39 2, 35, al_c46), (γ1 2, 38, al_c0)]⟩, [], [], by kernel_rfl, .nil, ?_⟩
  refine eqr (pos := true) (r := true) true (fun W => eq71s 6 2 3 W) rfl ?_
  refine ck 12 [(1, 0)] [] fun γ89 => ⟨⟨kt (bdy Try.f9) [1, 1, 1, 1] [], (al_b92 γ1 A16 c16 γ39 g42 g87), [(g42, 4, [.bool true]), (γ39 4, 38, al_c43), (γ39 2, 35, al_c46), (γ1 2, 38, al_c0)]⟩, [(1, g42)], [(0 : Int) ≤ 0 ∧ 0 < ((1 : Nat) : Int)], by kernel_rfl, (.cons ⟨by omega, by omega⟩ .nil), ?_⟩
  refine rt (.bool true) [] [] (fun W hW => ?_)
  exact ⟨rfl, (hW.old 2 rfl)⟩
end Go.Proofs.Ythcmcekjgecnhab.Sr
