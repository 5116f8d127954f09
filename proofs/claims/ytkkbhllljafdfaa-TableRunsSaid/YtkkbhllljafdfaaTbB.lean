/- The layer is alive. No condition beside those that each theorem names. -/
import Derived.Test.YtkkbhllljafdfaaTbA
namespace Go.Proofs.Ytkkbhllljafdfaa.Sr
open Go.RowKit Go.Proofs.YtkkbhllljafdfaaM.Mach
set_option linter.unusedVariables false
set_option linter.unusedSimpArgs false
def al_l0 : List Value := [.bool false, zz, zz, zz, zz, zz, zz, zz, zz, zz, zz, zz, zz, zz, zz, zz]
def al_l1 : List Value := [zz, zz, zz, zz, zz, zz, zz, zz, zz, zz, zz, zz, zz, zz, zz, zz]
def al_l2 : List Value := [zz, zz]
def al_b3 : List Value := al_l0 ++ (al_l1 ++ (al_l2))
def al_l4 : List Value := [.pointer none, zz, zz, zz, zz]
def al_c5 (g4 : Nat) : List Value := [.map (some g4), .slice none 0 0, .int .i64 0]
def al_l6 (γ5 : Nat → Nat) : List Value := [.bool false, .pointer (some ⟨γ5 2, 0, none⟩), zz, zz, zz, zz, .pointer (some ⟨γ5 2, 0, none⟩), zz, .pointer (some ⟨γ5 2, 0, none⟩), zz, zz, zz, zz, zz, zz, zz]
def al_b7 (γ5 : Nat → Nat) : List Value := (al_l6 γ5) ++ (al_l1 ++ (al_l2))
def al_l8 (γ5 : Nat → Nat) : List Value := [.pointer (some ⟨γ5 2, 0, none⟩), .int .u64 5, .string ⟨#[97]⟩, zz, zz, zz, .int .i64 0, .bool false, zz, zz, .pointer (some ⟨γ5 2, 0, none⟩), zz, zz, zz, zz, zz]
def al_b9 (γ5 : Nat → Nat) : List Value := (al_l8 γ5) ++ (al_l1 ++ (al_l1 ++ (al_l1 ++ (al_l2))))
def al_l10 (g4 : Nat) (γ5 : Nat → Nat) : List Value := [.pointer (some ⟨γ5 2, 0, none⟩), zz, .bool false, .pointer (some ⟨γ5 2, 0, none⟩), .bool false, .bool false, .pointer (some ⟨γ5 2, 0, none⟩), .pointer (some ⟨γ5 2, 0, none⟩), .pointer (some ⟨γ5 2, 0, none⟩), .pointer (some ⟨γ5 2, 0, none⟩), .map (some g4), .bool false, .bool false]
def al_l11 (γ5 : Nat → Nat) : List Value := [.pointer (some ⟨γ5 2, 0, none⟩), .int .u64 5, .string ⟨#[97]⟩, zz, zz, zz, .int .i64 0, .bool false, zz, zz, .pointer (some ⟨γ5 2, 0, none⟩), .bool false, zz, .pointer (some ⟨γ5 2, 0, none⟩), .int .u64 5, .string ⟨#[97]⟩]
def al_b12 (γ5 : Nat → Nat) : List Value := (al_l11 γ5) ++ (al_l1 ++ (al_l1 ++ (al_l1 ++ (al_l2))))
def al_l13 (γ5 : Nat → Nat) (γ13 : Nat → Nat) : List Value := [.pointer (some ⟨γ5 2, 0, none⟩), .int .u64 5, .string ⟨#[97]⟩, .pointer (some ⟨γ13 0, 0, none⟩), zz, .pointer (some ⟨γ13 1, 0, none⟩), .int .i64 0, .bool false, .pointer (some ⟨γ5 2, 0, none⟩), zz, zz, zz, zz, zz, zz, zz]
def al_l14 : List Value := [zz, zz, zz]
def al_b15 (γ5 : Nat → Nat) (γ13 : Nat → Nat) : List Value := (al_l13 γ5 γ13) ++ (al_l14)
def al_c16 (γ5 : Nat → Nat) : List Value := [.pointer (some ⟨γ5 2, 0, none⟩)]
def al_l17 (g4 : Nat) (γ5 : Nat → Nat) (γ13 : Nat → Nat) : List Value := [.pointer (some ⟨γ5 2, 0, none⟩), .int .u64 5, .string ⟨#[97]⟩, .pointer (some ⟨γ13 0, 0, none⟩), zz, .pointer (some ⟨γ13 1, 0, none⟩), .int .i64 0, .bool false, .pointer (some ⟨γ5 2, 0, none⟩), .bool false, .pointer (some ⟨γ5 2, 0, none⟩), .pointer (some ⟨γ5 2, 0, none⟩), .pointer (some ⟨γ5 2, 0, none⟩), .agg #[.map (some g4)], .int .u64 5, .func (.func 17) #[] #[.pointer (some ⟨γ13 0, 0, none⟩), .pointer (some ⟨γ13 1, 0, none⟩)]]
def al_b18 (g4 : Nat) (γ5 : Nat → Nat) (γ13 : Nat → Nat) : List Value := (al_l17 g4 γ5 γ13) ++ (al_l14)
def al_l19 (g4 : Nat) (γ13 : Nat → Nat) (γ18 : Nat → Nat) : List Value := [.agg #[.map (some g4)], .int .u64 5, .func (.func 17) #[] #[.pointer (some ⟨γ13 0, 0, none⟩), .pointer (some ⟨γ13 1, 0, none⟩)], .pointer (some ⟨γ18 0, 0, none⟩), zz, zz, .int .i64 0, .bool false, zz, zz, .pointer (some ⟨γ18 0, 0, none⟩), .map (some g4), .int .u64 5, zz, zz, zz]
def al_l20 : List Value := [zz, zz, zz, zz, zz, zz, zz, zz]
def al_b21 (g4 : Nat) (γ13 : Nat → Nat) (γ18 : Nat → Nat) : List Value := (al_l19 g4 γ13 γ18) ++ (al_l20)
def al_l22 : List Value := [.tuple #[.int .i64 0, .bool false], .int .i64 0, .bool false]
def al_b23 (g4 : Nat) (γ5 : Nat → Nat) (γ13 : Nat → Nat) : List Value := (al_l17 g4 γ5 γ13) ++ (al_l22)
def al_l24 (γ5 : Nat → Nat) : List Value := [.pointer (some ⟨γ5 2, 0, none⟩), .int .u64 5, .string ⟨#[97]⟩, zz, zz, zz, .int .i64 0, .bool false, .int .i64 0, .bool false, .pointer (some ⟨γ5 2, 0, none⟩), .bool false, .tuple #[.int .i64 0, .bool false], .pointer (some ⟨γ5 2, 0, none⟩), .int .u64 5, .string ⟨#[97]⟩]
def al_l25 (g4 : Nat) (γ5 : Nat → Nat) : List Value := [.tuple #[.int .i64 0, .bool false], .int .i64 0, .bool false, .bool false, zz, .pointer (some ⟨γ5 2, 0, none⟩), .pointer (some ⟨γ5 2, 0, none⟩), .pointer (some ⟨γ5 2, 0, none⟩), .pointer (some ⟨γ5 2, 0, none⟩), .map (some g4), .int .u64 5, zz, zz, zz, zz, zz]
def al_b26 (g4 : Nat) (γ5 : Nat → Nat) : List Value := (al_l24 γ5) ++ ((al_l25 g4 γ5) ++ (al_l1 ++ (al_l1 ++ (al_l2))))
def al_l27 (g4 : Nat) (γ26 : Nat → Nat) : List Value := [.agg #[.map (some g4)], .int .u64 5, .int .i64 0, .pointer (some ⟨γ26 0, 0, none⟩), zz, zz, zz, zz, zz, zz, zz, zz, zz, zz, zz, zz]
def al_l28 (g4 : Nat) (γ5 : Nat → Nat) : List Value := [.tuple #[.int .i64 0, .bool false], .int .i64 0, .bool false, .bool false, zz, .pointer (some ⟨γ5 2, 0, none⟩), .pointer (some ⟨γ5 2, 0, none⟩), .pointer (some ⟨γ5 2, 0, none⟩), .pointer (some ⟨γ5 2, 0, none⟩), .map (some g4), .int .u64 5, .slice none 0 0, .int .i64 0, .bool false, zz, zz]
def al_l29 (g4 : Nat) (γ5 : Nat → Nat) : List Value := [zz, zz, zz, zz, zz, .pointer (some ⟨γ5 2, 0, none⟩), .pointer (some ⟨γ5 2, 0, none⟩), .pointer (some ⟨γ5 2, 0, none⟩), .agg #[.map (some g4)], .int .u64 5, .pointer (some ⟨γ5 2, 0, none⟩), .pointer (some ⟨γ5 2, 0, none⟩), .pointer (some ⟨γ5 2, 1, none⟩), .slice none 0 0, .int .i64 0, .tuple #[]]
def al_b30 (g4 : Nat) (γ5 : Nat → Nat) : List Value := (al_l24 γ5) ++ ((al_l28 g4 γ5) ++ ((al_l29 g4 γ5) ++ (al_l1 ++ (al_l2))))
def al_c31 : List Value := [.int .u64 5, .string ⟨#[97]⟩]
def al_l32 (γ5 : Nat → Nat) : List Value := [.pointer (some ⟨γ5 2, 0, none⟩), .int .u64 5, .string ⟨#[97]⟩, zz, zz, zz, .int .i64 0, .bool true, .int .i64 0, .bool false, .pointer (some ⟨γ5 2, 0, none⟩), .bool false, .tuple #[.int .i64 0, .bool false], .pointer (some ⟨γ5 2, 0, none⟩), .int .u64 5, .string ⟨#[97]⟩]
def al_l33 (γ5 : Nat → Nat) (γ29 : Nat → Nat) (A30 : Option Addr) (c30 : Nat) : List Value := [.pointer (some ⟨γ5 2, 0, none⟩), .pointer (some ⟨γ5 2, 0, none⟩), .pointer (some ⟨γ5 2, 0, none⟩), .pointer (some ⟨γ5 2, 1, none⟩), .slice none 0 0, .int .u64 5, .string ⟨#[97]⟩, .agg #[.int .u64 5, .string ⟨#[97]⟩], .slice (some ⟨γ29 8, 0, none⟩) 1 1, .slice A30 1 c30, .pointer (some ⟨γ5 2, 0, none⟩), .pointer (some ⟨γ5 2, 1, none⟩), .pointer (some ⟨γ5 2, 0, none⟩), .pointer (some ⟨γ5 2, 0, none⟩), .pointer (some ⟨γ5 2, 1, none⟩), .slice A30 1 c30]
def al_l34 : List Value := [.int .i64 1, .int .i64 0]
def al_b35 (g4 : Nat) (γ5 : Nat → Nat) (γ29 : Nat → Nat) (A30 : Option Addr) (c30 : Nat) : List Value := (al_l32 γ5) ++ ((al_l28 g4 γ5) ++ ((al_l29 g4 γ5) ++ ((al_l33 γ5 γ29 A30 c30) ++ (al_l34))))
def al_c36 (g4 : Nat) (A30 : Option Addr) (c30 : Nat) : List Value := [.map (some g4), .slice A30 1 c30, .int .i64 0]
def al_l37 (γ5 : Nat → Nat) : List Value := [.bool false, .pointer (some ⟨γ5 2, 0, none⟩), .int .i64 0, .bool true, zz, zz, .pointer (some ⟨γ5 2, 0, none⟩), .tuple #[.int .i64 0, .bool true], .pointer (some ⟨γ5 2, 0, none⟩), .tuple #[.int .i64 0, .bool true], .int .i64 0, .bool true, zz, .pointer (some ⟨γ5 2, 0, none⟩), zz, zz]
def al_b38 (γ5 : Nat → Nat) : List Value := (al_l37 γ5) ++ (al_l1 ++ (al_l2))
def al_l39 (γ5 : Nat → Nat) : List Value := [.pointer (some ⟨γ5 2, 0, none⟩), .int .u64 5, .string ⟨#[98]⟩, zz, zz, zz, .int .i64 0, .bool false, zz, zz, .pointer (some ⟨γ5 2, 0, none⟩), zz, zz, zz, zz, zz]
def al_b40 (γ5 : Nat → Nat) : List Value := (al_l39 γ5) ++ (al_l1 ++ (al_l1 ++ (al_l1 ++ (al_l2))))
def al_l41 (γ5 : Nat → Nat) : List Value := [.pointer (some ⟨γ5 2, 0, none⟩), .int .u64 5, .string ⟨#[98]⟩, zz, zz, zz, .int .i64 0, .bool false, zz, zz, .pointer (some ⟨γ5 2, 0, none⟩), .bool false, zz, .pointer (some ⟨γ5 2, 0, none⟩), .int .u64 5, .string ⟨#[98]⟩]
def al_b42 (γ5 : Nat → Nat) : List Value := (al_l41 γ5) ++ (al_l1 ++ (al_l1 ++ (al_l1 ++ (al_l2))))
def al_l43 (γ5 : Nat → Nat) (γ39 : Nat → Nat) : List Value := [.pointer (some ⟨γ5 2, 0, none⟩), .int .u64 5, .string ⟨#[98]⟩, .pointer (some ⟨γ39 0, 0, none⟩), zz, .pointer (some ⟨γ39 1, 0, none⟩), .int .i64 0, .bool false, .pointer (some ⟨γ5 2, 0, none⟩), zz, zz, zz, zz, zz, zz, zz]
def al_b44 (γ5 : Nat → Nat) (γ39 : Nat → Nat) : List Value := (al_l43 γ5 γ39) ++ (al_l14)
def al_l45 (g4 : Nat) (γ5 : Nat → Nat) (γ39 : Nat → Nat) : List Value := [.pointer (some ⟨γ5 2, 0, none⟩), .int .u64 5, .string ⟨#[98]⟩, .pointer (some ⟨γ39 0, 0, none⟩), zz, .pointer (some ⟨γ39 1, 0, none⟩), .int .i64 0, .bool false, .pointer (some ⟨γ5 2, 0, none⟩), .bool false, .pointer (some ⟨γ5 2, 0, none⟩), .pointer (some ⟨γ5 2, 0, none⟩), .pointer (some ⟨γ5 2, 0, none⟩), .agg #[.map (some g4)], .int .u64 5, .func (.func 17) #[] #[.pointer (some ⟨γ39 0, 0, none⟩), .pointer (some ⟨γ39 1, 0, none⟩)]]
def al_b46 (g4 : Nat) (γ5 : Nat → Nat) (γ39 : Nat → Nat) : List Value := (al_l45 g4 γ5 γ39) ++ (al_l14)
def al_l47 (g4 : Nat) (γ39 : Nat → Nat) (γ44 : Nat → Nat) : List Value := [.agg #[.map (some g4)], .int .u64 5, .func (.func 17) #[] #[.pointer (some ⟨γ39 0, 0, none⟩), .pointer (some ⟨γ39 1, 0, none⟩)], .pointer (some ⟨γ44 0, 0, none⟩), zz, zz, .int .i64 0, .bool false, zz, zz, .pointer (some ⟨γ44 0, 0, none⟩), .map (some g4), .int .u64 5, zz, zz, zz]
def al_b48 (g4 : Nat) (γ39 : Nat → Nat) (γ44 : Nat → Nat) : List Value := (al_l47 g4 γ39 γ44) ++ (al_l20)
def al_l49 (γ39 : Nat → Nat) : List Value := [.int .i64 0, .pointer (some ⟨γ39 0, 0, none⟩), .pointer (some ⟨γ39 1, 0, none⟩), zz, .bool false, zz, zz, zz, zz, zz, zz, zz, zz, zz, zz]
def al_l50 (g4 : Nat) (A28 : Option Addr) (c28 : Nat) (γ39 : Nat → Nat) (γ44 : Nat → Nat) : List Value := [.agg #[.map (some g4)], .int .u64 5, .func (.func 17) #[] #[.pointer (some ⟨γ39 0, 0, none⟩), .pointer (some ⟨γ39 1, 0, none⟩)], .pointer (some ⟨γ44 0, 0, none⟩), zz, zz, .int .i64 0, .bool false, zz, .int .i64 0, .pointer (some ⟨γ44 0, 0, none⟩), .map (some g4), .int .u64 5, .slice A28 1 c28, .int .i64 1, .int .i64 1]
def al_l51 (γ39 : Nat → Nat) (g48 : Nat) : List Value := [.bool true, .pointer (some ⟨g48, 0 + 0 * 1, none⟩), .int .i64 0, .func (.func 17) #[] #[.pointer (some ⟨γ39 0, 0, none⟩), .pointer (some ⟨γ39 1, 0, none⟩)], .int .i64 0, .bool false, zz, .int .i64 1]
def al_b52 (g4 : Nat) (A28 : Option Addr) (c28 : Nat) (γ39 : Nat → Nat) (γ44 : Nat → Nat) (g48 : Nat) : List Value := (al_l50 g4 A28 c28 γ39 γ44) ++ ((al_l51 γ39 g48))
def al_b53 (g4 : Nat) (γ5 : Nat → Nat) (γ39 : Nat → Nat) : List Value := (al_l45 g4 γ5 γ39) ++ (al_l22)
def al_l54 (γ5 : Nat → Nat) : List Value := [.pointer (some ⟨γ5 2, 0, none⟩), .int .u64 5, .string ⟨#[98]⟩, zz, zz, zz, .int .i64 0, .bool false, .int .i64 0, .bool false, .pointer (some ⟨γ5 2, 0, none⟩), .bool false, .tuple #[.int .i64 0, .bool false], .pointer (some ⟨γ5 2, 0, none⟩), .int .u64 5, .string ⟨#[98]⟩]
def al_b55 (g4 : Nat) (γ5 : Nat → Nat) : List Value := (al_l54 γ5) ++ ((al_l25 g4 γ5) ++ (al_l1 ++ (al_l1 ++ (al_l2))))
def al_c56 (g4 : Nat) (A30 : Option Addr) (c30 : Nat) : List Value := [.map (some g4), .slice A30 1 c30, .int .i64 1]
def al_l57 (g4 : Nat) (γ60 : Nat → Nat) : List Value := [.agg #[.map (some g4)], .int .u64 5, .int .i64 1, .pointer (some ⟨γ60 0, 0, none⟩), zz, zz, zz, zz, zz, zz, zz, zz, zz, zz, zz, zz]
def al_l58 (g4 : Nat) (γ5 : Nat → Nat) (A28 : Option Addr) (c28 : Nat) : List Value := [.tuple #[.int .i64 0, .bool false], .int .i64 0, .bool false, .bool false, zz, .pointer (some ⟨γ5 2, 0, none⟩), .pointer (some ⟨γ5 2, 0, none⟩), .pointer (some ⟨γ5 2, 0, none⟩), .pointer (some ⟨γ5 2, 0, none⟩), .map (some g4), .int .u64 5, .slice A28 1 c28, .int .i64 1, .bool true, .pointer (some ⟨γ5 2, 0, none⟩), .pointer (some ⟨γ5 2, 0, none⟩)]
def al_l59 (g4 : Nat) (γ5 : Nat → Nat) (A30 : Option Addr) (c30 : Nat) : List Value := [.pointer (some ⟨γ5 2, 2, none⟩), .int .i64 0, .int .i64 1, .pointer (some ⟨γ5 2, 0, none⟩), .pointer (some ⟨γ5 2, 2, none⟩), .pointer (some ⟨γ5 2, 0, none⟩), .pointer (some ⟨γ5 2, 0, none⟩), .pointer (some ⟨γ5 2, 0, none⟩), .agg #[.map (some g4)], .int .u64 5, .pointer (some ⟨γ5 2, 0, none⟩), .pointer (some ⟨γ5 2, 0, none⟩), .pointer (some ⟨γ5 2, 1, none⟩), .slice A30 1 c30, .int .i64 1, .tuple #[]]
def al_b60 (g4 : Nat) (γ5 : Nat → Nat) (A28 : Option Addr) (c28 : Nat) (A30 : Option Addr) (c30 : Nat) : List Value := (al_l54 γ5) ++ ((al_l58 g4 γ5 A28 c28) ++ ((al_l59 g4 γ5 A30 c30) ++ (al_l1 ++ (al_l2))))
def al_c61 : List Value := [.int .u64 5, .string ⟨#[98]⟩]
def al_l62 (γ5 : Nat → Nat) : List Value := [.pointer (some ⟨γ5 2, 0, none⟩), .int .u64 5, .string ⟨#[98]⟩, zz, zz, zz, .int .i64 1, .bool true, .int .i64 0, .bool false, .pointer (some ⟨γ5 2, 0, none⟩), .bool false, .tuple #[.int .i64 0, .bool false], .pointer (some ⟨γ5 2, 0, none⟩), .int .u64 5, .string ⟨#[98]⟩]
def al_l63 (γ5 : Nat → Nat) (A30 : Option Addr) (c30 : Nat) (γ63 : Nat → Nat) (A64 : Option Addr) (c64 : Nat) : List Value := [.pointer (some ⟨γ5 2, 0, none⟩), .pointer (some ⟨γ5 2, 0, none⟩), .pointer (some ⟨γ5 2, 0, none⟩), .pointer (some ⟨γ5 2, 1, none⟩), .slice A30 1 c30, .int .u64 5, .string ⟨#[98]⟩, .agg #[.int .u64 5, .string ⟨#[98]⟩], .slice (some ⟨γ63 8, 0, none⟩) 1 1, .slice A64 2 c64, .pointer (some ⟨γ5 2, 0, none⟩), .pointer (some ⟨γ5 2, 1, none⟩), .pointer (some ⟨γ5 2, 0, none⟩), .pointer (some ⟨γ5 2, 0, none⟩), .pointer (some ⟨γ5 2, 1, none⟩), .slice A64 2 c64]
def al_l64 : List Value := [.int .i64 2, .int .i64 1]
def al_b65 (g4 : Nat) (γ5 : Nat → Nat) (A28 : Option Addr) (c28 : Nat) (A30 : Option Addr) (c30 : Nat) (γ63 : Nat → Nat) (A64 : Option Addr) (c64 : Nat) : List Value := (al_l62 γ5) ++ ((al_l58 g4 γ5 A28 c28) ++ ((al_l59 g4 γ5 A30 c30) ++ ((al_l63 γ5 A30 c30 γ63 A64 c64) ++ (al_l64))))
def al_c66 (g4 : Nat) (A64 : Option Addr) (c64 : Nat) : List Value := [.map (some g4), .slice A64 2 c64, .int .i64 1]
def al_l67 (γ5 : Nat → Nat) : List Value := [.bool false, .pointer (some ⟨γ5 2, 0, none⟩), .int .i64 0, .bool true, .int .i64 1, .bool true, .pointer (some ⟨γ5 2, 0, none⟩), .tuple #[.int .i64 0, .bool true], .pointer (some ⟨γ5 2, 0, none⟩), .tuple #[.int .i64 0, .bool true], .int .i64 0, .bool true, .tuple #[.int .i64 1, .bool true], .pointer (some ⟨γ5 2, 0, none⟩), .tuple #[.int .i64 1, .bool true], .int .i64 1]
def al_l68 (γ5 : Nat → Nat) : List Value := [.bool true, .int .i64 0, .bool true, .bool true, .int .i64 1, .bool true, .bool true, .bool true, .bool true, .bool true, .bool true, .bool true, .bool true, .bool true, .pointer (some ⟨γ5 2, 0, none⟩), zz]
def al_b69 (γ5 : Nat → Nat) : List Value := (al_l67 γ5) ++ ((al_l68 γ5) ++ (al_l2))
def al_l70 (γ5 : Nat → Nat) : List Value := [.pointer (some ⟨γ5 2, 0, none⟩), zz, .int .i64 0, .pointer (some ⟨γ5 2, 0, none⟩), zz, zz, zz, zz, zz]
def al_l71 (γ5 : Nat → Nat) : List Value := [.pointer (some ⟨γ5 2, 0, none⟩), zz, .int .i64 1, .pointer (some ⟨γ5 2, 0, none⟩), .bool false, .pointer (some ⟨γ5 2, 0, none⟩), .pointer (some ⟨γ5 2, 0, none⟩), .pointer (some ⟨γ5 2, 2, none⟩), .int .i64 1]
def al_l72 (γ5 : Nat → Nat) : List Value := [.bool true, .pointer (some ⟨γ5 2, 0, none⟩), .int .i64 0, .bool true, .int .i64 1, .bool true, .pointer (some ⟨γ5 2, 0, none⟩), .tuple #[.int .i64 0, .bool true], .pointer (some ⟨γ5 2, 0, none⟩), .tuple #[.int .i64 0, .bool true], .int .i64 0, .bool true, .tuple #[.int .i64 1, .bool true], .pointer (some ⟨γ5 2, 0, none⟩), .tuple #[.int .i64 1, .bool true], .int .i64 1]
def al_l73 (γ5 : Nat → Nat) : List Value := [.bool true, .int .i64 0, .bool true, .bool true, .int .i64 1, .bool true, .bool true, .bool true, .bool true, .bool true, .bool true, .bool true, .bool true, .bool true, .pointer (some ⟨γ5 2, 0, none⟩), .int .i64 1]
def al_l74 : List Value := [.bool true, .bool true]
def al_b75 (γ5 : Nat → Nat) : List Value := (al_l72 γ5) ++ ((al_l73 γ5) ++ (al_l74))
set_option maxHeartbeats 8000000 in
set_option maxRecDepth 100000 in
theorem alive_is (w : World) : Calls Try.prog 5 #[] w fun e w' => e = .returned (.bool true) ∧ Below w.heap.size w w' := by
  refine enter (args := []) (fn := Try.f5) rfl (c := bdy Try.f5) (by kernel_rfl) ?_
  refine ck 1 [] [] fun γ1 => ⟨⟨kt (bdy Try.f5) [1, 0, 0] [], al_b3, []⟩, [], [], by kernel_rfl, .nil, ?_⟩
  refine ci (f := 6) (args := []) (fn := Try.f6) (c := bdy Try.f6) rfl (fun R2 hR2 => ?_)
  refine ck 1 [] [] fun γ3 => ⟨⟨kt (bdy Try.f6) [1, 0, 0] [], al_l4, []⟩, [], [], by kernel_rfl, .nil, ?_⟩
  refine mkm (t := 36) (fun g4 => ?_)
  refine ck 4 [] [] fun γ5 => ⟨⟨kt (bdy Try.f6) [1, 1] [], upv al_l4 [(0, .pointer (some ⟨γ5 2, 0, none⟩)), (1, .map (some g4)), (2, .agg #[.map (some g4)]), (3, .agg #[.map (some g4), .slice none 0 0, .int .i64 0]), (4, .pointer (some ⟨γ5 2, 0, none⟩))], [(γ5 2, 41, (al_c5 g4))]⟩, [], [], by kernel_rfl, .nil, ?_⟩
  refine crm hR2 (.pointer (some ⟨γ5 2, 0, none⟩)) [] [] [true] ?_
  refine ck 2 [] [] fun γ6 => ⟨⟨kt (bdy Try.f5) [1, 1, 0, 1] [], (al_b7 γ5), [(γ5 2, 41, (al_c5 g4))]⟩, [], [], by kernel_rfl, .nil, ?_⟩
  refine ci (f := 9) (args := [.pointer (some ⟨γ5 2, 0, none⟩), .int .u64 5, .string ⟨#[97]⟩]) (fn := Try.f9) (c := bdy Try.f9) rfl (fun R7 hR7 => ?_)
  refine ck 3 [] [] fun γ8 => ⟨⟨kt (bdy Try.f9) [1, 0, 0, 1] [], (al_b9 γ5), [(γ5 2, 41, (al_c5 g4))]⟩, [], [], by kernel_rfl, .nil, ?_⟩
  refine ci (f := 15) (args := [.pointer (some ⟨γ5 2, 0, none⟩)]) (fn := Try.f15) (c := bdy Try.f15) rfl (fun R9 hR9 => ?_)
  refine ck 12 [(1, 0)] [] fun γ10 => ⟨⟨kt (bdy Try.f15) [1, 1] [], (al_l10 g4 γ5), [(γ5 2, 41, (al_c5 g4))]⟩, [(1, γ5 2)], [], by kernel_rfl, .nil, ?_⟩
  refine crm hR9 (.bool false) [] [] [true] ?_
  refine ck 3 [] [] fun γ11 => ⟨⟨kt (bdy Try.f9) [1, 1, 0, 3] [], (al_b12 γ5), [(γ5 2, 41, (al_c5 g4))]⟩, [], [], by kernel_rfl, .nil, ?_⟩
  refine ci (f := 8) (args := [.pointer (some ⟨γ5 2, 0, none⟩), .int .u64 5, .string ⟨#[97]⟩]) (fn := Try.f8) (c := bdy Try.f8) rfl (fun R12 hR12 => ?_)
  refine ck 5 [(1, 1)] [] fun γ13 => ⟨⟨kt (bdy Try.f8) [1, 0, 0, 1] [], (al_b15 γ5 γ13), [(γ13 1, 9, [.string ⟨#[97]⟩]), (γ13 0, 24, (al_c16 γ5)), (γ5 2, 41, (al_c5 g4))]⟩, [(1, γ13 0)], [], by kernel_rfl, .nil, ?_⟩
  refine ci (f := 15) (args := [.pointer (some ⟨γ5 2, 0, none⟩)]) (fn := Try.f15) (c := bdy Try.f15) rfl (fun R14 hR14 => ?_)
  refine ck 12 [(1, 2)] [] fun γ15 => ⟨⟨kt (bdy Try.f15) [1, 1] [], (al_l10 g4 γ5), [(γ13 1, 9, [.string ⟨#[97]⟩]), (γ13 0, 24, (al_c16 γ5)), (γ5 2, 41, (al_c5 g4))]⟩, [(1, γ5 2)], [], by kernel_rfl, .nil, ?_⟩
  refine crm hR14 (.bool false) [] [] [true, true, true] ?_
  refine ck 6 [(1, 1), (1, 2)] [] fun γ16 => ⟨⟨kt (bdy Try.f8) [1, 1, 0, 6] [], (al_b18 g4 γ5 γ13), [(γ13 1, 9, [.string ⟨#[97]⟩]), (γ13 0, 24, (al_c16 γ5)), (γ5 2, 41, (al_c5 g4))]⟩, [(1, γ13 0), (1, γ5 2)], [], by kernel_rfl, .nil, ?_⟩
  refine ci (f := 16) (args := [.agg #[.map (some g4)], .int .u64 5, .func (.func 17) #[] #[.pointer (some ⟨γ13 0, 0, none⟩), .pointer (some ⟨γ13 1, 0, none⟩)]]) (fn := Try.f16) (c := bdy Try.f16) rfl (fun R17 hR17 => ?_)
  refine ck 6 [(1, 0)] [] fun γ18 => ⟨⟨kt (bdy Try.f16) [1, 0, 0, 3] [], (al_b21 g4 γ13 γ18), [(γ18 0, 38, [.map (some g4)]), (γ13 1, 9, [.string ⟨#[97]⟩]), (γ13 0, 24, (al_c16 γ5)), (γ5 2, 41, (al_c5 g4))]⟩, [(1, γ18 0)], [], by kernel_rfl, .nil, ?_⟩
  refine lk (ke := 27) (k := .int .u64 5) (z := .slice none 0 0) (ok := false) (es := ([] : List MapEntry)) 0 none rfl (fun W => by kernel_rfl) (fun b W => by kernel_rfl) ?_
  refine ck 2 [] [] fun γ19 => ⟨⟨kt (bdy Try.f16) [1, 0, 1, 0] [], upv (al_b21 g4 γ13 γ18) [(13, .slice none 0 0), (14, .int .i64 0), (15, .int .i64 0)], [(γ18 0, 38, [.map (some g4)]), (γ13 1, 9, [.string ⟨#[97]⟩]), (γ13 0, 24, (al_c16 γ5)), (γ5 2, 41, (al_c5 g4))]⟩, [], [], by kernel_rfl, .nil, ?_⟩
  refine lu 6 (fun I20 hI20 => ?_)
  refine ck 3 [] [] fun γ21 => ⟨⟨kt (bdy Try.f16) [1, 1, 1] [], upv (al_b21 g4 γ13 γ18) [(13, .slice none 0 0), (14, .int .i64 0), (15, .int .i64 0), (16, .bool false)], [(γ18 0, 38, [.map (some g4)]), (γ13 1, 9, [.string ⟨#[97]⟩]), (γ13 0, 24, (al_c16 γ5)), (γ5 2, 41, (al_c5 g4))]⟩, [], [], by kernel_rfl, .nil, ?_⟩
  refine crm hR17 (.tuple #[.int .i64 0, .bool false]) [] [] [false, false, false, true] ?_
  refine ck 4 [] [] fun γ22 => ⟨⟨kt (bdy Try.f8) [1, 1, 1] [], (al_b23 g4 γ5 γ13), [(γ5 2, 41, (al_c5 g4))]⟩, [], [], by kernel_rfl, .nil, ?_⟩
  refine crm hR12 (.tuple #[.int .i64 0, .bool false]) [] [] [true] ?_
  refine ck 12 [(1, 0)] [] fun γ23 => ⟨⟨kt (bdy Try.f9) [1, 1, 1, 1, 0, 0, 6] [], (al_b26 g4 γ5), [(γ5 2, 41, (al_c5 g4))]⟩, [(1, γ5 2)], [], by kernel_rfl, .nil, ?_⟩
  refine lk (ke := 27) (k := .int .u64 5) (z := .slice none 0 0) (ok := false) (es := ([] : List MapEntry)) 0 none rfl (fun W => by kernel_rfl) (fun b W => by kernel_rfl) ?_
  refine ck 2 [] [] fun γ24 => ⟨⟨kt (bdy Try.f9) [1, 1, 1, 1, 1, 0] [], upv (al_b26 g4 γ5) [(27, .slice none 0 0), (28, .int .i64 0), (29, .bool false)], [(γ5 2, 41, (al_c5 g4))]⟩, [], [], by kernel_rfl, .nil, ?_⟩
  refine dr [] [] .nil ?_
  refine df [0, 1, 2, 3, 4, 5, 6, 7, 8, 9] [(2, 0)] [] [(2, γ5 2)] [] .nil ?_
  refine dcl 10 [] (f := 18) (args := [.agg #[.map (some g4)], .int .u64 5, .int .i64 0]) (fn := Try.f18) (c := bdy Try.f18) rfl (fun R25 hR25 => ?_)
  refine ck 1 [] [] fun γ26 => ⟨⟨kt (bdy Try.f18) [1] [], (al_l27 g4 γ26), [(γ26 0, 38, [.map (some g4)]), (γ5 2, 41, (al_c5 g4))]⟩, [], [], by kernel_rfl, .nil, ?_⟩
  refine dr [] [] .nil ?_
  refine df [0, 1, 2, 3, 4, 5, 7] [(2, 0)] [] [(2, γ26 0)] [] .nil ?_
  refine dlk (ke := 27) (k := .int .u64 5) (z := .slice none 0 0) (ok := false) (es := ([] : List MapEntry)) 6 0 none rfl (fun W => by kernel_rfl) (fun b W => by kernel_rfl) ?_
  refine dn 8 (v := fun g27 => .slice (some ⟨g27, 0, none⟩) 1 1) (b := fun g27 => (g27, 3, [.int .i64 0])) (fun g L => by kernel_rfl) fun g27 => ?_
  refine dapgR [1] (e := 3) (A := none) (sz := 1) (m := 1) (c := 1) (g := g27) (T := 3) (enc := encT3) (l := ([] : List (Int))) (cs := [.int .i64 0]) 9 0 8 (fun W hW => (Rd.nil _ _ _)) encT3_len (by first | omega | (simp only [List.length_append, List.length_cons, List.length_nil]; omega)) (by simp only [maxLen]; first | omega | (simp only [List.length_append, List.length_cons, List.length_nil]; omega)) ([0] : List (Int)).length (([0] : List (Int)).flatMap encT3) (by simp) (by simp [encT3] <;> rfl) (.cons (RC.of (.map (some g4)) [(1, 1)] [(1, γ26 0)]) .nil) fun A28 c28 => ?_
  refine dmu (ke := 27) (k := .int .u64 5) (v := .slice A28 1 c28) (es := ([] : List MapEntry)) 10 1 none ([{ key := .int .u64 5, val := .slice A28 1 c28, born := 0 }] : List MapEntry) 1 rfl (fun W => by kernel_rfl) (fun b W => by kernel_rfl) (fun j x h => by cases h <;> kernel_rfl) (by rfl) ?_
  refine de (fs := (kt (bdy Try.f18) [1] []).tail) ?_
  refine st0 (fs := (kt (bdy Try.f18) [1] []).tail) (upv (al_l27 g4 γ26) [(6, .pointer (some ⟨γ26 0, 0, none⟩)), (7, .map (some g4)), (8, .int .u64 5), (9, .pointer (some ⟨γ26 0, 0, none⟩)), (10, .map (some g4)), (11, .int .u64 5), (12, .slice none 0 0), (13, .int .i64 0), (14, .slice (some ⟨g27, 0, none⟩) 1 1), (15, .slice A28 1 c28)]) [(g27, 3, [.int .i64 0]), (γ26 0, 38, [.map (some g4)]), (γ5 2, 41, (al_c5 g4))] ?_
  refine dclr hR25 (.tuple #[]) [] [] [false, false, true] .nil ?_
  refine de (fs := (kt (bdy Try.f9) [1, 1, 1, 1, 1, 0] []).tail) ?_
  refine st0 (fs := (kt (bdy Try.f9) [1, 1, 1, 1, 1, 0] []).tail) ((al_b30 g4 γ5)) [(γ5 2, 41, (al_c5 g4))] ?_
  refine ck 9 [(1, 0)] [] fun γ29 => ⟨⟨kt (bdy Try.f9) [1, 1, 1, 1, 1, 1, 0, 9] [], upv (al_b30 g4 γ5) [(48, .pointer (some ⟨γ5 2, 0, none⟩)), (49, .pointer (some ⟨γ5 2, 0, none⟩)), (50, .pointer (some ⟨γ5 2, 0, none⟩)), (51, .pointer (some ⟨γ5 2, 1, none⟩)), (52, .slice none 0 0), (53, .int .u64 5), (54, .string ⟨#[97]⟩), (55, .agg #[.int .u64 5, .string ⟨#[97]⟩]), (56, .slice (some ⟨γ29 8, 0, none⟩) 1 1)], [(γ29 8, 47, al_c31), (γ5 2, 41, (al_c5 g4))]⟩, [(1, γ5 2)], [], by kernel_rfl, .nil, ?_⟩
  refine nilrow 47 2 ?_
  refine ap (m := 1) (c := 1) (g := (γ29 8)) (T := 47) (cs := [.int .u64 5, .string ⟨#[97]⟩]) 0 0 24 rfl (by first | omega | (simp only [List.length_append, List.length_cons, List.length_nil]; omega)) (by simp only [maxLen]; first | omega | (simp only [List.length_append, List.length_cons, List.length_nil]; omega)) (([(5, ⟨#[97]⟩)] : List (Int × ByteArray)).length) (([(5, ⟨#[97]⟩)] : List (Int × ByteArray)).flatMap encT47) (by simp) (by simp [encT47]) fun A30 c30 => ?_
  refine ck 11 [(2, 1)] [] fun γ31 => ⟨⟨kt (bdy Try.f9) [1, 1, 1, 1, 1, 1, 1, 1] [], (al_b35 g4 γ5 γ29 A30 c30), [(γ29 8, 47, al_c31), (γ5 2, 41, (al_c36 g4 A30 c30))]⟩, [(2, γ5 2)], [], by kernel_rfl, .nil, ?_⟩
  refine crm hR7 (.tuple #[.int .i64 0, .bool true]) [] [] [false, true] ?_
  refine ck 6 [] [] fun γ32 => ⟨⟨kt (bdy Try.f5) [1, 1, 1, 0, 1] [], (al_b38 γ5), [(γ5 2, 41, (al_c36 g4 A30 c30))]⟩, [], [], by kernel_rfl, .nil, ?_⟩
  refine ci (f := 9) (args := [.pointer (some ⟨γ5 2, 0, none⟩), .int .u64 5, .string ⟨#[98]⟩]) (fn := Try.f9) (c := bdy Try.f9) rfl (fun R33 hR33 => ?_)
  refine ck 3 [] [] fun γ34 => ⟨⟨kt (bdy Try.f9) [1, 0, 0, 1] [], (al_b40 γ5), [(γ5 2, 41, (al_c36 g4 A30 c30))]⟩, [], [], by kernel_rfl, .nil, ?_⟩
  refine ci (f := 15) (args := [.pointer (some ⟨γ5 2, 0, none⟩)]) (fn := Try.f15) (c := bdy Try.f15) rfl (fun R35 hR35 => ?_)
  refine ck 12 [(1, 0)] [] fun γ36 => ⟨⟨kt (bdy Try.f15) [1, 1] [], (al_l10 g4 γ5), [(γ5 2, 41, (al_c36 g4 A30 c30))]⟩, [(1, γ5 2)], [], by kernel_rfl, .nil, ?_⟩
  refine crm hR35 (.bool false) [] [] [true] ?_
  refine ck 3 [] [] fun γ37 => ⟨⟨kt (bdy Try.f9) [1, 1, 0, 3] [], (al_b42 γ5), [(γ5 2, 41, (al_c36 g4 A30 c30))]⟩, [], [], by kernel_rfl, .nil, ?_⟩
  refine ci (f := 8) (args := [.pointer (some ⟨γ5 2, 0, none⟩), .int .u64 5, .string ⟨#[98]⟩]) (fn := Try.f8) (c := bdy Try.f8) rfl (fun R38 hR38 => ?_)
  refine ck 5 [(1, 1)] [] fun γ39 => ⟨⟨kt (bdy Try.f8) [1, 0, 0, 1] [], (al_b44 γ5 γ39), [(γ39 1, 9, [.string ⟨#[98]⟩]), (γ39 0, 24, (al_c16 γ5)), (γ5 2, 41, (al_c36 g4 A30 c30))]⟩, [(1, γ39 0)], [], by kernel_rfl, .nil, ?_⟩
  refine ci (f := 15) (args := [.pointer (some ⟨γ5 2, 0, none⟩)]) (fn := Try.f15) (c := bdy Try.f15) rfl (fun R40 hR40 => ?_)
  refine ck 12 [(1, 2)] [] fun γ41 => ⟨⟨kt (bdy Try.f15) [1, 1] [], (al_l10 g4 γ5), [(γ39 1, 9, [.string ⟨#[98]⟩]), (γ39 0, 24, (al_c16 γ5)), (γ5 2, 41, (al_c36 g4 A30 c30))]⟩, [(1, γ5 2)], [], by kernel_rfl, .nil, ?_⟩
  refine crm hR40 (.bool false) [] [] [true, true, true] ?_
  refine ck 6 [(1, 1), (1, 2)] [] fun γ42 => ⟨⟨kt (bdy Try.f8) [1, 1, 0, 6] [], (al_b46 g4 γ5 γ39), [(γ39 1, 9, [.string ⟨#[98]⟩]), (γ39 0, 24, (al_c16 γ5)), (γ5 2, 41, (al_c36 g4 A30 c30))]⟩, [(1, γ39 0), (1, γ5 2)], [], by kernel_rfl, .nil, ?_⟩
  refine ci (f := 16) (args := [.agg #[.map (some g4)], .int .u64 5, .func (.func 17) #[] #[.pointer (some ⟨γ39 0, 0, none⟩), .pointer (some ⟨γ39 1, 0, none⟩)]]) (fn := Try.f16) (c := bdy Try.f16) rfl (fun R43 hR43 => ?_)
  refine ck 6 [(1, 0)] [] fun γ44 => ⟨⟨kt (bdy Try.f16) [1, 0, 0, 3] [], (al_b48 g4 γ39 γ44), [(γ44 0, 38, [.map (some g4)]), (γ39 1, 9, [.string ⟨#[98]⟩]), (γ39 0, 24, (al_c16 γ5)), (γ5 2, 41, (al_c36 g4 A30 c30))]⟩, [(1, γ44 0)], [], by kernel_rfl, .nil, ?_⟩
  refine lk (ke := 27) (k := .int .u64 5) (z := .slice none 0 0) (ok := false) (es := ([{ key := .int .u64 5, val := .slice A28 1 c28, born := 0 }] : List MapEntry)) 2 (some (0, .slice A28 1 c28)) rfl (fun W => by kernel_rfl) (fun b W => by kernel_rfl) ?_
  refine ck 2 [] [] fun γ45 => ⟨⟨kt (bdy Try.f16) [1, 0, 1, 0] [], upv (al_b48 g4 γ39 γ44) [(13, .slice A28 1 c28), (14, .int .i64 1), (15, .int .i64 0)], [(γ44 0, 38, [.map (some g4)]), (γ39 1, 9, [.string ⟨#[98]⟩]), (γ39 0, 24, (al_c16 γ5)), (γ5 2, 41, (al_c36 g4 A30 c30))]⟩, [], [], by kernel_rfl, .nil, ?_⟩
  refine lu 6 (fun I46 hI46 => ?_)
  refine ck 1 [] [] fun γ47 => ⟨⟨ktl [1, 1, 0, 0, 0, 0] (I46 6) (kt (bdy Try.f16) [1, 0, 1, 0] []), upv (al_b48 g4 γ39 γ44) [(13, .slice A28 1 c28), (14, .int .i64 1), (15, .int .i64 0), (16, .bool true)], [(γ44 0, 38, [.map (some g4)]), (γ39 1, 9, [.string ⟨#[98]⟩]), (γ39 0, 24, (al_c16 γ5)), (γ5 2, 41, (al_c36 g4 A30 c30))]⟩, [], [], by kernel_rfl, .nil, ?_⟩
  refine ixo 1 (n := 1) (c := c28) (A := A28) (xs := ([0] : List (Int)).flatMap encT3) rfl 0 (by first | omega | simp) (fun g48 hg48 => ?_)
  refine ldr (n := 1) (row := false) [.int .i64 0] (fun W hW => ((Rd.atE (own_rd encT3_len (hW.at 1 rfl)) hg48 (by first | omega | (simp only [List.length_set]; omega) | simp))).ld (i := 0) (by first | omega | simp) 0 [.int .i64 0] rfl) ?_
  refine ck 3 [] [] fun γ49 => ⟨⟨ktl [1, 1, 0, 0, 1, 0, 2] (I46 6) (kt (bdy Try.f16) [1, 0, 1, 0] []), upv (al_b48 g4 γ39 γ44) [(9, .int .i64 0), (13, .slice A28 1 c28), (14, .int .i64 1), (15, .int .i64 0), (16, .bool true), (17, .pointer (some ⟨g48, 0 + 0 * 1, none⟩)), (18, .int .i64 0), (19, .func (.func 17) #[] #[.pointer (some ⟨γ39 0, 0, none⟩), .pointer (some ⟨γ39 1, 0, none⟩)]), (20, .int .i64 0)], [(γ44 0, 38, [.map (some g4)]), (γ39 1, 9, [.string ⟨#[98]⟩]), (γ39 0, 24, (al_c16 γ5)), (γ5 2, 41, (al_c36 g4 A30 c30))]⟩, [], [], by kernel_rfl, .nil, ?_⟩
  refine ci (f := 17) (args := [.int .i64 0, .pointer (some ⟨γ39 0, 0, none⟩), .pointer (some ⟨γ39 1, 0, none⟩)]) (fn := Try.f17) (c := bdy Try.f17) rfl (fun R50 hR50 => ?_)
  refine ck 1 [] [] fun γ51 => ⟨⟨kt (bdy Try.f17) [1, 0] [], (al_l49 γ39), [(γ44 0, 38, [.map (some g4)]), (γ39 1, 9, [.string ⟨#[98]⟩]), (γ39 0, 24, (al_c16 γ5)), (γ5 2, 41, (al_c36 g4 A30 c30))]⟩, [], [], by kernel_rfl, .nil, ?_⟩
  refine shp 0 rfl fun A' c' e' hc' hz' hl' => ?_
  cases e'
  obtain ⟨g52, hg52⟩ := hz'.resolve_left (by simp)
  clear hl' hc'
  refine shp 1 rfl fun A' c' e' hc' hz' hl' => ?_
  cases e'
  obtain ⟨g53, hg53⟩ := hz'.resolve_left (by simp)
  clear hl' hc'
  refine dr [] [] .nil ?_
  refine df [0, 1, 2, 3, 4, 8] [(1, 2), (1, 3), (1, 1)] [] [(1, γ39 0), (1, γ5 2), (1, γ39 1)] [] .nil ?_
  refine dixr 5 (n := 1) (sz := 2) (j := 0) hg52 0 (by omega) ?_
  refine df [6] [] [] [] [] .nil ?_
  refine dldr 7 (n := 1) (row := false) [.string ⟨#[97]⟩] (fun W hW => ((Rd.atE (own_rd encT47_len (hW.at 0 rfl)) hg52 (by first | omega | simp))).ld (i := 0) (by first | omega | simp) 1 [.string ⟨#[97]⟩] rfl) ?_
  refine df [9, 10] [] [(9, .bool false)] [] [Value.bool (ByteArray.toList (⟨#[97]⟩) == ByteArray.toList (⟨#[98]⟩)) = .bool false] (.cons (seF (by decide)) .nil) ?_
  refine de (fs := (kt (bdy Try.f17) [1, 0] []).tail) ?_
  refine st0 (fs := (kt (bdy Try.f17) [1, 0] []).tail) (upv (al_l49 γ39) [(5, .pointer (some ⟨γ5 2, 0, none⟩)), (6, .pointer (some ⟨γ5 2, 0, none⟩)), (7, .pointer (some ⟨γ5 2, 1, none⟩)), (8, .slice A30 1 c30), (9, .int .i64 0), (10, .pointer (some ⟨g52, 0 + 0 * 2, none⟩)), (11, .pointer (some ⟨g52, 0 + 0 * 2 + 1, none⟩)), (12, .string ⟨#[97]⟩), (13, .string ⟨#[98]⟩), (14, .bool false)]) [(γ44 0, 38, [.map (some g4)]), (γ39 1, 9, [.string ⟨#[98]⟩]), (γ39 0, 24, (al_c16 γ5)), (γ5 2, 41, (al_c36 g4 A30 c30))] ?_
  refine crm hR50 (.bool false) [] [] [false, true, true, true] ?_
  refine ck 2 [] [] fun γ54 => ⟨⟨ktp (I46 6) (kt (bdy Try.f16) [1, 0, 1, 0] []), (al_b52 g4 A28 c28 γ39 γ44 g48), [(γ39 1, 9, [.string ⟨#[98]⟩]), (γ39 0, 24, (al_c16 γ5)), (γ5 2, 41, (al_c36 g4 A30 c30))]⟩, [], [], by kernel_rfl, .nil, ?_⟩
  refine lv hI46 5 ?_
  refine ck 3 [] [] fun γ55 => ⟨⟨kt (bdy Try.f16) [1, 1, 1] [], upv (al_b52 g4 A28 c28 γ39 γ44 g48) [(16, .bool false)], [(γ39 1, 9, [.string ⟨#[98]⟩]), (γ39 0, 24, (al_c16 γ5)), (γ5 2, 41, (al_c36 g4 A30 c30))]⟩, [], [], by kernel_rfl, .nil, ?_⟩
  refine crm hR43 (.tuple #[.int .i64 0, .bool false]) [] [] [false, false, true] ?_
  refine ck 4 [] [] fun γ56 => ⟨⟨kt (bdy Try.f8) [1, 1, 1] [], (al_b53 g4 γ5 γ39), [(γ5 2, 41, (al_c36 g4 A30 c30))]⟩, [], [], by kernel_rfl, .nil, ?_⟩
  refine crm hR38 (.tuple #[.int .i64 0, .bool false]) [] [] [true] ?_
  refine ck 12 [(1, 0)] [] fun γ57 => ⟨⟨kt (bdy Try.f9) [1, 1, 1, 1, 0, 0, 6] [], (al_b55 g4 γ5), [(γ5 2, 41, (al_c36 g4 A30 c30))]⟩, [(1, γ5 2)], [], by kernel_rfl, .nil, ?_⟩
  refine lk (ke := 27) (k := .int .u64 5) (z := .slice none 0 0) (ok := false) (es := ([{ key := .int .u64 5, val := .slice A28 1 c28, born := 0 }] : List MapEntry)) 2 (some (0, .slice A28 1 c28)) rfl (fun W => by kernel_rfl) (fun b W => by kernel_rfl) ?_
  refine ck 10 [(2, 0)] [] fun γ58 => ⟨⟨kt (bdy Try.f9) [1, 1, 1, 1, 1, 0] [], upv (al_b55 g4 γ5) [(27, .slice A28 1 c28), (28, .int .i64 1), (29, .bool true), (30, .pointer (some ⟨γ5 2, 0, none⟩)), (31, .pointer (some ⟨γ5 2, 0, none⟩)), (32, .pointer (some ⟨γ5 2, 2, none⟩)), (33, .int .i64 0), (34, .int .i64 1), (35, .pointer (some ⟨γ5 2, 0, none⟩)), (36, .pointer (some ⟨γ5 2, 2, none⟩))], [(γ5 2, 41, (al_c56 g4 A30 c30))]⟩, [(2, γ5 2)], [], by kernel_rfl, .nil, ?_⟩
  refine dr [] [] .nil ?_
  refine df [0, 1, 2, 3, 4, 5, 6, 7, 8, 9] [(2, 0)] [] [(2, γ5 2)] [] .nil ?_
  refine dcl 10 [] (f := 18) (args := [.agg #[.map (some g4)], .int .u64 5, .int .i64 1]) (fn := Try.f18) (c := bdy Try.f18) rfl (fun R59 hR59 => ?_)
  refine ck 1 [] [] fun γ60 => ⟨⟨kt (bdy Try.f18) [1] [], (al_l57 g4 γ60), [(γ60 0, 38, [.map (some g4)]), (γ5 2, 41, (al_c56 g4 A30 c30))]⟩, [], [], by kernel_rfl, .nil, ?_⟩
  refine dr [] [] .nil ?_
  refine df [0, 1, 2, 3, 4, 5, 7] [(2, 0)] [] [(2, γ60 0)] [] .nil ?_
  refine dlk (ke := 27) (k := .int .u64 5) (z := .slice none 0 0) (ok := false) (es := ([{ key := .int .u64 5, val := .slice A28 1 c28, born := 0 }] : List MapEntry)) 6 2 (some (0, .slice A28 1 c28)) rfl (fun W => by kernel_rfl) (fun b W => by kernel_rfl) ?_
  refine dn 8 (v := fun g61 => .slice (some ⟨g61, 0, none⟩) 1 1) (b := fun g61 => (g61, 3, [.int .i64 1])) (fun g L => by kernel_rfl) fun g61 => ?_
  refine dapR [1] (m := 1) (c := 1) (g := g61) (T := 3) (cs := [.int .i64 1]) 9 1 0 8 rfl (by first | omega | (simp only [List.length_append, List.length_cons, List.length_nil]; omega)) (by simp only [maxLen]; first | omega | (simp only [List.length_append, List.length_cons, List.length_nil]; omega)) ([0, 1] : List (Int)).length (([0, 1] : List (Int)).flatMap encT3) (by simp) (by simp [encT3]) (.cons (RC.of (.map (some g4)) [(1, 1)] [(1, γ60 0)]) .nil) fun A62 c62 => ?_
  refine dmu (ke := 27) (k := .int .u64 5) (v := .slice A62 2 c62) (es := ([{ key := .int .u64 5, val := .slice A28 1 c28, born := 0 }] : List MapEntry)) 10 2 (some (0, .slice A28 1 c28)) ([{ key := .int .u64 5, val := .slice A62 2 c62, born := 0 }] : List MapEntry) 1 rfl (fun W => by kernel_rfl) (fun b W => by kernel_rfl) (fun j x h => by cases h <;> kernel_rfl) (by rfl) ?_
  refine de (fs := (kt (bdy Try.f18) [1] []).tail) ?_
  refine st0 (fs := (kt (bdy Try.f18) [1] []).tail) (upv (al_l57 g4 γ60) [(6, .pointer (some ⟨γ60 0, 0, none⟩)), (7, .map (some g4)), (8, .int .u64 5), (9, .pointer (some ⟨γ60 0, 0, none⟩)), (10, .map (some g4)), (11, .int .u64 5), (12, .slice A28 1 c28), (13, .int .i64 1), (14, .slice (some ⟨g61, 0, none⟩) 1 1), (15, .slice A62 2 c62)]) [(g61, 3, [.int .i64 1]), (γ60 0, 38, [.map (some g4)]), (γ5 2, 41, (al_c56 g4 A30 c30))] ?_
  refine dclr hR59 (.tuple #[]) [] [] [false, false, true] .nil ?_
  refine de (fs := (kt (bdy Try.f9) [1, 1, 1, 1, 1, 0] []).tail) ?_
  refine st0 (fs := (kt (bdy Try.f9) [1, 1, 1, 1, 1, 0] []).tail) ((al_b60 g4 γ5 A28 c28 A30 c30)) [(γ5 2, 41, (al_c56 g4 A30 c30))] ?_
  refine ck 9 [(1, 0)] [] fun γ63 => ⟨⟨kt (bdy Try.f9) [1, 1, 1, 1, 1, 1, 0, 9] [], upv (al_b60 g4 γ5 A28 c28 A30 c30) [(48, .pointer (some ⟨γ5 2, 0, none⟩)), (49, .pointer (some ⟨γ5 2, 0, none⟩)), (50, .pointer (some ⟨γ5 2, 0, none⟩)), (51, .pointer (some ⟨γ5 2, 1, none⟩)), (52, .slice A30 1 c30), (53, .int .u64 5), (54, .string ⟨#[98]⟩), (55, .agg #[.int .u64 5, .string ⟨#[98]⟩]), (56, .slice (some ⟨γ63 8, 0, none⟩) 1 1)], [(γ63 8, 47, al_c61), (γ5 2, 41, (al_c56 g4 A30 c30))]⟩, [(1, γ5 2)], [], by kernel_rfl, .nil, ?_⟩
  refine ap (m := 1) (c := 1) (g := (γ63 8)) (T := 47) (cs := [.int .u64 5, .string ⟨#[98]⟩]) 0 0 24 rfl (by first | omega | (simp only [List.length_append, List.length_cons, List.length_nil]; omega)) (by simp only [maxLen]; first | omega | (simp only [List.length_append, List.length_cons, List.length_nil]; omega)) (([(5, ⟨#[97]⟩), (5, ⟨#[98]⟩)] : List (Int × ByteArray)).length) (([(5, ⟨#[97]⟩), (5, ⟨#[98]⟩)] : List (Int × ByteArray)).flatMap encT47) (by simp) (by simp [encT47]) fun A64 c64 => ?_
  refine ck 11 [(2, 1)] [] fun γ65 => ⟨⟨kt (bdy Try.f9) [1, 1, 1, 1, 1, 1, 1, 1] [], (al_b65 g4 γ5 A28 c28 A30 c30 γ63 A64 c64), [(γ63 8, 47, al_c61), (γ5 2, 41, (al_c66 g4 A64 c64))]⟩, [(2, γ5 2)], [], by kernel_rfl, .nil, ?_⟩
  refine crm hR33 (.tuple #[.int .i64 1, .bool true]) [] [] [false, true] ?_
  refine ck 19 [] [] fun γ66 => ⟨⟨kt (bdy Try.f5) [1, 1, 1, 1, 0, 14] [], (al_b69 γ5), [(γ5 2, 41, (al_c66 g4 A64 c64))]⟩, [], [], by kernel_rfl, .nil, ?_⟩
  refine ci (f := 12) (args := [.pointer (some ⟨γ5 2, 0, none⟩)]) (fn := Try.f12) (c := bdy Try.f12) rfl (fun R67 hR67 => ?_)
  refine ck 2 [] [] fun γ68 => ⟨⟨kt (bdy Try.f12) [1, 0, 0, 1] [], (al_l70 γ5), [(γ5 2, 41, (al_c66 g4 A64 c64))]⟩, [], [], by kernel_rfl, .nil, ?_⟩
  refine ci (f := 15) (args := [.pointer (some ⟨γ5 2, 0, none⟩)]) (fn := Try.f15) (c := bdy Try.f15) rfl (fun R69 hR69 => ?_)
  refine ck 12 [(1, 0)] [] fun γ70 => ⟨⟨kt (bdy Try.f15) [1, 1] [], (al_l10 g4 γ5), [(γ5 2, 41, (al_c66 g4 A64 c64))]⟩, [(1, γ5 2)], [], by kernel_rfl, .nil, ?_⟩
  refine crm hR69 (.bool false) [] [] [true] ?_
  refine ck 5 [(1, 0)] [] fun γ71 => ⟨⟨kt (bdy Try.f12) [1, 1, 1] [], (al_l71 γ5), [(γ5 2, 41, (al_c66 g4 A64 c64))]⟩, [(1, γ5 2)], [], by kernel_rfl, .nil, ?_⟩
  refine crm hR67 (.int .i64 1) [] [] [true] ?_
  refine ck 3 [] [] fun γ72 => ⟨⟨kt (bdy Try.f5) [1, 1, 1, 1, 1] [], (al_b75 γ5), [(γ5 2, 41, (al_c66 g4 A64 c64))]⟩, [], [], by kernel_rfl, .nil, ?_⟩
  refine rt (.bool true) [] [] (fun W hW => ?_)
  exact ⟨rfl, (hW.old 3 rfl)⟩
end Go.Proofs.Ytkkbhllljafdfaa.Sr
