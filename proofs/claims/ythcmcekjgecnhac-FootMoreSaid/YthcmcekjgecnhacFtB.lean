/- Feet made, joined, held against each other. No condition beside those that each theorem names. -/
import Derived.Test.YthcmcekjgecnhacFtA
namespace Go.Proofs.Ythcmcekjgecnhac.Sr
open Go.RowKit Go.Proofs.YthcmcekjgecnhacM.Mach
set_option linter.unusedVariables false
set_option linter.unusedSimpArgs false
def aun_al11_l0 (γ1 : Nat → Nat) (γ101 : Nat → Nat) : List Value := [.slice (some ⟨γ1 6, 0, none⟩) 2 2, .slice none 0 0, zz, zz, .pointer (some ⟨γ101 0, 0, none⟩), .slice (some ⟨γ1 6, 0, none⟩) 2 2, .slice (some ⟨γ101 2, 0, none⟩) 1 1, zz, zz, zz, zz, zz]
def aun_al11_c1 (γ1 : Nat → Nat) : List Value := [.slice (some ⟨γ1 6, 0, none⟩) 2 2]
def aun_al11_c2 : List Value := [.slice none 0 0, .slice none 0 0]
def aun_al11_l3 (γ101 : Nat → Nat) : List Value := [.slice (some ⟨γ101 2, 0, none⟩) 1 1, zz, .slice none 0 0, zz, .slice (some ⟨γ101 2, 0, none⟩) 1 1, zz, zz, zz, zz, zz]
def aun_al11_l4 (γ101 : Nat → Nat) : List Value := [.slice (some ⟨γ101 2, 0, none⟩) 1 1, zz, .slice none 0 0, .int .i64 0, zz, zz, zz, zz, zz, .slice (some ⟨γ101 2, 0, none⟩) 1 1, .int .i64 1, .int .i64 0, zz, zz, zz, zz]
def aun_al11_l5 : List Value := [zz, zz, zz, zz, zz, zz, zz, zz, zz, zz, zz, zz, zz, zz, zz, zz]
def aun_al11_l6 : List Value := [zz, zz, zz, zz]
def aun_al11_b7 (γ101 : Nat → Nat) : List Value := (aun_al11_l4 γ101) ++ (aun_al11_l5 ++ (aun_al11_l6))
def aun_al11_l8 (γ1 : Nat → Nat) (γ101 : Nat → Nat) : List Value := [.slice (some ⟨γ101 2, 0, none⟩) 1 1, zz, .slice none 0 0, .int .i64 2, zz, .slice (some ⟨γ1 6, 0, none⟩) 2 2, zz, zz, zz, .slice (some ⟨γ101 2, 0, none⟩) 1 1, .int .i64 1, .int .i64 1, .bool true, .pointer (some ⟨γ101 2, 0, none⟩), .slice (some ⟨γ1 6, 0, none⟩) 2 2, .int .i64 0]
def aun_al11_l9 (γ1 : Nat → Nat) : List Value := [.slice (some ⟨γ1 6, 0, none⟩) 2 2, .int .i64 2, .int .i64 2, .int .i64 2, .bool false, zz, .int .i64 1, zz, zz, zz, zz, zz, zz, zz, zz, zz]
def aun_al11_b10 (γ1 : Nat → Nat) (γ101 : Nat → Nat) : List Value := (aun_al11_l8 γ1 γ101) ++ ((aun_al11_l9 γ1) ++ (aun_al11_l6))
def aun_al11_l11 : List Value := [.slice none 0 0, .int .i64 2, zz, zz, .slice none 0 0, .int .i64 2, .bool false, zz, .int .i64 2, .slice none 0 0, .int .i64 0, .slice none 0 0, .int .i64 0, .int .i64 0, .int .i64 2, .int .i64 2]
def aun_al11_l12 : List Value := [.bool true, .slice none 0 0, .slice none 0 0, .int .i64 0, zz, zz, zz, zz, zz, zz, zz]
def aun_al11_b13 : List Value := aun_al11_l11 ++ (aun_al11_l12)
def aun_al11_l14 (γ1 : Nat → Nat) (γ101 : Nat → Nat) (g112 : Nat) (c113 : Nat) : List Value := [.slice (some ⟨γ101 2, 0, none⟩) 1 1, zz, .slice none 0 0, .int .i64 2, zz, .slice (some ⟨γ1 6, 0, none⟩) 2 2, .slice (some ⟨g112, 0, none⟩) 0 c113, zz, zz, .slice (some ⟨γ101 2, 0, none⟩) 1 1, .int .i64 1, .int .i64 1, .bool false, .pointer (some ⟨γ101 2, 0, none⟩), .slice (some ⟨γ1 6, 0, none⟩) 2 2, .int .i64 0]
def aun_al11_l15 (γ1 : Nat → Nat) (γ101 : Nat → Nat) (g112 : Nat) (c113 : Nat) : List Value := [.slice (some ⟨γ1 6, 0, none⟩) 2 2, .int .i64 2, .int .i64 2, .int .i64 2, .bool false, zz, .int .i64 1, .int .i64 2, .slice (some ⟨g112, 0, none⟩) 0 c113, .slice (some ⟨γ101 2, 0, none⟩) 1 1, .int .i64 1, .int .i64 0, zz, zz, zz, zz]
def aun_al11_b16 (γ1 : Nat → Nat) (γ101 : Nat → Nat) (g112 : Nat) (c113 : Nat) : List Value := (aun_al11_l14 γ1 γ101 g112 c113) ++ ((aun_al11_l15 γ1 γ101 g112 c113) ++ (aun_al11_l6))
def aun_al11_l17 (γ101 : Nat → Nat) (A119 : Option Addr) (c119 : Nat) : List Value := [.slice (some ⟨γ101 2, 0, none⟩) 1 1, zz, .slice none 0 0, .slice A119 2 c119, .slice (some ⟨γ101 2, 0, none⟩) 1 1, .slice A119 2 c119, .slice A119 2 c119, zz, zz, zz]
def aun_al11_l18 (A119 : Option Addr) (c119 : Nat) : List Value := [.slice A119 2 c119, .func (.func 54) #[] #[], zz, zz, .int .i64 2, .slice A119 2 c119, .int .i64 2, .slice A119 2 c119, .int .i64 2, .int .i64 2, .int .u64 2, zz, zz, zz]
def aun_al11_l19 : List Value := [.int .u64 2, zz, .int .i64 0, zz, zz, zz, .int .u64 2, zz]
def aun_al11_l20 : List Value := [.int .u64 2, zz, .int .i64 2, .int .u64 2, .bool false, zz, zz, .int .u64 2, .bool false, zz, zz, zz, zz, .int .u64 2, .bool false, zz]
def aun_al11_l21 : List Value := [zz, zz, zz, .int .i64 0, .int .u64 2, .int .u8 2, .int .u8 2, .int .i64 2, .int .i64 2]
def aun_al11_b22 : List Value := aun_al11_l20 ++ (aun_al11_l21)
def aun_al11_l23 : List Value := [.int .u64 2, zz, .int .i64 2, zz, zz, zz, .int .u64 2, .int .i64 2]
def aun_al11_l24 (A119 : Option Addr) (c119 : Nat) : List Value := [.slice A119 2 c119, .func (.func 54) #[] #[], zz, zz, .int .i64 2, .slice A119 2 c119, .int .i64 2, .slice A119 2 c119, .int .i64 2, .int .i64 2, .int .u64 2, .int .i64 2, .func (.func 54) #[] #[], zz]
def aun_al11_l25 (A119 : Option Addr) (c119 : Nat) : List Value := [.slice A119 2 c119, .int .i64 0, .int .i64 2, .int .i64 2, .func (.func 54) #[] #[], zz, zz, zz, zz, zz, .bool true, .bool true, zz, zz, zz, zz]
def aun_al11_b26 (A119 : Option Addr) (c119 : Nat) : List Value := (aun_al11_l25 A119 c119) ++ (aun_al11_l5 ++ (aun_al11_l5 ++ (aun_al11_l5 ++ (aun_al11_l5 ++ (aun_al11_l5 ++ (aun_al11_l5 ++ (aun_al11_l5 ++ (aun_al11_l5 ++ (aun_al11_l6)))))))))
def aun_al11_l27 (A119 : Option Addr) (c119 : Nat) : List Value := [.slice A119 2 c119, .int .i64 0, .int .i64 2, .func (.func 54) #[] #[], zz, zz, zz, zz, .int .i64 1, zz, .int .i64 0, .int .i64 1, zz, zz, zz, zz]
def aun_al11_l28 : List Value := [zz, zz, zz, zz, zz]
def aun_al11_b29 (A119 : Option Addr) (c119 : Nat) : List Value := (aun_al11_l27 A119 c119) ++ (aun_al11_l5 ++ (aun_al11_l5 ++ (aun_al11_l28)))
def aun_al11_l30 (γ142 : Nat → Nat) : List Value := [.agg #[.int .i64 1, .int .i64 0, .int .i64 0], .agg #[.int .i64 1, .int .i64 0, .int .i64 0], .pointer (some ⟨γ142 0, 0, none⟩), .pointer (some ⟨γ142 1, 0, none⟩), .int .i64 0, zz, .agg #[.int .i64 1, .int .i64 0, .int .i64 0], .agg #[.int .i64 1, .int .i64 0, .int .i64 0], zz, zz, zz, zz, zz]
def aun_al11_c31 : List Value := [.int .i64 1, .int .i64 0, .int .i64 0]
def aun_al11_l32 (γ144 : Nat → Nat) : List Value := [.agg #[.int .i64 1, .int .i64 0, .int .i64 0], .agg #[.int .i64 1, .int .i64 0, .int .i64 0], .pointer (some ⟨γ144 0, 0, none⟩), .pointer (some ⟨γ144 1, 0, none⟩), .bool false, zz, zz, zz, zz, zz, zz, zz, zz, zz, zz, zz]
def aun_al11_l33 : List Value := [zz, zz, zz, zz, zz, zz, zz]
def aun_al11_b34 (γ144 : Nat → Nat) : List Value := (aun_al11_l32 γ144) ++ (aun_al11_l33)
def aun_al11_l35 : List Value := [.int .i64 1, .int .i64 1, zz, zz, .int .i64 0, zz, zz, .int .i64 1, zz, zz, zz, zz, zz, zz, zz, zz]
def aun_al11_b36 : List Value := aun_al11_l35 ++ (aun_al11_l6)
def aun_al11_l37 : List Value := [.int .i64 1, zz, .bool false, .int .i64 1, .int .i64 1, .bool false]
def aun_al11_l38 : List Value := [.int .i64 1, .int .i64 1, zz, zz, .int .i64 0, .bool false, zz, .int .i64 1, .bool false, .int .i64 1, zz, zz, zz, zz, zz, zz]
def aun_al11_b39 : List Value := aun_al11_l38 ++ (aun_al11_l6)
def aun_al11_l40 : List Value := [.int .i64 1, .int .i64 1, zz, zz, .int .i64 0, .bool false, .bool false, .int .i64 1, .bool false, .int .i64 1, .bool false, .bool false, zz, .bool false, .int .i64 1, .int .i64 1]
def aun_al11_l41 : List Value := [.bool false, .int .i64 1, .int .i64 1, .bool false]
def aun_al11_b42 : List Value := aun_al11_l40 ++ (aun_al11_l41)
def aun_al11_l43 : List Value := [.int .i64 0, .int .i64 0, zz, zz, .int .i64 0, zz, zz, .int .i64 0, zz, zz, zz, zz, zz, zz, zz, zz]
def aun_al11_b44 : List Value := aun_al11_l43 ++ (aun_al11_l6)
def aun_al11_l45 : List Value := [.int .i64 0, zz, .bool false, .int .i64 0, .int .i64 0, .bool false]
def aun_al11_l46 : List Value := [.int .i64 0, .int .i64 0, zz, zz, .int .i64 0, .bool false, zz, .int .i64 0, .bool false, .int .i64 0, zz, zz, zz, zz, zz, zz]
def aun_al11_b47 : List Value := aun_al11_l46 ++ (aun_al11_l6)
def aun_al11_l48 : List Value := [.int .i64 0, .int .i64 0, zz, zz, .int .i64 0, .bool false, .bool false, .int .i64 0, .bool false, .int .i64 0, .bool false, .bool false, zz, .bool false, .int .i64 0, .int .i64 0]
def aun_al11_l49 : List Value := [.bool false, .int .i64 0, .int .i64 0, .bool false]
def aun_al11_b50 : List Value := aun_al11_l48 ++ (aun_al11_l49)
def aun_al11_c51 : List Value := [.int .i64 0, .int .i64 0, .int .i64 0]
def aun_al11_l52 (g169 : Nat) : List Value := [.slice (some ⟨g169, 0, none⟩) 3 3, zz, .int .i64 0, .int .i64 0, zz, zz, .slice (some ⟨g169, 0, none⟩) 3 3, .int .i64 3, .int .i64 0, zz, zz, zz, zz, zz, zz, zz]
def aun_al11_l53 : List Value := [zz, zz]
def aun_al11_b54 (g169 : Nat) : List Value := (aun_al11_l52 g169) ++ (aun_al11_l53)
def aun_al11_l55 (γ144 : Nat → Nat) : List Value := [.agg #[.int .i64 1, .int .i64 0, .int .i64 0], .agg #[.int .i64 1, .int .i64 0, .int .i64 0], .pointer (some ⟨γ144 0, 0, none⟩), .pointer (some ⟨γ144 1, 0, none⟩), .bool false, .pointer (some ⟨γ144 0, 0, none⟩), .int .i64 1, .pointer (some ⟨γ144 1, 0, none⟩), .int .i64 1, .int .i64 0, .pointer (some ⟨γ144 0, 1, none⟩), .int .i64 0, .pointer (some ⟨γ144 1, 1, none⟩), .int .i64 0, .int .i64 0, .pointer (some ⟨γ144 0, 2, none⟩)]
def aun_al11_l56 (γ144 : Nat → Nat) (g169 : Nat) : List Value := [.int .i64 0, .pointer (some ⟨γ144 1, 2, none⟩), .int .i64 0, .int .i64 0, .slice (some ⟨g169, 0, none⟩) 3 3, .int .i64 0, .bool false]
def aun_al11_b57 (γ144 : Nat → Nat) (g169 : Nat) : List Value := (aun_al11_l55 γ144) ++ ((aun_al11_l56 γ144 g169))
def aun_al11_l58 (γ142 : Nat → Nat) : List Value := [.agg #[.int .i64 1, .int .i64 0, .int .i64 0], .agg #[.int .i64 1, .int .i64 0, .int .i64 0], .pointer (some ⟨γ142 0, 0, none⟩), .pointer (some ⟨γ142 1, 0, none⟩), .int .i64 0, .bool false, .agg #[.int .i64 1, .int .i64 0, .int .i64 0], .agg #[.int .i64 1, .int .i64 0, .int .i64 0], .bool false, zz, .agg #[.int .i64 1, .int .i64 0, .int .i64 0], .agg #[.int .i64 1, .int .i64 0, .int .i64 0], zz]
def aun_al11_l59 (γ179 : Nat → Nat) : List Value := [.agg #[.int .i64 1, .int .i64 0, .int .i64 0], .agg #[.int .i64 1, .int .i64 0, .int .i64 0], .pointer (some ⟨γ179 0, 0, none⟩), .pointer (some ⟨γ179 1, 0, none⟩), .bool false, zz, zz, zz, zz, zz, zz, zz, zz, zz, zz, zz]
def aun_al11_b60 (γ179 : Nat → Nat) : List Value := (aun_al11_l59 γ179) ++ (aun_al11_l33)
def aun_al11_l61 (g204 : Nat) : List Value := [.slice (some ⟨g204, 0, none⟩) 3 3, zz, .int .i64 0, .int .i64 0, zz, zz, .slice (some ⟨g204, 0, none⟩) 3 3, .int .i64 3, .int .i64 0, zz, zz, zz, zz, zz, zz, zz]
def aun_al11_b62 (g204 : Nat) : List Value := (aun_al11_l61 g204) ++ (aun_al11_l53)
def aun_al11_l63 (γ179 : Nat → Nat) : List Value := [.agg #[.int .i64 1, .int .i64 0, .int .i64 0], .agg #[.int .i64 1, .int .i64 0, .int .i64 0], .pointer (some ⟨γ179 0, 0, none⟩), .pointer (some ⟨γ179 1, 0, none⟩), .bool false, .pointer (some ⟨γ179 0, 0, none⟩), .int .i64 1, .pointer (some ⟨γ179 1, 0, none⟩), .int .i64 1, .int .i64 0, .pointer (some ⟨γ179 0, 1, none⟩), .int .i64 0, .pointer (some ⟨γ179 1, 1, none⟩), .int .i64 0, .int .i64 0, .pointer (some ⟨γ179 0, 2, none⟩)]
def aun_al11_l64 (γ179 : Nat → Nat) (g204 : Nat) : List Value := [.int .i64 0, .pointer (some ⟨γ179 1, 2, none⟩), .int .i64 0, .int .i64 0, .slice (some ⟨g204, 0, none⟩) 3 3, .int .i64 0, .bool false]
def aun_al11_b65 (γ179 : Nat → Nat) (g204 : Nat) : List Value := (aun_al11_l63 γ179) ++ ((aun_al11_l64 γ179 g204))
def aun_al11_l66 (γ142 : Nat → Nat) : List Value := [.agg #[.int .i64 1, .int .i64 0, .int .i64 0], .agg #[.int .i64 1, .int .i64 0, .int .i64 0], .pointer (some ⟨γ142 0, 0, none⟩), .pointer (some ⟨γ142 1, 0, none⟩), .int .i64 0, .bool false, .agg #[.int .i64 1, .int .i64 0, .int .i64 0], .agg #[.int .i64 1, .int .i64 0, .int .i64 0], .bool false, .bool false, .agg #[.int .i64 1, .int .i64 0, .int .i64 0], .agg #[.int .i64 1, .int .i64 0, .int .i64 0], .bool false]
def aun_al11_l67 (A119 : Option Addr) (c119 : Nat) : List Value := [.slice A119 2 c119, .int .i64 0, .int .i64 2, .func (.func 54) #[] #[], zz, zz, zz, zz, .int .i64 1, .int .i64 1, .int .i64 0, .int .i64 1, .int .i64 1, .int .i64 2, .bool true, zz]
def aun_al11_l68 (A119 : Option Addr) (c119 : Nat) (g140 : Nat) : List Value := [zz, .int .i64 1, .int .i64 1, .int .i64 0, .bool true, .bool true, .func (.func 54) #[] #[], .slice A119 2 c119, .int .i64 1, .pointer (some ⟨g140, 0 + 1 * 3, none⟩), .agg #[.int .i64 1, .int .i64 0, .int .i64 0], .slice A119 2 c119, .int .i64 1, .int .i64 0, .pointer (some ⟨g140, 0 + 0 * 3, none⟩), .agg #[.int .i64 1, .int .i64 0, .int .i64 0]]
def aun_al11_l69 : List Value := [.int .i64 0, .bool false, .bool false, zz, zz, zz, zz, zz, zz, zz, zz, zz, zz, zz, zz, zz]
def aun_al11_b70 (A119 : Option Addr) (c119 : Nat) (g140 : Nat) : List Value := (aun_al11_l67 A119 c119) ++ ((aun_al11_l68 A119 c119 g140) ++ (aun_al11_l69 ++ (aun_al11_l28)))
def aun_al11_l71 (γ101 : Nat → Nat) (A119 : Option Addr) (c119 : Nat) : List Value := [.slice (some ⟨γ101 2, 0, none⟩) 1 1, zz, .slice none 0 0, .slice A119 2 c119, .slice (some ⟨γ101 2, 0, none⟩) 1 1, .slice A119 2 c119, .slice A119 2 c119, .tuple #[], .slice A119 2 c119, zz]
def aun_al11_l72 (A119 : Option Addr) (c119 : Nat) : List Value := [.slice A119 2 c119, zz, .slice none 0 0, .int .i64 1, zz, zz, .slice A119 2 c119, .int .i64 2, .bool false, zz, zz, zz, zz, zz, zz, zz]
def aun_al11_l73 : List Value := [zz, zz, zz, zz, zz, zz, zz, zz, zz, zz, zz, zz, zz]
def aun_al11_b74 (A119 : Option Addr) (c119 : Nat) : List Value := (aun_al11_l72 A119 c119) ++ (aun_al11_l5 ++ (aun_al11_l5 ++ (aun_al11_l73)))
def aun_al11_l75 (A119 : Option Addr) (c119 : Nat) : List Value := [.slice A119 2 c119, zz, .slice none 0 0, .int .i64 1, zz, zz, .slice A119 2 c119, .int .i64 2, .bool false, zz, .int .i64 1, .slice A119 2 c119, .int .i64 2, .bool true, zz, zz]
def aun_al11_l76 (A119 : Option Addr) (c119 : Nat) (g140 : Nat) : List Value := [.slice A119 2 c119, .int .i64 1, .pointer (some ⟨g140, 0 + 1 * 3, none⟩), .agg #[.int .i64 1, .int .i64 0, .int .i64 0], .slice A119 2 c119, .int .i64 1, .int .i64 0, .pointer (some ⟨g140, 0 + 0 * 3, none⟩), .agg #[.int .i64 1, .int .i64 0, .int .i64 0], .bool true, zz, zz, zz, zz, zz, zz]
def aun_al11_b77 (A119 : Option Addr) (c119 : Nat) (g140 : Nat) : List Value := (aun_al11_l75 A119 c119) ++ ((aun_al11_l76 A119 c119 g140) ++ (aun_al11_l5 ++ (aun_al11_l73)))
def aun_al11_l78 (A119 : Option Addr) (c119 : Nat) : List Value := [.slice A119 2 c119, zz, .slice none 0 0, .int .i64 1, .slice (cutp A119 1 c119 3) 1 (c119 - 1), .int .i64 1, .slice A119 2 c119, .int .i64 2, .bool false, zz, .int .i64 1, .slice A119 2 c119, .int .i64 2, .bool true, zz, zz]
def aun_al11_l79 (A119 : Option Addr) (c119 : Nat) (g140 : Nat) : List Value := [.slice A119 2 c119, .int .i64 1, .pointer (some ⟨g140, 0 + 1 * 3, none⟩), .agg #[.int .i64 1, .int .i64 0, .int .i64 0], .slice A119 2 c119, .int .i64 1, .int .i64 0, .pointer (some ⟨g140, 0 + 0 * 3, none⟩), .agg #[.int .i64 1, .int .i64 0, .int .i64 0], .bool true, .slice A119 2 c119, .int .i64 1, .slice (cutp A119 1 c119 3) 1 (c119 - 1), .int .i64 1, .slice (cutp A119 1 c119 3) 1 (c119 - 1), .int .i64 1]
def aun_al11_l80 : List Value := [.bool false, zz, zz, zz, zz, zz, zz, zz, zz, zz, zz, zz, zz, zz, zz, zz]
def aun_al11_l81 (A119 : Option Addr) (c119 : Nat) : List Value := [zz, zz, zz, zz, zz, zz, .slice A119 2 c119, .int .i64 1, .slice (cutp A119 1 c119 3) 1 (c119 - 1), .slice A119 2 c119, .int .i64 1, zz, zz]
def aun_al11_b82 (A119 : Option Addr) (c119 : Nat) (g140 : Nat) : List Value := (aun_al11_l78 A119 c119) ++ ((aun_al11_l79 A119 c119 g140) ++ (aun_al11_l80 ++ ((aun_al11_l81 A119 c119))))
def aun_al11_l83 (γ101 : Nat → Nat) (A119 : Option Addr) (c119 : Nat) : List Value := [.slice (some ⟨γ101 2, 0, none⟩) 1 1, zz, .slice A119 1 c119, .slice A119 2 c119, .slice (some ⟨γ101 2, 0, none⟩) 1 1, .slice A119 2 c119, .slice A119 2 c119, .tuple #[], .slice A119 2 c119, .slice A119 1 c119]
def aun_al11_l84 (γ1 : Nat → Nat) (γ101 : Nat → Nat) (A119 : Option Addr) (c119 : Nat) (γ228 : Nat → Nat) : List Value := [.slice (some ⟨γ1 6, 0, none⟩) 2 2, .slice none 0 0, zz, zz, .pointer (some ⟨γ101 0, 0, none⟩), .slice (some ⟨γ1 6, 0, none⟩) 2 2, .slice (some ⟨γ101 2, 0, none⟩) 1 1, .slice A119 1 c119, .slice none 0 0, .slice (some ⟨γ228 1, 0, none⟩) 1 1, zz, zz]
def aun_al11_l85 (γ228 : Nat → Nat) : List Value := [.slice (some ⟨γ228 1, 0, none⟩) 1 1, zz, .slice none 0 0, zz, .slice (some ⟨γ228 1, 0, none⟩) 1 1, zz, zz, zz, zz, zz]
def aun_al11_l86 (γ228 : Nat → Nat) : List Value := [.slice (some ⟨γ228 1, 0, none⟩) 1 1, zz, .slice none 0 0, .int .i64 0, zz, zz, zz, zz, zz, .slice (some ⟨γ228 1, 0, none⟩) 1 1, .int .i64 1, .int .i64 0, zz, zz, zz, zz]
def aun_al11_b87 (γ228 : Nat → Nat) : List Value := (aun_al11_l86 γ228) ++ (aun_al11_l5 ++ (aun_al11_l6))
def aun_al11_l88 (γ228 : Nat → Nat) : List Value := [.slice (some ⟨γ228 1, 0, none⟩) 1 1, zz, .slice none 0 0, .int .i64 0, zz, .slice none 0 0, zz, zz, zz, .slice (some ⟨γ228 1, 0, none⟩) 1 1, .int .i64 1, .int .i64 1, .bool false, .pointer (some ⟨γ228 1, 0, none⟩), .slice none 0 0, .int .i64 0]
def aun_al11_l89 : List Value := [.slice none 0 0, .int .i64 0, .int .i64 0, .int .i64 0, .bool false, zz, .int .i64 1, .int .i64 0, zz, zz, zz, zz, zz, zz, zz, zz]
def aun_al11_b90 (γ228 : Nat → Nat) : List Value := (aun_al11_l88 γ228) ++ (aun_al11_l89 ++ (aun_al11_l6))
def aun_al11_l91 : List Value := [.slice none 0 0, .int .i64 0, zz, zz, .slice none 0 0, .int .i64 0, .bool false, zz, .int .i64 0, .slice none 0 0, .int .i64 0, .slice none 0 0, .int .i64 0, .int .i64 0, .int .i64 0, .int .i64 0]
def aun_al11_l92 : List Value := [.bool false, zz, zz, zz, zz, zz, zz, zz, zz, zz, .slice none 0 0]
def aun_al11_b93 : List Value := aun_al11_l91 ++ (aun_al11_l92)
def aun_al11_l94 (γ228 : Nat → Nat) : List Value := [.slice (some ⟨γ228 1, 0, none⟩) 1 1, zz, .slice none 0 0, .int .i64 0, zz, .slice none 0 0, .slice none 0 0, zz, zz, .slice (some ⟨γ228 1, 0, none⟩) 1 1, .int .i64 1, .int .i64 1, .bool false, .pointer (some ⟨γ228 1, 0, none⟩), .slice none 0 0, .int .i64 0]
def aun_al11_l95 (γ228 : Nat → Nat) : List Value := [.slice none 0 0, .int .i64 0, .int .i64 0, .int .i64 0, .bool false, zz, .int .i64 1, .int .i64 0, .slice none 0 0, .slice (some ⟨γ228 1, 0, none⟩) 1 1, .int .i64 1, .int .i64 0, zz, zz, zz, zz]
def aun_al11_b96 (γ228 : Nat → Nat) : List Value := (aun_al11_l94 γ228) ++ ((aun_al11_l95 γ228) ++ (aun_al11_l6))
def aun_al11_l97 (γ228 : Nat → Nat) (A241 : Option Addr) (c241 : Nat) : List Value := [.slice (some ⟨γ228 1, 0, none⟩) 1 1, zz, .slice none 0 0, .slice A241 0 c241, .slice (some ⟨γ228 1, 0, none⟩) 1 1, .slice A241 0 c241, .slice A241 0 c241, zz, zz, zz]
def aun_al11_l98 (A241 : Option Addr) (c241 : Nat) : List Value := [.slice A241 0 c241, .func (.func 54) #[] #[], zz, zz, .int .i64 0, .slice A241 0 c241, .int .i64 0, .slice A241 0 c241, .int .i64 0, .int .i64 0, .int .u64 0, zz, zz, zz]
def aun_al11_l99 : List Value := [.int .u64 0, zz, .int .i64 0, zz, zz, zz, .int .u64 0, zz]
def aun_al11_l100 : List Value := [.int .u64 0, zz, .int .i64 0, .int .u64 0, .bool false, zz, zz, .int .u64 0, .bool false, zz, zz, zz, zz, .int .u64 0, .bool false, zz]
def aun_al11_l101 : List Value := [zz, zz, zz, .int .i64 0, .int .u64 0, .int .u8 0, .int .u8 0, .int .i64 0, .int .i64 0]
def aun_al11_b102 : List Value := aun_al11_l100 ++ (aun_al11_l101)
def aun_al11_l103 : List Value := [.int .u64 0, zz, .int .i64 0, zz, zz, zz, .int .u64 0, .int .i64 0]
def aun_al11_l104 (A241 : Option Addr) (c241 : Nat) : List Value := [.slice A241 0 c241, .func (.func 54) #[] #[], zz, zz, .int .i64 0, .slice A241 0 c241, .int .i64 0, .slice A241 0 c241, .int .i64 0, .int .i64 0, .int .u64 0, .int .i64 0, .func (.func 54) #[] #[], zz]
def aun_al11_l105 (A241 : Option Addr) (c241 : Nat) : List Value := [.slice A241 0 c241, .int .i64 0, .int .i64 0, .int .i64 0, .func (.func 54) #[] #[], zz, zz, zz, zz, zz, .bool true, .bool true, zz, zz, zz, zz]
def aun_al11_b106 (A241 : Option Addr) (c241 : Nat) : List Value := (aun_al11_l105 A241 c241) ++ (aun_al11_l5 ++ (aun_al11_l5 ++ (aun_al11_l5 ++ (aun_al11_l5 ++ (aun_al11_l5 ++ (aun_al11_l5 ++ (aun_al11_l5 ++ (aun_al11_l5 ++ (aun_al11_l6)))))))))
def aun_al11_l107 (A241 : Option Addr) (c241 : Nat) : List Value := [.slice A241 0 c241, .int .i64 0, .int .i64 0, .func (.func 54) #[] #[], zz, zz, zz, zz, .int .i64 1, zz, .int .i64 0, .int .i64 1, zz, zz, zz, zz]
def aun_al11_b108 (A241 : Option Addr) (c241 : Nat) : List Value := (aun_al11_l107 A241 c241) ++ (aun_al11_l5 ++ (aun_al11_l5 ++ (aun_al11_l28)))
def aun_al11_l109 (γ228 : Nat → Nat) (A241 : Option Addr) (c241 : Nat) : List Value := [.slice (some ⟨γ228 1, 0, none⟩) 1 1, zz, .slice none 0 0, .slice A241 0 c241, .slice (some ⟨γ228 1, 0, none⟩) 1 1, .slice A241 0 c241, .slice A241 0 c241, .tuple #[], .slice A241 0 c241, zz]
def aun_al11_l110 (A241 : Option Addr) (c241 : Nat) : List Value := [.slice A241 0 c241, zz, .slice A241 0 c241, zz, zz, zz, .slice A241 0 c241, .int .i64 0, .bool true, .slice A241 0 c241, zz, zz, zz, zz, zz, zz]
def aun_al11_b111 (A241 : Option Addr) (c241 : Nat) : List Value := (aun_al11_l110 A241 c241) ++ (aun_al11_l5 ++ (aun_al11_l5 ++ (aun_al11_l73)))
def aun_al11_l112 (γ228 : Nat → Nat) (A241 : Option Addr) (c241 : Nat) : List Value := [.slice (some ⟨γ228 1, 0, none⟩) 1 1, zz, .slice A241 0 c241, .slice A241 0 c241, .slice (some ⟨γ228 1, 0, none⟩) 1 1, .slice A241 0 c241, .slice A241 0 c241, .tuple #[], .slice A241 0 c241, .slice A241 0 c241]
def aun_al11_l113 (γ1 : Nat → Nat) (γ101 : Nat → Nat) (A119 : Option Addr) (c119 : Nat) (γ228 : Nat → Nat) (A241 : Option Addr) (c241 : Nat) : List Value := [.slice (some ⟨γ1 6, 0, none⟩) 2 2, .slice none 0 0, zz, zz, .pointer (some ⟨γ101 0, 0, none⟩), .slice (some ⟨γ1 6, 0, none⟩) 2 2, .slice (some ⟨γ101 2, 0, none⟩) 1 1, .slice A119 1 c119, .slice none 0 0, .slice (some ⟨γ228 1, 0, none⟩) 1 1, .slice A241 0 c241, .agg #[.slice A119 1 c119, .slice A241 0 c241]]
def aun_al11_c114 (A119 : Option Addr) (c119 : Nat) (A241 : Option Addr) (c241 : Nat) : List Value := [.slice A119 1 c119, .slice A241 0 c241]
set_option maxHeartbeats 8000000 in
set_option maxRecDepth 100000 in
theorem aun_al11 (γ1 : Nat → Nat) {w : World} (hr0 : Rd w (.slice (some ⟨γ1 6, 0, none⟩) 2 2) 3 encT46 ([(1, 0, 0), (1, 0, 0)] : List (Int × Int × Int))) (hb0 : ([(1, 0, 0), (1, 0, 0)] : List (Int × Int × Int)).length ≤ 1000) : Calls Try.prog 12 #[.slice (some ⟨γ1 6, 0, none⟩) 2 2, .slice none 0 0] w fun e w' => ∃ x : (Option Addr) × Nat × (Option Addr) × Nat, e = .returned (.agg #[.slice x.1 1 x.2.1, .slice x.2.2.1 0 x.2.2.2]) ∧ Fresh w w' [rowA 46 3 (.slice x.2.2.1 0 x.2.2.2) ([] : List (Int × Int × Int)).length (([] : List (Int × Int × Int)).flatMap encT46), rowA 46 3 (.slice x.1 1 x.2.1) ([(1, 0, 0)] : List (Int × Int × Int)).length (([(1, 0, 0)] : List (Int × Int × Int)).flatMap encT46)] := by
  refine enter (args := [.slice (some ⟨γ1 6, 0, none⟩) 2 2, .slice none 0 0]) (fn := Try.f12) rfl (c := bdy Try.f12) (by kernel_rfl) ?_
  have hcap0 := hr0.cap.2
  refine ck 3 [] [] fun γ101 => ⟨⟨kt (bdy Try.f12) [1, 0, 2] [], (aun_al11_l0 γ1 γ101), [(γ101 2, 22, (aun_al11_c1 γ1)), (γ101 0, 24, aun_al11_c2)]⟩, [], [], by kernel_rfl, .nil, ?_⟩
  refine ci (f := 30) (args := [.slice (some ⟨γ101 2, 0, none⟩) 1 1]) (fn := Try.f30) (c := bdy Try.f30) rfl (fun R102 hR102 => ?_)
  refine ck 2 [] [] fun γ103 => ⟨⟨kt (bdy Try.f30) [1, 0, 1] [], (aun_al11_l3 γ101), [(γ101 2, 22, (aun_al11_c1 γ1)), (γ101 0, 24, aun_al11_c2)]⟩, [], [], by kernel_rfl, .nil, ?_⟩
  refine ci (f := 52) (args := [.slice (some ⟨γ101 2, 0, none⟩) 1 1]) (fn := Try.f52) (c := bdy Try.f52) rfl (fun R104 hR104 => ?_)
  refine ck 5 [] [] fun γ105 => ⟨⟨kt (bdy Try.f52) [1, 1, 0, 1, 0] [], (aun_al11_b7 γ101), [(γ101 2, 22, (aun_al11_c1 γ1)), (γ101 0, 24, aun_al11_c2)]⟩, [], [], by kernel_rfl, .nil, ?_⟩
  refine lu 12 (fun I106 hI106 => ?_)
  refine ck 13 [(1, 0)] [] fun γ107 => ⟨⟨ktp (I106 12) (kt (bdy Try.f52) [1, 1, 0, 1, 0] []), (aun_al11_b10 γ1 γ101), [(γ101 2, 22, (aun_al11_c1 γ1)), (γ101 0, 24, aun_al11_c2)]⟩, [(1, γ101 2)], [(0 : Int) ≤ 0 ∧ 0 < ((1 : Nat) : Int)], by kernel_rfl, (.cons ⟨by omega, by omega⟩ .nil), ?_⟩
  refine lv hI106 11 ?_
  refine ck 2 [] [] fun γ108 => ⟨⟨kt (bdy Try.f52) [1, 1, 1, 0, 1] [], upv (aun_al11_b10 γ1 γ101) [(12, .bool false), (23, .int .i64 2)], [(γ101 2, 22, (aun_al11_c1 γ1)), (γ101 0, 24, aun_al11_c2)]⟩, [], [], by kernel_rfl, .nil, ?_⟩
  refine ci (f := 77) (args := [.slice none 0 0, .int .i64 2]) (fn := Try.f77) (c := bdy Try.f77) rfl (fun R109 hR109 => ?_)
  refine ck 16 [] [] fun γ110 => ⟨⟨kt (bdy Try.f77) [1, 1, 0, 1, 1, 0, 3] [], aun_al11_b13, [(γ101 2, 22, (aun_al11_c1 γ1)), (γ101 0, 24, aun_al11_c2)]⟩, [], [], by kernel_rfl, .nil, ?_⟩
  refine sl0 (A := none) (n := 0) (c := 0) (sz := 3) (some (.int .i64 0)) none 0 0 rfl rfl rfl (by omega) (by omega) ?_ none rfl
  refine ck 1 [] [] fun γ111 => ⟨⟨kt (bdy Try.f77) [1, 1, 0, 1, 1, 0, 5] [], upv aun_al11_b13 [(20, .slice none 0 0), (21, .int .i64 2)], [(γ101 2, 22, (aun_al11_c1 γ1)), (γ101 0, 24, aun_al11_c2)]⟩, [], [], by kernel_rfl, .nil, ?_⟩
  refine apz (e := 46) (x := 2) (kk := .i64) (sz := 3) (bytes := 24) 2 (by rfl) (by first | decide | omega | (simp only [maxLen]; omega)) (by first | decide | omega | (simp only [maxLen]; omega)) (by first | decide | omega | (simp only [maxLen]; omega)) (by decide) (fun g112 c113 hcp113 => ?_)
  refine ck 2 [] [] fun γ114 => ⟨⟨kt (bdy Try.f77) [1, 1, 0, 1, 1, 0, 8] [], upv aun_al11_b13 [(20, .slice none 0 0), (21, .int .i64 2), (22, .slice (some ⟨g112, 0, none⟩) 2 c113), (23, .slice none 0 0), (24, .int .i64 0)], [(γ101 2, 22, (aun_al11_c1 γ1)), (γ101 0, 24, aun_al11_c2)]⟩, [], [], by kernel_rfl, .nil, ?_⟩
  refine sl0 (A := some ⟨g112, 0, none⟩) (n := 2) (c := c113) (sz := 3) (some (.int .i64 0)) none 0 c113 rfl rfl rfl (by omega) (by omega) ?_ none rfl
  refine ck 3 [] [] fun γ115 => ⟨⟨kt (bdy Try.f77) [1, 1, 1, 1] [], upv aun_al11_b13 [(0, .slice (some ⟨g112, 0, none⟩) 0 c113), (4, .slice (some ⟨g112, 0, none⟩) 0 c113), (20, .slice none 0 0), (21, .int .i64 2), (22, .slice (some ⟨g112, 0, none⟩) 2 c113), (23, .slice none 0 0), (24, .int .i64 0), (25, .slice (some ⟨g112, 0, none⟩) 0 c113), (26, .slice (some ⟨g112, 0, none⟩) 0 c113)], [(γ101 2, 22, (aun_al11_c1 γ1)), (γ101 0, 24, aun_al11_c2)]⟩, [], [], by kernel_rfl, .nil, ?_⟩
  refine crm hR109 (.slice (some ⟨g112, 0, none⟩) 0 c113) [] [] [true, true] ?_
  refine ck 4 [] [] fun γ116 => ⟨⟨kt (bdy Try.f52) [1, 1, 1, 1, 0, 1, 0] [], (aun_al11_b16 γ1 γ101 g112 c113), [(γ101 2, 22, (aun_al11_c1 γ1)), (γ101 0, 24, aun_al11_c2)]⟩, [], [], by kernel_rfl, .nil, ?_⟩
  refine lu 12 (fun I117 hI117 => ?_)
  refine ck 6 [(1, 0)] [] fun γ118 => ⟨⟨ktl [1, 1, 0, 0, 1, 2] (I117 12) (kt (bdy Try.f52) [1, 1, 1, 1, 0, 1, 0] []), upv (aun_al11_b16 γ1 γ101 g112 c113) [(8, .slice (some ⟨γ1 6, 0, none⟩) 2 2), (28, .bool true), (29, .pointer (some ⟨γ101 2, 0, none⟩)), (30, .slice (some ⟨γ1 6, 0, none⟩) 2 2), (31, .slice (some ⟨g112, 0, none⟩) 0 c113), (32, .slice (some ⟨γ1 6, 0, none⟩) 2 2)], [(γ101 2, 22, (aun_al11_c1 γ1)), (γ101 0, 24, aun_al11_c2)]⟩, [(1, γ101 2)], [(0 : Int) ≤ 0 ∧ 0 < ((1 : Nat) : Int)], by kernel_rfl, (.cons ⟨by omega, by omega⟩ .nil), ?_⟩
  refine aps (enc := encT46) (l := ([(1, 0, 0), (1, 0, 0)] : List (Int × Int × Int))) 0 24 rfl (fun W hW => (hr0.below (hW.old 1 rfl))) encT46_len encT46_cell (by first | omega | (simp only [List.length_append, List.length_cons, List.length_nil]; omega)) (by simp only [maxLen]; first | omega | (simp only [List.length_append, List.length_cons, List.length_nil]; omega)) (([(1, 0, 0), (1, 0, 0)] : List (Int × Int × Int)).length) (([(1, 0, 0), (1, 0, 0)] : List (Int × Int × Int)).flatMap encT46) (by simp) (by simp) fun A119 c119 => ?_
  refine ck 3 [] [] fun γ120 => ⟨⟨ktp (I117 12) (kt (bdy Try.f52) [1, 1, 1, 1, 0, 1, 0] []), upv (aun_al11_b16 γ1 γ101 g112 c113) [(6, .slice A119 2 c119), (8, .slice (some ⟨γ1 6, 0, none⟩) 2 2), (27, .int .i64 1), (28, .bool true), (29, .pointer (some ⟨γ101 2, 0, none⟩)), (30, .slice (some ⟨γ1 6, 0, none⟩) 2 2), (31, .slice (some ⟨g112, 0, none⟩) 0 c113), (32, .slice (some ⟨γ1 6, 0, none⟩) 2 2), (33, .slice A119 2 c119), (34, .int .i64 1)], [(γ101 2, 22, (aun_al11_c1 γ1)), (γ101 0, 24, aun_al11_c2)]⟩, [], [], by kernel_rfl, .nil, ?_⟩
  refine lv hI117 11 ?_
  refine ck 3 [] [] fun γ121 => ⟨⟨kt (bdy Try.f52) [1, 1, 1, 1, 1, 1] [], upv (aun_al11_b16 γ1 γ101 g112 c113) [(2, .slice A119 2 c119), (6, .slice A119 2 c119), (8, .slice (some ⟨γ1 6, 0, none⟩) 2 2), (27, .int .i64 1), (28, .bool false), (29, .pointer (some ⟨γ101 2, 0, none⟩)), (30, .slice (some ⟨γ1 6, 0, none⟩) 2 2), (31, .slice (some ⟨g112, 0, none⟩) 0 c113), (32, .slice (some ⟨γ1 6, 0, none⟩) 2 2), (33, .slice A119 2 c119), (34, .int .i64 1), (35, .slice A119 2 c119)], [(γ101 2, 22, (aun_al11_c1 γ1)), (γ101 0, 24, aun_al11_c2)]⟩, [], [], by kernel_rfl, .nil, ?_⟩
  refine crm hR104 (.slice A119 2 c119) [] [] [false, true] ?_
  refine ck 2 [] [] fun γ122 => ⟨⟨kt (bdy Try.f30) [1, 1, 0, 1] [], (aun_al11_l17 γ101 A119 c119), [(γ101 0, 24, aun_al11_c2)]⟩, [], [], by kernel_rfl, .nil, ?_⟩
  refine ci (f := 53) (args := [.slice A119 2 c119, .func (.func 54) #[] #[]]) (fn := Try.f53) (c := bdy Try.f53) rfl (fun R123 hR123 => ?_)
  refine ck 7 [] [] fun γ124 => ⟨⟨kt (bdy Try.f53) [1, 4] [], (aun_al11_l18 A119 c119), [(γ101 0, 24, aun_al11_c2)]⟩, [], [], by kernel_rfl, .nil, ?_⟩
  refine ci (f := 79) (args := [.int .u64 2]) (fn := Try.f79) (c := bdy Try.f79) rfl (fun R125 hR125 => ?_)
  refine ck 2 [] [] fun γ126 => ⟨⟨kt (bdy Try.f79) [1, 1, 0, 1] [], aun_al11_l19, [(γ101 0, 24, aun_al11_c2)]⟩, [], [], by kernel_rfl, .nil, ?_⟩
  refine ci (f := 99) (args := [.int .u64 2]) (fn := Try.f99) (c := bdy Try.f99) rfl (fun R127 hR127 => ?_)
  refine ck 14 [] [] fun γ128 => ⟨⟨kt (bdy Try.f99) [1, 1, 1, 1, 1] [], aun_al11_b22, [(γ101 0, 24, aun_al11_c2)]⟩, [], [], by kernel_rfl, .nil, ?_⟩
  refine crm hR127 (.int .i64 2) [] [] [true] ?_
  refine ck 1 [] [] fun γ129 => ⟨⟨kt (bdy Try.f79) [1, 1, 1] [], aun_al11_l23, [(γ101 0, 24, aun_al11_c2)]⟩, [], [], by kernel_rfl, .nil, ?_⟩
  refine crm hR125 (.int .i64 2) [] [] [true] ?_
  refine ck 1 [] [] fun γ130 => ⟨⟨kt (bdy Try.f53) [1, 6] [], (aun_al11_l24 A119 c119), [(γ101 0, 24, aun_al11_c2)]⟩, [], [], by kernel_rfl, .nil, ?_⟩
  refine ci (f := 78) (args := [.slice A119 2 c119, .int .i64 0, .int .i64 2, .int .i64 2, .func (.func 54) #[] #[]]) (fn := Try.f78) (c := bdy Try.f78) rfl (fun R131 hR131 => ?_)
  refine ck 2 [] [] fun γ132 => ⟨⟨kt (bdy Try.f78) [1, 1, 0] [], (aun_al11_b26 A119 c119), [(γ101 0, 24, aun_al11_c2)]⟩, [], [], by kernel_rfl, .nil, ?_⟩
  refine lu 12 (fun I133 hI133 => ?_)
  refine ck 10 [] [] fun γ134 => ⟨⟨ktl [0, 1, 0, 1, 0, 0, 4] (I133 12) (kt (bdy Try.f78) [1, 1, 0] []), upv (aun_al11_b26 A119 c119) [(12, .int .i64 2), (21, .int .i64 2), (22, .int .i64 0), (23, .int .i64 2), (24, .int .i64 2), (25, .bool true), (26, .slice A119 2 c119), (27, .int .i64 0), (28, .int .i64 2), (29, .func (.func 54) #[] #[])], [(γ101 0, 24, aun_al11_c2)]⟩, [], [], by kernel_rfl, .nil, ?_⟩
  refine ci (f := 90) (args := [.slice A119 2 c119, .int .i64 0, .int .i64 2, .func (.func 54) #[] #[]]) (fn := Try.f90) (c := bdy Try.f90) rfl (fun R135 hR135 => ?_)
  refine ck 3 [] [] fun γ136 => ⟨⟨kt (bdy Try.f90) [1, 0] [], (aun_al11_b29 A119 c119), [(γ101 0, 24, aun_al11_c2)]⟩, [], [], by kernel_rfl, .nil, ?_⟩
  refine lu 12 (fun I137 hI137 => ?_)
  refine ck 5 [] [] fun γ138 => ⟨⟨ktl [1, 0, 0, 1, 0] (I137 12) (kt (bdy Try.f90) [1, 0] []), upv (aun_al11_b29 A119 c119) [(9, .int .i64 1), (12, .int .i64 1), (13, .int .i64 2), (14, .bool true), (17, .int .i64 1)], [(γ101 0, 24, aun_al11_c2)]⟩, [], [], by kernel_rfl, .nil, ?_⟩
  refine lu 12 (fun I139 hI139 => ?_)
  refine shp 0 rfl fun A' c' e' hc' hz' hl' => ?_
  cases e'
  obtain ⟨g140, hg140⟩ := hz'.resolve_left (by simp)
  clear hl' hc'
  refine dr [] [] .nil ?_
  refine df [0, 1, 2, 3, 4, 5, 6, 9, 10, 11] [] [] [] [] .nil ?_
  refine dixr 7 (n := 2) (sz := 3) (j := 1) hg140 1 (by omega) ?_
  refine dldr 8 (n := 3) (row := true) [.int .i64 1, .int .i64 0, .int .i64 0] (fun W hW => ((Rd.atE (own_rd encT46_len (hW.at 0 rfl)) hg140 (by first | omega | simp))).ld (i := 1) (by first | omega | simp) 0 [.int .i64 1, .int .i64 0, .int .i64 0] rfl) ?_
  refine dixr 12 (n := 2) (sz := 3) (j := 0) hg140 0 (by omega) ?_
  refine dldr 13 (n := 3) (row := true) [.int .i64 1, .int .i64 0, .int .i64 0] (fun W hW => ((Rd.atE (own_rd encT46_len (hW.at 0 rfl)) hg140 (by first | omega | simp))).ld (i := 0) (by first | omega | simp) 0 [.int .i64 1, .int .i64 0, .int .i64 0] rfl) ?_
  refine dcl 14 [] (f := 54) (args := [.agg #[.int .i64 1, .int .i64 0, .int .i64 0], .agg #[.int .i64 1, .int .i64 0, .int .i64 0]]) (fn := Try.f54) (c := bdy Try.f54) rfl (fun R141 hR141 => ?_)
  refine ck 5 [(3, 1), (3, 0)] [] fun γ142 => ⟨⟨kt (bdy Try.f54) [1, 0, 0, 0, 2] [], (aun_al11_l30 γ142), [(γ142 1, 46, aun_al11_c31), (γ142 0, 46, aun_al11_c31), (γ101 0, 24, aun_al11_c2)]⟩, [(3, γ142 0), (3, γ142 1)], [], by kernel_rfl, .nil, ?_⟩
  refine ci (f := 80) (args := [.agg #[.int .i64 1, .int .i64 0, .int .i64 0], .agg #[.int .i64 1, .int .i64 0, .int .i64 0]]) (fn := Try.f80) (c := bdy Try.f80) rfl (fun R143 hR143 => ?_)
  refine ck 3 [] [] fun γ144 => ⟨⟨kt (bdy Try.f80) [1, 0] [], (aun_al11_b34 γ144), [(γ144 1, 46, aun_al11_c31), (γ144 0, 46, aun_al11_c31), (γ142 1, 46, aun_al11_c31), (γ142 0, 46, aun_al11_c31), (γ101 0, 24, aun_al11_c2)]⟩, [], [], by kernel_rfl, .nil, ?_⟩
  refine dr [] [] .nil ?_
  refine df [0, 1, 2, 3, 5, 6, 7, 8, 10, 11, 12, 13] [(1, 1), (1, 0), (1, 1), (1, 0), (1, 1), (1, 0)] [] [(1, γ144 0), (1, γ144 1), (1, γ144 0), (1, γ144 1), (1, γ144 0), (1, γ144 1)] [] .nil ?_
  refine dcl 4 [6, 8, 11, 13] (f := 101) (args := [.int .i64 1, .int .i64 1]) (fn := Try.f101) (c := bdy Try.f101) rfl (fun R145 hR145 => ?_)
  refine ck 2 [] [] fun γ146 => ⟨⟨kt (bdy Try.f101) [1, 0, 1] [], aun_al11_b36, [(γ144 1, 46, aun_al11_c31), (γ144 0, 46, aun_al11_c31), (γ142 1, 46, aun_al11_c31), (γ142 0, 46, aun_al11_c31), (γ101 0, 24, aun_al11_c2)]⟩, [], [], by kernel_rfl, .nil, ?_⟩
  refine ci (f := 110) (args := [.int .i64 1]) (fn := Try.f110) (c := bdy Try.f110) rfl (fun R147 hR147 => ?_)
  refine ck 5 [] [] fun γ148 => ⟨⟨kt (bdy Try.f110) [1, 1] [], aun_al11_l37, [(γ144 1, 46, aun_al11_c31), (γ144 0, 46, aun_al11_c31), (γ142 1, 46, aun_al11_c31), (γ142 0, 46, aun_al11_c31), (γ101 0, 24, aun_al11_c2)]⟩, [], [], by kernel_rfl, .nil, ?_⟩
  refine crm hR147 (.bool false) [] [] [true, true, true, true, true] ?_
  refine ck 2 [] [] fun γ149 => ⟨⟨kt (bdy Try.f101) [1, 1, 0, 1] [], aun_al11_b39, [(γ144 1, 46, aun_al11_c31), (γ144 0, 46, aun_al11_c31), (γ142 1, 46, aun_al11_c31), (γ142 0, 46, aun_al11_c31), (γ101 0, 24, aun_al11_c2)]⟩, [], [], by kernel_rfl, .nil, ?_⟩
  refine ci (f := 110) (args := [.int .i64 1]) (fn := Try.f110) (c := bdy Try.f110) rfl (fun R150 hR150 => ?_)
  refine ck 5 [] [] fun γ151 => ⟨⟨kt (bdy Try.f110) [1, 1] [], aun_al11_l37, [(γ144 1, 46, aun_al11_c31), (γ144 0, 46, aun_al11_c31), (γ142 1, 46, aun_al11_c31), (γ142 0, 46, aun_al11_c31), (γ101 0, 24, aun_al11_c2)]⟩, [], [], by kernel_rfl, .nil, ?_⟩
  refine crm hR150 (.bool false) [] [] [true, true, true, true, true] ?_
  refine ck 10 [] [] fun γ152 => ⟨⟨kt (bdy Try.f101) [1, 1, 1, 1, 1, 1, 1, 1] [], aun_al11_b42, [(γ144 1, 46, aun_al11_c31), (γ144 0, 46, aun_al11_c31), (γ142 1, 46, aun_al11_c31), (γ142 0, 46, aun_al11_c31), (γ101 0, 24, aun_al11_c2)]⟩, [], [], by kernel_rfl, .nil, ?_⟩
  refine dclr hR145 (.int .i64 0) [] [] [true, true, true, true, true] (.cons (RC.of (.int .i64 0) [(1, 1)] [(1, γ144 0)]) (.cons (RC.of (.int .i64 0) [(1, 0)] [(1, γ144 1)]) (.cons (RC.of (.int .i64 0) [(1, 1)] [(1, γ144 0)]) (.cons (RC.of (.int .i64 0) [(1, 0)] [(1, γ144 1)]) .nil)))) ?_
  refine dcl 9 [11, 13] (f := 101) (args := [.int .i64 0, .int .i64 0]) (fn := Try.f101) (c := bdy Try.f101) rfl (fun R153 hR153 => ?_)
  refine ck 2 [] [] fun γ154 => ⟨⟨kt (bdy Try.f101) [1, 0, 1] [], aun_al11_b44, [(γ144 1, 46, aun_al11_c31), (γ144 0, 46, aun_al11_c31), (γ142 1, 46, aun_al11_c31), (γ142 0, 46, aun_al11_c31), (γ101 0, 24, aun_al11_c2)]⟩, [], [], by kernel_rfl, .nil, ?_⟩
  refine ci (f := 110) (args := [.int .i64 0]) (fn := Try.f110) (c := bdy Try.f110) rfl (fun R155 hR155 => ?_)
  refine ck 5 [] [] fun γ156 => ⟨⟨kt (bdy Try.f110) [1, 1] [], aun_al11_l45, [(γ144 1, 46, aun_al11_c31), (γ144 0, 46, aun_al11_c31), (γ142 1, 46, aun_al11_c31), (γ142 0, 46, aun_al11_c31), (γ101 0, 24, aun_al11_c2)]⟩, [], [], by kernel_rfl, .nil, ?_⟩
  refine crm hR155 (.bool false) [] [] [true, true, true, true, true] ?_
  refine ck 2 [] [] fun γ157 => ⟨⟨kt (bdy Try.f101) [1, 1, 0, 1] [], aun_al11_b47, [(γ144 1, 46, aun_al11_c31), (γ144 0, 46, aun_al11_c31), (γ142 1, 46, aun_al11_c31), (γ142 0, 46, aun_al11_c31), (γ101 0, 24, aun_al11_c2)]⟩, [], [], by kernel_rfl, .nil, ?_⟩
  refine ci (f := 110) (args := [.int .i64 0]) (fn := Try.f110) (c := bdy Try.f110) rfl (fun R158 hR158 => ?_)
  refine ck 5 [] [] fun γ159 => ⟨⟨kt (bdy Try.f110) [1, 1] [], aun_al11_l45, [(γ144 1, 46, aun_al11_c31), (γ144 0, 46, aun_al11_c31), (γ142 1, 46, aun_al11_c31), (γ142 0, 46, aun_al11_c31), (γ101 0, 24, aun_al11_c2)]⟩, [], [], by kernel_rfl, .nil, ?_⟩
  refine crm hR158 (.bool false) [] [] [true, true, true, true, true] ?_
  refine ck 10 [] [] fun γ160 => ⟨⟨kt (bdy Try.f101) [1, 1, 1, 1, 1, 1, 1, 1] [], aun_al11_b50, [(γ144 1, 46, aun_al11_c31), (γ144 0, 46, aun_al11_c31), (γ142 1, 46, aun_al11_c31), (γ142 0, 46, aun_al11_c31), (γ101 0, 24, aun_al11_c2)]⟩, [], [], by kernel_rfl, .nil, ?_⟩
  refine dclr hR153 (.int .i64 0) [] [] [true, true, true, true, true] (.cons (RC.of (.int .i64 0) [(1, 1)] [(1, γ144 0)]) (.cons (RC.of (.int .i64 0) [(1, 0)] [(1, γ144 1)]) .nil)) ?_
  refine dcl 14 [] (f := 101) (args := [.int .i64 0, .int .i64 0]) (fn := Try.f101) (c := bdy Try.f101) rfl (fun R161 hR161 => ?_)
  refine ck 2 [] [] fun γ162 => ⟨⟨kt (bdy Try.f101) [1, 0, 1] [], aun_al11_b44, [(γ144 1, 46, aun_al11_c31), (γ144 0, 46, aun_al11_c31), (γ142 1, 46, aun_al11_c31), (γ142 0, 46, aun_al11_c31), (γ101 0, 24, aun_al11_c2)]⟩, [], [], by kernel_rfl, .nil, ?_⟩
  refine ci (f := 110) (args := [.int .i64 0]) (fn := Try.f110) (c := bdy Try.f110) rfl (fun R163 hR163 => ?_)
  refine ck 5 [] [] fun γ164 => ⟨⟨kt (bdy Try.f110) [1, 1] [], aun_al11_l45, [(γ144 1, 46, aun_al11_c31), (γ144 0, 46, aun_al11_c31), (γ142 1, 46, aun_al11_c31), (γ142 0, 46, aun_al11_c31), (γ101 0, 24, aun_al11_c2)]⟩, [], [], by kernel_rfl, .nil, ?_⟩
  refine crm hR163 (.bool false) [] [] [true, true, true, true, true] ?_
  refine ck 2 [] [] fun γ165 => ⟨⟨kt (bdy Try.f101) [1, 1, 0, 1] [], aun_al11_b47, [(γ144 1, 46, aun_al11_c31), (γ144 0, 46, aun_al11_c31), (γ142 1, 46, aun_al11_c31), (γ142 0, 46, aun_al11_c31), (γ101 0, 24, aun_al11_c2)]⟩, [], [], by kernel_rfl, .nil, ?_⟩
  refine ci (f := 110) (args := [.int .i64 0]) (fn := Try.f110) (c := bdy Try.f110) rfl (fun R166 hR166 => ?_)
  refine ck 5 [] [] fun γ167 => ⟨⟨kt (bdy Try.f110) [1, 1] [], aun_al11_l45, [(γ144 1, 46, aun_al11_c31), (γ144 0, 46, aun_al11_c31), (γ142 1, 46, aun_al11_c31), (γ142 0, 46, aun_al11_c31), (γ101 0, 24, aun_al11_c2)]⟩, [], [], by kernel_rfl, .nil, ?_⟩
  refine crm hR166 (.bool false) [] [] [true, true, true, true, true] ?_
  refine ck 10 [] [] fun γ168 => ⟨⟨kt (bdy Try.f101) [1, 1, 1, 1, 1, 1, 1, 1] [], aun_al11_b50, [(γ144 1, 46, aun_al11_c31), (γ144 0, 46, aun_al11_c31), (γ142 1, 46, aun_al11_c31), (γ142 0, 46, aun_al11_c31), (γ101 0, 24, aun_al11_c2)]⟩, [], [], by kernel_rfl, .nil, ?_⟩
  refine dclr hR161 (.int .i64 0) [] [] [true, true, true, true, true] .nil ?_
  refine dn 15 (v := fun g169 => .slice (some ⟨g169, 0, none⟩) 3 3) (b := fun g169 => (g169, 3, aun_al11_c51)) (fun g L => by kernel_rfl) fun g169 => ?_
  refine dcl 16 [] (f := 100) (args := [.slice (some ⟨g169, 0, none⟩) 3 3]) (fn := Try.f100) (c := bdy Try.f100) rfl (fun R170 hR170 => ?_)
  refine ck 5 [] [] fun γ171 => ⟨⟨kt (bdy Try.f100) [1, 1, 0, 1, 0] [], (aun_al11_b54 g169), [(g169, 3, aun_al11_c51), (γ144 1, 46, aun_al11_c31), (γ144 0, 46, aun_al11_c31), (γ142 1, 46, aun_al11_c31), (γ142 0, 46, aun_al11_c31), (γ101 0, 24, aun_al11_c2)]⟩, [], [], by kernel_rfl, .nil, ?_⟩
  refine lu 12 (fun I172 hI172 => ?_)
  refine ck 9 [(1, 0)] [] fun γ173 => ⟨⟨ktp (I172 12) (kt (bdy Try.f100) [1, 1, 0, 1, 0] []), upv (aun_al11_b54 g169) [(5, .int .i64 0), (8, .int .i64 1), (9, .bool true), (10, .pointer (some ⟨g169, 0, none⟩)), (11, .int .i64 0), (12, .int .i64 0), (13, .int .i64 0), (14, .bool false), (16, .int .i64 1)], [(g169, 3, aun_al11_c51), (γ144 1, 46, aun_al11_c31), (γ144 0, 46, aun_al11_c31), (γ142 1, 46, aun_al11_c31), (γ142 0, 46, aun_al11_c31), (γ101 0, 24, aun_al11_c2)]⟩, [(1, g169)], [(0 : Int) ≤ 0 ∧ 0 < ((3 : Nat) : Int)], by kernel_rfl, (.cons ⟨by omega, by omega⟩ .nil), ?_⟩
  refine lv hI172 11 ?_
  refine ck 9 [(1, 0)] [] fun γ174 => ⟨⟨ktp (I172 11) (kt (bdy Try.f100) [1, 1, 0, 1, 0] []), upv (aun_al11_b54 g169) [(5, .int .i64 0), (8, .int .i64 2), (9, .bool true), (10, .pointer (some ⟨g169, 1, none⟩)), (11, .int .i64 0), (12, .int .i64 0), (13, .int .i64 0), (14, .bool false), (16, .int .i64 2)], [(g169, 3, aun_al11_c51), (γ144 1, 46, aun_al11_c31), (γ144 0, 46, aun_al11_c31), (γ142 1, 46, aun_al11_c31), (γ142 0, 46, aun_al11_c31), (γ101 0, 24, aun_al11_c2)]⟩, [(1, g169)], [(0 : Int) ≤ 1 ∧ 1 < ((3 : Nat) : Int)], by kernel_rfl, (.cons ⟨by omega, by omega⟩ .nil), ?_⟩
  refine lv hI172 10 ?_
  refine ck 9 [(1, 0)] [] fun γ175 => ⟨⟨ktp (I172 10) (kt (bdy Try.f100) [1, 1, 0, 1, 0] []), upv (aun_al11_b54 g169) [(5, .int .i64 0), (8, .int .i64 3), (9, .bool true), (10, .pointer (some ⟨g169, 2, none⟩)), (11, .int .i64 0), (12, .int .i64 0), (13, .int .i64 0), (14, .bool false), (16, .int .i64 3)], [(g169, 3, aun_al11_c51), (γ144 1, 46, aun_al11_c31), (γ144 0, 46, aun_al11_c31), (γ142 1, 46, aun_al11_c31), (γ142 0, 46, aun_al11_c31), (γ101 0, 24, aun_al11_c2)]⟩, [(1, g169)], [(0 : Int) ≤ 2 ∧ 2 < ((3 : Nat) : Int)], by kernel_rfl, (.cons ⟨by omega, by omega⟩ .nil), ?_⟩
  refine lv hI172 9 ?_
  refine ck 3 [] [] fun γ176 => ⟨⟨kt (bdy Try.f100) [1, 1, 1, 1] [], upv (aun_al11_b54 g169) [(5, .int .i64 0), (8, .int .i64 3), (9, .bool false), (10, .pointer (some ⟨g169, 2, none⟩)), (11, .int .i64 0), (12, .int .i64 0), (13, .int .i64 0), (14, .bool false), (16, .int .i64 3), (17, .int .i64 0)], [(g169, 3, aun_al11_c51), (γ144 1, 46, aun_al11_c31), (γ144 0, 46, aun_al11_c31), (γ142 1, 46, aun_al11_c31), (γ142 0, 46, aun_al11_c31), (γ101 0, 24, aun_al11_c2)]⟩, [], [], by kernel_rfl, .nil, ?_⟩
  refine dclr hR170 (.int .i64 0) [] [] [true, true, true, true, true, true] .nil ?_
  refine df [17, 18] [] [] [] [] .nil ?_
  refine de (fs := (kt (bdy Try.f80) [1, 0] []).tail) ?_
  refine st0 (fs := (kt (bdy Try.f80) [1, 0] []).tail) ((aun_al11_b57 γ144 g169)) [(g169, 3, aun_al11_c51), (γ144 1, 46, aun_al11_c31), (γ144 0, 46, aun_al11_c31), (γ142 1, 46, aun_al11_c31), (γ142 0, 46, aun_al11_c31), (γ101 0, 24, aun_al11_c2)] ?_
  refine crm hR143 (.bool false) [] [] [false, false, false, true, true, true] ?_
  refine ck 3 [(3, 0), (3, 1)] [] fun γ177 => ⟨⟨kt (bdy Try.f54) [1, 0, 0, 1, 1, 0, 2] [], (aun_al11_l58 γ142), [(γ142 1, 46, aun_al11_c31), (γ142 0, 46, aun_al11_c31), (γ101 0, 24, aun_al11_c2)]⟩, [(3, γ142 1), (3, γ142 0)], [], by kernel_rfl, .nil, ?_⟩
  refine ci (f := 80) (args := [.agg #[.int .i64 1, .int .i64 0, .int .i64 0], .agg #[.int .i64 1, .int .i64 0, .int .i64 0]]) (fn := Try.f80) (c := bdy Try.f80) rfl (fun R178 hR178 => ?_)
  refine ck 3 [] [] fun γ179 => ⟨⟨kt (bdy Try.f80) [1, 0] [], (aun_al11_b60 γ179), [(γ179 1, 46, aun_al11_c31), (γ179 0, 46, aun_al11_c31), (γ142 1, 46, aun_al11_c31), (γ142 0, 46, aun_al11_c31), (γ101 0, 24, aun_al11_c2)]⟩, [], [], by kernel_rfl, .nil, ?_⟩
  refine dr [] [] .nil ?_
  refine df [0, 1, 2, 3, 5, 6, 7, 8, 10, 11, 12, 13] [(1, 1), (1, 0), (1, 1), (1, 0), (1, 1), (1, 0)] [] [(1, γ179 0), (1, γ179 1), (1, γ179 0), (1, γ179 1), (1, γ179 0), (1, γ179 1)] [] .nil ?_
  refine dcl 4 [6, 8, 11, 13] (f := 101) (args := [.int .i64 1, .int .i64 1]) (fn := Try.f101) (c := bdy Try.f101) rfl (fun R180 hR180 => ?_)
  refine ck 2 [] [] fun γ181 => ⟨⟨kt (bdy Try.f101) [1, 0, 1] [], aun_al11_b36, [(γ179 1, 46, aun_al11_c31), (γ179 0, 46, aun_al11_c31), (γ142 1, 46, aun_al11_c31), (γ142 0, 46, aun_al11_c31), (γ101 0, 24, aun_al11_c2)]⟩, [], [], by kernel_rfl, .nil, ?_⟩
  refine ci (f := 110) (args := [.int .i64 1]) (fn := Try.f110) (c := bdy Try.f110) rfl (fun R182 hR182 => ?_)
  refine ck 5 [] [] fun γ183 => ⟨⟨kt (bdy Try.f110) [1, 1] [], aun_al11_l37, [(γ179 1, 46, aun_al11_c31), (γ179 0, 46, aun_al11_c31), (γ142 1, 46, aun_al11_c31), (γ142 0, 46, aun_al11_c31), (γ101 0, 24, aun_al11_c2)]⟩, [], [], by kernel_rfl, .nil, ?_⟩
  refine crm hR182 (.bool false) [] [] [true, true, false, false, true] ?_
  refine ck 2 [] [] fun γ184 => ⟨⟨kt (bdy Try.f101) [1, 1, 0, 1] [], aun_al11_b39, [(γ179 1, 46, aun_al11_c31), (γ179 0, 46, aun_al11_c31), (γ101 0, 24, aun_al11_c2)]⟩, [], [], by kernel_rfl, .nil, ?_⟩
  refine ci (f := 110) (args := [.int .i64 1]) (fn := Try.f110) (c := bdy Try.f110) rfl (fun R185 hR185 => ?_)
  refine ck 5 [] [] fun γ186 => ⟨⟨kt (bdy Try.f110) [1, 1] [], aun_al11_l37, [(γ179 1, 46, aun_al11_c31), (γ179 0, 46, aun_al11_c31), (γ101 0, 24, aun_al11_c2)]⟩, [], [], by kernel_rfl, .nil, ?_⟩
  refine crm hR185 (.bool false) [] [] [true, true, true] ?_
  refine ck 10 [] [] fun γ187 => ⟨⟨kt (bdy Try.f101) [1, 1, 1, 1, 1, 1, 1, 1] [], aun_al11_b42, [(γ179 1, 46, aun_al11_c31), (γ179 0, 46, aun_al11_c31), (γ101 0, 24, aun_al11_c2)]⟩, [], [], by kernel_rfl, .nil, ?_⟩
  refine dclr hR180 (.int .i64 0) [] [] [true, true, true] (.cons (RC.of (.int .i64 0) [(1, 1)] [(1, γ179 0)]) (.cons (RC.of (.int .i64 0) [(1, 0)] [(1, γ179 1)]) (.cons (RC.of (.int .i64 0) [(1, 1)] [(1, γ179 0)]) (.cons (RC.of (.int .i64 0) [(1, 0)] [(1, γ179 1)]) .nil)))) ?_
  refine dcl 9 [11, 13] (f := 101) (args := [.int .i64 0, .int .i64 0]) (fn := Try.f101) (c := bdy Try.f101) rfl (fun R188 hR188 => ?_)
  refine ck 2 [] [] fun γ189 => ⟨⟨kt (bdy Try.f101) [1, 0, 1] [], aun_al11_b44, [(γ179 1, 46, aun_al11_c31), (γ179 0, 46, aun_al11_c31), (γ101 0, 24, aun_al11_c2)]⟩, [], [], by kernel_rfl, .nil, ?_⟩
  refine ci (f := 110) (args := [.int .i64 0]) (fn := Try.f110) (c := bdy Try.f110) rfl (fun R190 hR190 => ?_)
  refine ck 5 [] [] fun γ191 => ⟨⟨kt (bdy Try.f110) [1, 1] [], aun_al11_l45, [(γ179 1, 46, aun_al11_c31), (γ179 0, 46, aun_al11_c31), (γ101 0, 24, aun_al11_c2)]⟩, [], [], by kernel_rfl, .nil, ?_⟩
  refine crm hR190 (.bool false) [] [] [true, true, true] ?_
  refine ck 2 [] [] fun γ192 => ⟨⟨kt (bdy Try.f101) [1, 1, 0, 1] [], aun_al11_b47, [(γ179 1, 46, aun_al11_c31), (γ179 0, 46, aun_al11_c31), (γ101 0, 24, aun_al11_c2)]⟩, [], [], by kernel_rfl, .nil, ?_⟩
  refine ci (f := 110) (args := [.int .i64 0]) (fn := Try.f110) (c := bdy Try.f110) rfl (fun R193 hR193 => ?_)
  refine ck 5 [] [] fun γ194 => ⟨⟨kt (bdy Try.f110) [1, 1] [], aun_al11_l45, [(γ179 1, 46, aun_al11_c31), (γ179 0, 46, aun_al11_c31), (γ101 0, 24, aun_al11_c2)]⟩, [], [], by kernel_rfl, .nil, ?_⟩
  refine crm hR193 (.bool false) [] [] [true, true, true] ?_
  refine ck 10 [] [] fun γ195 => ⟨⟨kt (bdy Try.f101) [1, 1, 1, 1, 1, 1, 1, 1] [], aun_al11_b50, [(γ179 1, 46, aun_al11_c31), (γ179 0, 46, aun_al11_c31), (γ101 0, 24, aun_al11_c2)]⟩, [], [], by kernel_rfl, .nil, ?_⟩
  refine dclr hR188 (.int .i64 0) [] [] [true, true, true] (.cons (RC.of (.int .i64 0) [(1, 1)] [(1, γ179 0)]) (.cons (RC.of (.int .i64 0) [(1, 0)] [(1, γ179 1)]) .nil)) ?_
  refine dcl 14 [] (f := 101) (args := [.int .i64 0, .int .i64 0]) (fn := Try.f101) (c := bdy Try.f101) rfl (fun R196 hR196 => ?_)
  refine ck 2 [] [] fun γ197 => ⟨⟨kt (bdy Try.f101) [1, 0, 1] [], aun_al11_b44, [(γ179 1, 46, aun_al11_c31), (γ179 0, 46, aun_al11_c31), (γ101 0, 24, aun_al11_c2)]⟩, [], [], by kernel_rfl, .nil, ?_⟩
  refine ci (f := 110) (args := [.int .i64 0]) (fn := Try.f110) (c := bdy Try.f110) rfl (fun R198 hR198 => ?_)
  refine ck 5 [] [] fun γ199 => ⟨⟨kt (bdy Try.f110) [1, 1] [], aun_al11_l45, [(γ179 1, 46, aun_al11_c31), (γ179 0, 46, aun_al11_c31), (γ101 0, 24, aun_al11_c2)]⟩, [], [], by kernel_rfl, .nil, ?_⟩
  refine crm hR198 (.bool false) [] [] [true, true, true] ?_
  refine ck 2 [] [] fun γ200 => ⟨⟨kt (bdy Try.f101) [1, 1, 0, 1] [], aun_al11_b47, [(γ179 1, 46, aun_al11_c31), (γ179 0, 46, aun_al11_c31), (γ101 0, 24, aun_al11_c2)]⟩, [], [], by kernel_rfl, .nil, ?_⟩
  refine ci (f := 110) (args := [.int .i64 0]) (fn := Try.f110) (c := bdy Try.f110) rfl (fun R201 hR201 => ?_)
  refine ck 5 [] [] fun γ202 => ⟨⟨kt (bdy Try.f110) [1, 1] [], aun_al11_l45, [(γ179 1, 46, aun_al11_c31), (γ179 0, 46, aun_al11_c31), (γ101 0, 24, aun_al11_c2)]⟩, [], [], by kernel_rfl, .nil, ?_⟩
  refine crm hR201 (.bool false) [] [] [true, true, true] ?_
  refine ck 10 [] [] fun γ203 => ⟨⟨kt (bdy Try.f101) [1, 1, 1, 1, 1, 1, 1, 1] [], aun_al11_b50, [(γ179 1, 46, aun_al11_c31), (γ179 0, 46, aun_al11_c31), (γ101 0, 24, aun_al11_c2)]⟩, [], [], by kernel_rfl, .nil, ?_⟩
  refine dclr hR196 (.int .i64 0) [] [] [true, true, true] .nil ?_
  refine dn 15 (v := fun g204 => .slice (some ⟨g204, 0, none⟩) 3 3) (b := fun g204 => (g204, 3, aun_al11_c51)) (fun g L => by kernel_rfl) fun g204 => ?_
  refine dcl 16 [] (f := 100) (args := [.slice (some ⟨g204, 0, none⟩) 3 3]) (fn := Try.f100) (c := bdy Try.f100) rfl (fun R205 hR205 => ?_)
  refine ck 5 [] [] fun γ206 => ⟨⟨kt (bdy Try.f100) [1, 1, 0, 1, 0] [], (aun_al11_b62 g204), [(g204, 3, aun_al11_c51), (γ179 1, 46, aun_al11_c31), (γ179 0, 46, aun_al11_c31), (γ101 0, 24, aun_al11_c2)]⟩, [], [], by kernel_rfl, .nil, ?_⟩
  refine lu 12 (fun I207 hI207 => ?_)
  refine ck 9 [(1, 0)] [] fun γ208 => ⟨⟨ktp (I207 12) (kt (bdy Try.f100) [1, 1, 0, 1, 0] []), upv (aun_al11_b62 g204) [(5, .int .i64 0), (8, .int .i64 1), (9, .bool true), (10, .pointer (some ⟨g204, 0, none⟩)), (11, .int .i64 0), (12, .int .i64 0), (13, .int .i64 0), (14, .bool false), (16, .int .i64 1)], [(g204, 3, aun_al11_c51), (γ179 1, 46, aun_al11_c31), (γ179 0, 46, aun_al11_c31), (γ101 0, 24, aun_al11_c2)]⟩, [(1, g204)], [(0 : Int) ≤ 0 ∧ 0 < ((3 : Nat) : Int)], by kernel_rfl, (.cons ⟨by omega, by omega⟩ .nil), ?_⟩
  refine lv hI207 11 ?_
  refine ck 9 [(1, 0)] [] fun γ209 => ⟨⟨ktp (I207 11) (kt (bdy Try.f100) [1, 1, 0, 1, 0] []), upv (aun_al11_b62 g204) [(5, .int .i64 0), (8, .int .i64 2), (9, .bool true), (10, .pointer (some ⟨g204, 1, none⟩)), (11, .int .i64 0), (12, .int .i64 0), (13, .int .i64 0), (14, .bool false), (16, .int .i64 2)], [(g204, 3, aun_al11_c51), (γ179 1, 46, aun_al11_c31), (γ179 0, 46, aun_al11_c31), (γ101 0, 24, aun_al11_c2)]⟩, [(1, g204)], [(0 : Int) ≤ 1 ∧ 1 < ((3 : Nat) : Int)], by kernel_rfl, (.cons ⟨by omega, by omega⟩ .nil), ?_⟩
  refine lv hI207 10 ?_
  refine ck 9 [(1, 0)] [] fun γ210 => ⟨⟨ktp (I207 10) (kt (bdy Try.f100) [1, 1, 0, 1, 0] []), upv (aun_al11_b62 g204) [(5, .int .i64 0), (8, .int .i64 3), (9, .bool true), (10, .pointer (some ⟨g204, 2, none⟩)), (11, .int .i64 0), (12, .int .i64 0), (13, .int .i64 0), (14, .bool false), (16, .int .i64 3)], [(g204, 3, aun_al11_c51), (γ179 1, 46, aun_al11_c31), (γ179 0, 46, aun_al11_c31), (γ101 0, 24, aun_al11_c2)]⟩, [(1, g204)], [(0 : Int) ≤ 2 ∧ 2 < ((3 : Nat) : Int)], by kernel_rfl, (.cons ⟨by omega, by omega⟩ .nil), ?_⟩
  refine lv hI207 9 ?_
  refine ck 3 [] [] fun γ211 => ⟨⟨kt (bdy Try.f100) [1, 1, 1, 1] [], upv (aun_al11_b62 g204) [(5, .int .i64 0), (8, .int .i64 3), (9, .bool false), (10, .pointer (some ⟨g204, 2, none⟩)), (11, .int .i64 0), (12, .int .i64 0), (13, .int .i64 0), (14, .bool false), (16, .int .i64 3), (17, .int .i64 0)], [(g204, 3, aun_al11_c51), (γ179 1, 46, aun_al11_c31), (γ179 0, 46, aun_al11_c31), (γ101 0, 24, aun_al11_c2)]⟩, [], [], by kernel_rfl, .nil, ?_⟩
  refine dclr hR205 (.int .i64 0) [] [] [true, true, true, true] .nil ?_
  refine df [17, 18] [] [] [] [] .nil ?_
  refine de (fs := (kt (bdy Try.f80) [1, 0] []).tail) ?_
  refine st0 (fs := (kt (bdy Try.f80) [1, 0] []).tail) ((aun_al11_b65 γ179 g204)) [(g204, 3, aun_al11_c51), (γ179 1, 46, aun_al11_c31), (γ179 0, 46, aun_al11_c31), (γ101 0, 24, aun_al11_c2)] ?_
  refine crm hR178 (.bool false) [] [] [false, false, false, true] ?_
  refine ck 2 [] [] fun γ212 => ⟨⟨kt (bdy Try.f54) [1, 1, 1] [], (aun_al11_l66 γ142), [(γ101 0, 24, aun_al11_c2)]⟩, [], [], by kernel_rfl, .nil, ?_⟩
  refine dclr hR141 (.int .i64 0) [] [] [true] .nil ?_
  refine df [15, 16] [] [] [] [] .nil ?_
  refine de (fs := (ktl [0, 0] (I139 12) (ktl [1, 0, 0, 1, 0] (I137 12) (kt (bdy Try.f90) [1, 0] []))).tail) ?_
  refine st0 (fs := (ktl [0, 0] (I139 12) (ktl [1, 0, 0, 1, 0] (I137 12) (kt (bdy Try.f90) [1, 0] []))).tail) ((aun_al11_b70 A119 c119 g140)) [(γ101 0, 24, aun_al11_c2)] ?_
  refine ck 3 [] [] fun γ213 => ⟨⟨ktp (I137 12) (kt (bdy Try.f90) [1, 0] []), upv (aun_al11_b70 A119 c119 g140) [(8, .int .i64 2), (15, .int .i64 1), (16, .int .i64 2)], [(γ101 0, 24, aun_al11_c2)]⟩, [], [], by kernel_rfl, .nil, ?_⟩
  refine lv hI137 11 ?_
  refine ck 3 [] [] fun γ214 => ⟨⟨[], upv (aun_al11_b70 A119 c119 g140) [(8, .int .i64 2), (12, .int .i64 2), (14, .bool false), (15, .int .i64 1), (16, .int .i64 2)], [(γ101 0, 24, aun_al11_c2)]⟩, [], [], by kernel_rfl, .nil, ?_⟩
  refine crm hR135 (.tuple #[]) [] [] [true] ?_
  refine crm hR131 (.tuple #[]) [] [] [true] ?_
  refine crm hR123 (.tuple #[]) [] [] [true] ?_
  refine ck 1 [] [] fun γ215 => ⟨⟨kt (bdy Try.f30) [1, 1, 1, 0, 1] [], (aun_al11_l71 γ101 A119 c119), [(γ101 0, 24, aun_al11_c2)]⟩, [], [], by kernel_rfl, .nil, ?_⟩
  refine ci (f := 55) (args := [.slice A119 2 c119]) (fn := Try.f55) (c := bdy Try.f55) rfl (fun R216 hR216 => ?_)
  refine ck 5 [] [] fun γ217 => ⟨⟨kt (bdy Try.f55) [1, 1, 0, 1, 0] [], (aun_al11_b74 A119 c119), [(γ101 0, 24, aun_al11_c2)]⟩, [], [], by kernel_rfl, .nil, ?_⟩
  refine lu 12 (fun I218 hI218 => ?_)
  refine ck 4 [] [] fun γ219 => ⟨⟨ktl [1, 0, 0, 0] (I218 12) (kt (bdy Try.f55) [1, 1, 0, 1, 0] []), upv (aun_al11_b74 A119 c119) [(10, .int .i64 1), (11, .slice A119 2 c119), (12, .int .i64 2), (13, .bool true)], [(γ101 0, 24, aun_al11_c2)]⟩, [], [], by kernel_rfl, .nil, ?_⟩
  refine dr [] [] .nil ?_
  refine df [0, 1, 4, 5, 6] [] [] [] [] .nil ?_
  refine dixr 2 (n := 2) (sz := 3) (j := 1) hg140 1 (by omega) ?_
  refine dldr 3 (n := 3) (row := true) [.int .i64 1, .int .i64 0, .int .i64 0] (fun W hW => ((Rd.atE (own_rd encT46_len (hW.at 0 rfl)) hg140 (by first | omega | simp))).ld (i := 1) (by first | omega | simp) 0 [.int .i64 1, .int .i64 0, .int .i64 0] rfl) ?_
  refine dixr 7 (n := 2) (sz := 3) (j := 0) hg140 0 (by omega) ?_
  refine dldr 8 (n := 3) (row := true) [.int .i64 1, .int .i64 0, .int .i64 0] (fun W hW => ((Rd.atE (own_rd encT46_len (hW.at 0 rfl)) hg140 (by first | omega | simp))).ld (i := 0) (by first | omega | simp) 0 [.int .i64 1, .int .i64 0, .int .i64 0] rfl) ?_
  refine deqr 9 (pos := true) (r := true) true (fun W => eq46s 1 0 0 W) rfl ?_
  refine de (fs := (ktl [1, 0, 0, 0] (I218 12) (kt (bdy Try.f55) [1, 1, 0, 1, 0] [])).tail) ?_
  refine st0 (fs := (ktl [1, 0, 0, 0] (I218 12) (kt (bdy Try.f55) [1, 1, 0, 1, 0] [])).tail) ((aun_al11_b77 A119 c119 g140)) [(γ101 0, 24, aun_al11_c2)] ?_
  refine ck 2 [] [] fun γ220 => ⟨⟨ktl [1, 0, 0, 1, 0, 0, 2] (I218 12) (kt (bdy Try.f55) [1, 1, 0, 1, 0] []), upv (aun_al11_b77 A119 c119 g140) [(26, .slice A119 2 c119), (27, .int .i64 1)], [(γ101 0, 24, aun_al11_c2)]⟩, [], [], by kernel_rfl, .nil, ?_⟩
  refine shp 0 rfl fun A' c' e' hc' hz' hl' => ?_
  cases e'
  have hcp221 : 2 ≤ c119 := hc'
  clear hl' hz'
  refine sl (A := A119) (n := 2) (c := c119) (sz := 3) (some (.int .i64 1)) none none 1 2 c119 rfl rfl rfl rfl (by omega) (by omega) (by omega) ?_
  refine ck 2 [] [] fun γ222 => ⟨⟨ktl [1, 0, 0, 1, 0, 1, 0, 1, 0] (I218 12) (kt (bdy Try.f55) [1, 1, 0, 1, 0] []), upv (aun_al11_b77 A119 c119 g140) [(4, .slice (cutp A119 1 c119 3) 1 (c119 - 1)), (5, .int .i64 1), (26, .slice A119 2 c119), (27, .int .i64 1), (28, .slice (cutp A119 1 c119 3) 1 (c119 - 1))], [(γ101 0, 24, aun_al11_c2)]⟩, [], [], by kernel_rfl, .nil, ?_⟩
  refine lu 12 (fun I223 hI223 => ?_)
  refine ck 6 [] [] fun γ224 => ⟨⟨ktl [1, 0, 0, 1, 0, 1, 1, 0, 2] (I218 12) (kt (bdy Try.f55) [1, 1, 0, 1, 0] []), upv (aun_al11_b77 A119 c119 g140) [(4, .slice (cutp A119 1 c119 3) 1 (c119 - 1)), (5, .int .i64 1), (26, .slice A119 2 c119), (27, .int .i64 1), (28, .slice (cutp A119 1 c119 3) 1 (c119 - 1)), (29, .int .i64 1), (30, .slice (cutp A119 1 c119 3) 1 (c119 - 1)), (31, .int .i64 1), (32, .bool false), (54, .slice A119 2 c119), (55, .int .i64 1)], [(γ101 0, 24, aun_al11_c2)]⟩, [], [], by kernel_rfl, .nil, ?_⟩
  refine sl (A := A119) (n := 2) (c := c119) (sz := 3) (some (.int .i64 1)) none none 1 2 c119 rfl rfl rfl rfl (by omega) (by omega) (by omega) ?_
  refine clr 0 (e := 46) (sz := 3) (n := 2) (c := c119) (A := A119) (xs := ([(1, 0, 0), (1, 0, 0)] : List (Int × Int × Int)).flatMap encT46) (z := [.int .i64 0, .int .i64 0, .int .i64 0]) 1 1 rfl rfl (by decide) [.int .i64 0, .int .i64 0, .int .i64 0] (by kernel_rfl) rfl (([(1, 0, 0), (0, 0, 0)] : List (Int × Int × Int)).flatMap encT46) (by rfl) ?_
  refine ck 2 [] [] fun γ225 => ⟨⟨ktl [1, 0, 0, 1, 0, 1, 1, 1, 0, 2] (I218 12) (kt (bdy Try.f55) [1, 1, 0, 1, 0] []), (aun_al11_b82 A119 c119 g140), [(γ101 0, 24, aun_al11_c2)]⟩, [], [], by kernel_rfl, .nil, ?_⟩
  refine sl0 (A := A119) (n := 2) (c := c119) (sz := 3) (some (.int .i64 1)) none 1 c119 rfl rfl rfl (by omega) (by omega) ?_ none rfl
  refine ck 1 [] [] fun γ226 => ⟨⟨ktl [1, 0, 0, 1, 0, 1, 1, 1, 1] (I218 12) (kt (bdy Try.f55) [1, 1, 0, 1, 0] []), upv (aun_al11_b82 A119 c119 g140) [(2, .slice A119 1 c119), (59, .slice A119 1 c119)], [(γ101 0, 24, aun_al11_c2)]⟩, [], [], by kernel_rfl, .nil, ?_⟩
  refine crm hR216 (.slice A119 1 c119) [] [] [true] ?_
  refine ck 1 [] [] fun γ227 => ⟨⟨kt (bdy Try.f30) [1, 1, 1, 1] [], (aun_al11_l83 γ101 A119 c119), [(γ101 0, 24, aun_al11_c2)]⟩, [], [], by kernel_rfl, .nil, ?_⟩
  refine crm hR102 (.slice A119 1 c119) [] [] [true] ?_
  refine ck 2 [] [] fun γ228 => ⟨⟨kt (bdy Try.f12) [1, 0, 5] [], (aun_al11_l84 γ1 γ101 A119 c119 γ228), [(γ228 1, 22, [.slice none 0 0]), (γ101 0, 24, aun_al11_c2)]⟩, [], [], by kernel_rfl, .nil, ?_⟩
  refine ci (f := 30) (args := [.slice (some ⟨γ228 1, 0, none⟩) 1 1]) (fn := Try.f30) (c := bdy Try.f30) rfl (fun R229 hR229 => ?_)
  refine ck 2 [] [] fun γ230 => ⟨⟨kt (bdy Try.f30) [1, 0, 1] [], (aun_al11_l85 γ228), [(γ228 1, 22, [.slice none 0 0]), (γ101 0, 24, aun_al11_c2)]⟩, [], [], by kernel_rfl, .nil, ?_⟩
  refine ci (f := 52) (args := [.slice (some ⟨γ228 1, 0, none⟩) 1 1]) (fn := Try.f52) (c := bdy Try.f52) rfl (fun R231 hR231 => ?_)
  refine ck 5 [] [] fun γ232 => ⟨⟨kt (bdy Try.f52) [1, 1, 0, 1, 0] [], (aun_al11_b87 γ228), [(γ228 1, 22, [.slice none 0 0]), (γ101 0, 24, aun_al11_c2)]⟩, [], [], by kernel_rfl, .nil, ?_⟩
  refine lu 12 (fun I233 hI233 => ?_)
  refine ck 13 [(1, 0)] [] fun γ234 => ⟨⟨ktp (I233 12) (kt (bdy Try.f52) [1, 1, 0, 1, 0] []), upv (aun_al11_b87 γ228) [(5, .slice none 0 0), (11, .int .i64 1), (12, .bool true), (13, .pointer (some ⟨γ228 1, 0, none⟩)), (14, .slice none 0 0), (15, .int .i64 0), (16, .slice none 0 0), (17, .int .i64 0), (18, .int .i64 0), (19, .int .i64 0), (20, .bool false), (22, .int .i64 1)], [(γ228 1, 22, [.slice none 0 0]), (γ101 0, 24, aun_al11_c2)]⟩, [(1, γ228 1)], [(0 : Int) ≤ 0 ∧ 0 < ((1 : Nat) : Int)], by kernel_rfl, (.cons ⟨by omega, by omega⟩ .nil), ?_⟩
  refine lv hI233 11 ?_
  refine ck 2 [] [] fun γ235 => ⟨⟨kt (bdy Try.f52) [1, 1, 1, 0, 1] [], (aun_al11_b90 γ228), [(γ228 1, 22, [.slice none 0 0]), (γ101 0, 24, aun_al11_c2)]⟩, [], [], by kernel_rfl, .nil, ?_⟩
  refine ci (f := 77) (args := [.slice none 0 0, .int .i64 0]) (fn := Try.f77) (c := bdy Try.f77) rfl (fun R236 hR236 => ?_)
  refine ck 15 [] [] fun γ237 => ⟨⟨kt (bdy Try.f77) [1, 1, 1, 1] [], aun_al11_b93, [(γ228 1, 22, [.slice none 0 0]), (γ101 0, 24, aun_al11_c2)]⟩, [], [], by kernel_rfl, .nil, ?_⟩
  refine crm hR236 (.slice none 0 0) [] [] [true, true] ?_
  refine ck 4 [] [] fun γ238 => ⟨⟨kt (bdy Try.f52) [1, 1, 1, 1, 0, 1, 0] [], (aun_al11_b96 γ228), [(γ228 1, 22, [.slice none 0 0]), (γ101 0, 24, aun_al11_c2)]⟩, [], [], by kernel_rfl, .nil, ?_⟩
  refine lu 12 (fun I239 hI239 => ?_)
  refine ck 6 [(1, 0)] [] fun γ240 => ⟨⟨ktl [1, 1, 0, 0, 1, 2] (I239 12) (kt (bdy Try.f52) [1, 1, 1, 1, 0, 1, 0] []), upv (aun_al11_b96 γ228) [(8, .slice none 0 0), (28, .bool true), (29, .pointer (some ⟨γ228 1, 0, none⟩)), (30, .slice none 0 0), (31, .slice none 0 0), (32, .slice none 0 0)], [(γ228 1, 22, [.slice none 0 0]), (γ101 0, 24, aun_al11_c2)]⟩, [(1, γ228 1)], [(0 : Int) ≤ 0 ∧ 0 < ((1 : Nat) : Int)], by kernel_rfl, (.cons ⟨by omega, by omega⟩ .nil), ?_⟩
  refine nilrow 46 3 ?_
  refine aps (enc := encT46) (l := ([] : List (Int × Int × Int))) 0 24 rfl (fun W hW => (Rd.nil _ _ _)) encT46_len encT46_cell (by first | omega | (simp only [List.length_append, List.length_cons, List.length_nil]; omega)) (by simp only [maxLen]; first | omega | (simp only [List.length_append, List.length_cons, List.length_nil]; omega)) (([] : List (Int × Int × Int)).length) (([] : List (Int × Int × Int)).flatMap encT46) (by simp) (by simp) fun A241 c241 => ?_
  refine ck 3 [] [] fun γ242 => ⟨⟨ktp (I239 12) (kt (bdy Try.f52) [1, 1, 1, 1, 0, 1, 0] []), upv (aun_al11_b96 γ228) [(6, .slice A241 0 c241), (8, .slice none 0 0), (27, .int .i64 1), (28, .bool true), (29, .pointer (some ⟨γ228 1, 0, none⟩)), (30, .slice none 0 0), (31, .slice none 0 0), (32, .slice none 0 0), (33, .slice A241 0 c241), (34, .int .i64 1)], [(γ228 1, 22, [.slice none 0 0]), (γ101 0, 24, aun_al11_c2)]⟩, [], [], by kernel_rfl, .nil, ?_⟩
  refine lv hI239 11 ?_
  refine ck 3 [] [] fun γ243 => ⟨⟨kt (bdy Try.f52) [1, 1, 1, 1, 1, 1] [], upv (aun_al11_b96 γ228) [(2, .slice A241 0 c241), (6, .slice A241 0 c241), (8, .slice none 0 0), (27, .int .i64 1), (28, .bool false), (29, .pointer (some ⟨γ228 1, 0, none⟩)), (30, .slice none 0 0), (31, .slice none 0 0), (32, .slice none 0 0), (33, .slice A241 0 c241), (34, .int .i64 1), (35, .slice A241 0 c241)], [(γ228 1, 22, [.slice none 0 0]), (γ101 0, 24, aun_al11_c2)]⟩, [], [], by kernel_rfl, .nil, ?_⟩
  refine crm hR231 (.slice A241 0 c241) [] [] [false, true] ?_
  refine ck 2 [] [] fun γ244 => ⟨⟨kt (bdy Try.f30) [1, 1, 0, 1] [], (aun_al11_l97 γ228 A241 c241), [(γ101 0, 24, aun_al11_c2)]⟩, [], [], by kernel_rfl, .nil, ?_⟩
  refine ci (f := 53) (args := [.slice A241 0 c241, .func (.func 54) #[] #[]]) (fn := Try.f53) (c := bdy Try.f53) rfl (fun R245 hR245 => ?_)
  refine ck 7 [] [] fun γ246 => ⟨⟨kt (bdy Try.f53) [1, 4] [], (aun_al11_l98 A241 c241), [(γ101 0, 24, aun_al11_c2)]⟩, [], [], by kernel_rfl, .nil, ?_⟩
  refine ci (f := 79) (args := [.int .u64 0]) (fn := Try.f79) (c := bdy Try.f79) rfl (fun R247 hR247 => ?_)
  refine ck 2 [] [] fun γ248 => ⟨⟨kt (bdy Try.f79) [1, 1, 0, 1] [], aun_al11_l99, [(γ101 0, 24, aun_al11_c2)]⟩, [], [], by kernel_rfl, .nil, ?_⟩
  refine ci (f := 99) (args := [.int .u64 0]) (fn := Try.f99) (c := bdy Try.f99) rfl (fun R249 hR249 => ?_)
  refine ck 14 [] [] fun γ250 => ⟨⟨kt (bdy Try.f99) [1, 1, 1, 1, 1] [], aun_al11_b102, [(γ101 0, 24, aun_al11_c2)]⟩, [], [], by kernel_rfl, .nil, ?_⟩
  refine crm hR249 (.int .i64 0) [] [] [true] ?_
  refine ck 1 [] [] fun γ251 => ⟨⟨kt (bdy Try.f79) [1, 1, 1] [], aun_al11_l103, [(γ101 0, 24, aun_al11_c2)]⟩, [], [], by kernel_rfl, .nil, ?_⟩
  refine crm hR247 (.int .i64 0) [] [] [true] ?_
  refine ck 1 [] [] fun γ252 => ⟨⟨kt (bdy Try.f53) [1, 6] [], (aun_al11_l104 A241 c241), [(γ101 0, 24, aun_al11_c2)]⟩, [], [], by kernel_rfl, .nil, ?_⟩
  refine ci (f := 78) (args := [.slice A241 0 c241, .int .i64 0, .int .i64 0, .int .i64 0, .func (.func 54) #[] #[]]) (fn := Try.f78) (c := bdy Try.f78) rfl (fun R253 hR253 => ?_)
  refine ck 2 [] [] fun γ254 => ⟨⟨kt (bdy Try.f78) [1, 1, 0] [], (aun_al11_b106 A241 c241), [(γ101 0, 24, aun_al11_c2)]⟩, [], [], by kernel_rfl, .nil, ?_⟩
  refine lu 12 (fun I255 hI255 => ?_)
  refine ck 10 [] [] fun γ256 => ⟨⟨ktl [0, 1, 0, 1, 0, 0, 4] (I255 12) (kt (bdy Try.f78) [1, 1, 0] []), upv (aun_al11_b106 A241 c241) [(12, .int .i64 0), (21, .int .i64 0), (22, .int .i64 0), (23, .int .i64 0), (24, .int .i64 0), (25, .bool true), (26, .slice A241 0 c241), (27, .int .i64 0), (28, .int .i64 0), (29, .func (.func 54) #[] #[])], [(γ101 0, 24, aun_al11_c2)]⟩, [], [], by kernel_rfl, .nil, ?_⟩
  refine ci (f := 90) (args := [.slice A241 0 c241, .int .i64 0, .int .i64 0, .func (.func 54) #[] #[]]) (fn := Try.f90) (c := bdy Try.f90) rfl (fun R257 hR257 => ?_)
  refine ck 3 [] [] fun γ258 => ⟨⟨kt (bdy Try.f90) [1, 0] [], (aun_al11_b108 A241 c241), [(γ101 0, 24, aun_al11_c2)]⟩, [], [], by kernel_rfl, .nil, ?_⟩
  refine lu 12 (fun I259 hI259 => ?_)
  refine ck 3 [] [] fun γ260 => ⟨⟨[], upv (aun_al11_b108 A241 c241) [(12, .int .i64 1), (13, .int .i64 0), (14, .bool false)], [(γ101 0, 24, aun_al11_c2)]⟩, [], [], by kernel_rfl, .nil, ?_⟩
  refine crm hR257 (.tuple #[]) [] [] [true] ?_
  refine crm hR253 (.tuple #[]) [] [] [true] ?_
  refine crm hR245 (.tuple #[]) [] [] [true] ?_
  refine ck 1 [] [] fun γ261 => ⟨⟨kt (bdy Try.f30) [1, 1, 1, 0, 1] [], (aun_al11_l109 γ228 A241 c241), [(γ101 0, 24, aun_al11_c2)]⟩, [], [], by kernel_rfl, .nil, ?_⟩
  refine ci (f := 55) (args := [.slice A241 0 c241]) (fn := Try.f55) (c := bdy Try.f55) rfl (fun R262 hR262 => ?_)
  refine ck 6 [] [] fun γ263 => ⟨⟨kt (bdy Try.f55) [1, 0, 1, 0, 1] [], (aun_al11_b111 A241 c241), [(γ101 0, 24, aun_al11_c2)]⟩, [], [], by kernel_rfl, .nil, ?_⟩
  refine crm hR262 (.slice A241 0 c241) [] [] [true] ?_
  refine ck 1 [] [] fun γ264 => ⟨⟨kt (bdy Try.f30) [1, 1, 1, 1] [], (aun_al11_l112 γ228 A241 c241), [(γ101 0, 24, aun_al11_c2)]⟩, [], [], by kernel_rfl, .nil, ?_⟩
  refine crm hR229 (.slice A241 0 c241) [] [] [true] ?_
  refine ck 2 [(2, 0)] [] fun γ265 => ⟨⟨kt (bdy Try.f12) [1, 1] [], (aun_al11_l113 γ1 γ101 A119 c119 γ228 A241 c241), [(γ101 0, 24, (aun_al11_c114 A119 c119 A241 c241))]⟩, [(2, γ101 0)], [], by kernel_rfl, .nil, ?_⟩
  refine rsh 1 (n := 2) (c := c119) (A := A119) (xs := ([(1, 0, 0), (0, 0, 0)] : List (Int × Int × Int)).flatMap encT46) rfl 1 (by decide) (([(1, 0, 0)] : List (Int × Int × Int)).flatMap encT46) (by rfl) ?_
  refine rt (.agg #[.slice A119 1 c119, .slice A241 0 c241]) [(2, 0)] [(2, γ101 0)] (fun W hW => ?_)
  exact ⟨⟨A119, c119, A241, c241⟩, rfl, Fresh.of (R := [rowA 46 3 (.slice A241 0 c241) ([] : List (Int × Int × Int)).length (([] : List (Int × Int × Int)).flatMap encT46), rowA 46 3 (.slice A119 1 c119) ([(1, 0, 0)] : List (Int × Int × Int)).length (([(1, 0, 0)] : List (Int × Int × Int)).flatMap encT46)]) (hW.perm (List.Perm.refl _)) (.cons_cons _ (.cons_cons _ (.cons_cons _ (.slnil))))⟩
def aun_al12_l0 (γ1 : Nat → Nat) (γ201 : Nat → Nat) : List Value := [.slice none 0 0, .slice (some ⟨γ1 2, 0, none⟩) 1 1, zz, zz, .pointer (some ⟨γ201 0, 0, none⟩), .slice none 0 0, .slice (some ⟨γ201 2, 0, none⟩) 1 1, zz, zz, zz, zz, zz]
def aun_al12_c1 : List Value := [.slice none 0 0, .slice none 0 0]
def aun_al12_l2 (γ201 : Nat → Nat) : List Value := [.slice (some ⟨γ201 2, 0, none⟩) 1 1, zz, .slice none 0 0, zz, .slice (some ⟨γ201 2, 0, none⟩) 1 1, zz, zz, zz, zz, zz]
def aun_al12_l3 (γ201 : Nat → Nat) : List Value := [.slice (some ⟨γ201 2, 0, none⟩) 1 1, zz, .slice none 0 0, .int .i64 0, zz, zz, zz, zz, zz, .slice (some ⟨γ201 2, 0, none⟩) 1 1, .int .i64 1, .int .i64 0, zz, zz, zz, zz]
def aun_al12_l4 : List Value := [zz, zz, zz, zz, zz, zz, zz, zz, zz, zz, zz, zz, zz, zz, zz, zz]
def aun_al12_l5 : List Value := [zz, zz, zz, zz]
def aun_al12_b6 (γ201 : Nat → Nat) : List Value := (aun_al12_l3 γ201) ++ (aun_al12_l4 ++ (aun_al12_l5))
def aun_al12_l7 (γ201 : Nat → Nat) : List Value := [.slice (some ⟨γ201 2, 0, none⟩) 1 1, zz, .slice none 0 0, .int .i64 0, zz, .slice none 0 0, zz, zz, zz, .slice (some ⟨γ201 2, 0, none⟩) 1 1, .int .i64 1, .int .i64 1, .bool false, .pointer (some ⟨γ201 2, 0, none⟩), .slice none 0 0, .int .i64 0]
def aun_al12_l8 : List Value := [.slice none 0 0, .int .i64 0, .int .i64 0, .int .i64 0, .bool false, zz, .int .i64 1, .int .i64 0, zz, zz, zz, zz, zz, zz, zz, zz]
def aun_al12_b9 (γ201 : Nat → Nat) : List Value := (aun_al12_l7 γ201) ++ (aun_al12_l8 ++ (aun_al12_l5))
def aun_al12_l10 : List Value := [.slice none 0 0, .int .i64 0, zz, zz, .slice none 0 0, .int .i64 0, .bool false, zz, .int .i64 0, .slice none 0 0, .int .i64 0, .slice none 0 0, .int .i64 0, .int .i64 0, .int .i64 0, .int .i64 0]
def aun_al12_l11 : List Value := [.bool false, zz, zz, zz, zz, zz, zz, zz, zz, zz, .slice none 0 0]
def aun_al12_b12 : List Value := aun_al12_l10 ++ (aun_al12_l11)
def aun_al12_l13 (γ201 : Nat → Nat) : List Value := [.slice (some ⟨γ201 2, 0, none⟩) 1 1, zz, .slice none 0 0, .int .i64 0, zz, .slice none 0 0, .slice none 0 0, zz, zz, .slice (some ⟨γ201 2, 0, none⟩) 1 1, .int .i64 1, .int .i64 1, .bool false, .pointer (some ⟨γ201 2, 0, none⟩), .slice none 0 0, .int .i64 0]
def aun_al12_l14 (γ201 : Nat → Nat) : List Value := [.slice none 0 0, .int .i64 0, .int .i64 0, .int .i64 0, .bool false, zz, .int .i64 1, .int .i64 0, .slice none 0 0, .slice (some ⟨γ201 2, 0, none⟩) 1 1, .int .i64 1, .int .i64 0, zz, zz, zz, zz]
def aun_al12_b15 (γ201 : Nat → Nat) : List Value := (aun_al12_l13 γ201) ++ ((aun_al12_l14 γ201) ++ (aun_al12_l5))
def aun_al12_l16 (γ201 : Nat → Nat) (A214 : Option Addr) (c214 : Nat) : List Value := [.slice (some ⟨γ201 2, 0, none⟩) 1 1, zz, .slice none 0 0, .slice A214 0 c214, .slice (some ⟨γ201 2, 0, none⟩) 1 1, .slice A214 0 c214, .slice A214 0 c214, zz, zz, zz]
def aun_al12_l17 (A214 : Option Addr) (c214 : Nat) : List Value := [.slice A214 0 c214, .func (.func 54) #[] #[], zz, zz, .int .i64 0, .slice A214 0 c214, .int .i64 0, .slice A214 0 c214, .int .i64 0, .int .i64 0, .int .u64 0, zz, zz, zz]
def aun_al12_l18 : List Value := [.int .u64 0, zz, .int .i64 0, zz, zz, zz, .int .u64 0, zz]
def aun_al12_l19 : List Value := [.int .u64 0, zz, .int .i64 0, .int .u64 0, .bool false, zz, zz, .int .u64 0, .bool false, zz, zz, zz, zz, .int .u64 0, .bool false, zz]
def aun_al12_l20 : List Value := [zz, zz, zz, .int .i64 0, .int .u64 0, .int .u8 0, .int .u8 0, .int .i64 0, .int .i64 0]
def aun_al12_b21 : List Value := aun_al12_l19 ++ (aun_al12_l20)
def aun_al12_l22 : List Value := [.int .u64 0, zz, .int .i64 0, zz, zz, zz, .int .u64 0, .int .i64 0]
def aun_al12_l23 (A214 : Option Addr) (c214 : Nat) : List Value := [.slice A214 0 c214, .func (.func 54) #[] #[], zz, zz, .int .i64 0, .slice A214 0 c214, .int .i64 0, .slice A214 0 c214, .int .i64 0, .int .i64 0, .int .u64 0, .int .i64 0, .func (.func 54) #[] #[], zz]
def aun_al12_l24 (A214 : Option Addr) (c214 : Nat) : List Value := [.slice A214 0 c214, .int .i64 0, .int .i64 0, .int .i64 0, .func (.func 54) #[] #[], zz, zz, zz, zz, zz, .bool true, .bool true, zz, zz, zz, zz]
def aun_al12_b25 (A214 : Option Addr) (c214 : Nat) : List Value := (aun_al12_l24 A214 c214) ++ (aun_al12_l4 ++ (aun_al12_l4 ++ (aun_al12_l4 ++ (aun_al12_l4 ++ (aun_al12_l4 ++ (aun_al12_l4 ++ (aun_al12_l4 ++ (aun_al12_l4 ++ (aun_al12_l5)))))))))
def aun_al12_l26 (A214 : Option Addr) (c214 : Nat) : List Value := [.slice A214 0 c214, .int .i64 0, .int .i64 0, .func (.func 54) #[] #[], zz, zz, zz, zz, .int .i64 1, zz, .int .i64 0, .int .i64 1, zz, zz, zz, zz]
def aun_al12_l27 : List Value := [zz, zz, zz, zz, zz]
def aun_al12_b28 (A214 : Option Addr) (c214 : Nat) : List Value := (aun_al12_l26 A214 c214) ++ (aun_al12_l4 ++ (aun_al12_l4 ++ (aun_al12_l27)))
def aun_al12_l29 (γ201 : Nat → Nat) (A214 : Option Addr) (c214 : Nat) : List Value := [.slice (some ⟨γ201 2, 0, none⟩) 1 1, zz, .slice none 0 0, .slice A214 0 c214, .slice (some ⟨γ201 2, 0, none⟩) 1 1, .slice A214 0 c214, .slice A214 0 c214, .tuple #[], .slice A214 0 c214, zz]
def aun_al12_l30 (A214 : Option Addr) (c214 : Nat) : List Value := [.slice A214 0 c214, zz, .slice A214 0 c214, zz, zz, zz, .slice A214 0 c214, .int .i64 0, .bool true, .slice A214 0 c214, zz, zz, zz, zz, zz, zz]
def aun_al12_l31 : List Value := [zz, zz, zz, zz, zz, zz, zz, zz, zz, zz, zz, zz, zz]
def aun_al12_b32 (A214 : Option Addr) (c214 : Nat) : List Value := (aun_al12_l30 A214 c214) ++ (aun_al12_l4 ++ (aun_al12_l4 ++ (aun_al12_l31)))
def aun_al12_l33 (γ201 : Nat → Nat) (A214 : Option Addr) (c214 : Nat) : List Value := [.slice (some ⟨γ201 2, 0, none⟩) 1 1, zz, .slice A214 0 c214, .slice A214 0 c214, .slice (some ⟨γ201 2, 0, none⟩) 1 1, .slice A214 0 c214, .slice A214 0 c214, .tuple #[], .slice A214 0 c214, .slice A214 0 c214]
def aun_al12_l34 (γ1 : Nat → Nat) (γ201 : Nat → Nat) (A214 : Option Addr) (c214 : Nat) (γ238 : Nat → Nat) : List Value := [.slice none 0 0, .slice (some ⟨γ1 2, 0, none⟩) 1 1, zz, zz, .pointer (some ⟨γ201 0, 0, none⟩), .slice none 0 0, .slice (some ⟨γ201 2, 0, none⟩) 1 1, .slice A214 0 c214, .slice (some ⟨γ1 2, 0, none⟩) 1 1, .slice (some ⟨γ238 1, 0, none⟩) 1 1, zz, zz]
def aun_al12_c35 (γ1 : Nat → Nat) : List Value := [.slice (some ⟨γ1 2, 0, none⟩) 1 1]
def aun_al12_l36 (γ238 : Nat → Nat) : List Value := [.slice (some ⟨γ238 1, 0, none⟩) 1 1, zz, .slice none 0 0, zz, .slice (some ⟨γ238 1, 0, none⟩) 1 1, zz, zz, zz, zz, zz]
def aun_al12_l37 (γ238 : Nat → Nat) : List Value := [.slice (some ⟨γ238 1, 0, none⟩) 1 1, zz, .slice none 0 0, .int .i64 0, zz, zz, zz, zz, zz, .slice (some ⟨γ238 1, 0, none⟩) 1 1, .int .i64 1, .int .i64 0, zz, zz, zz, zz]
def aun_al12_b38 (γ238 : Nat → Nat) : List Value := (aun_al12_l37 γ238) ++ (aun_al12_l4 ++ (aun_al12_l5))
def aun_al12_l39 (γ1 : Nat → Nat) (γ238 : Nat → Nat) : List Value := [.slice (some ⟨γ238 1, 0, none⟩) 1 1, zz, .slice none 0 0, .int .i64 1, zz, .slice (some ⟨γ1 2, 0, none⟩) 1 1, zz, zz, zz, .slice (some ⟨γ238 1, 0, none⟩) 1 1, .int .i64 1, .int .i64 1, .bool true, .pointer (some ⟨γ238 1, 0, none⟩), .slice (some ⟨γ1 2, 0, none⟩) 1 1, .int .i64 0]
def aun_al12_l40 (γ1 : Nat → Nat) : List Value := [.slice (some ⟨γ1 2, 0, none⟩) 1 1, .int .i64 1, .int .i64 1, .int .i64 1, .bool false, zz, .int .i64 1, zz, zz, zz, zz, zz, zz, zz, zz, zz]
def aun_al12_b41 (γ1 : Nat → Nat) (γ238 : Nat → Nat) : List Value := (aun_al12_l39 γ1 γ238) ++ ((aun_al12_l40 γ1) ++ (aun_al12_l5))
def aun_al12_l42 : List Value := [.slice none 0 0, .int .i64 1, zz, zz, .slice none 0 0, .int .i64 1, .bool false, zz, .int .i64 1, .slice none 0 0, .int .i64 0, .slice none 0 0, .int .i64 0, .int .i64 0, .int .i64 1, .int .i64 1]
def aun_al12_l43 : List Value := [.bool true, .slice none 0 0, .slice none 0 0, .int .i64 0, zz, zz, zz, zz, zz, zz, zz]
def aun_al12_b44 : List Value := aun_al12_l42 ++ (aun_al12_l43)
def aun_al12_l45 (γ1 : Nat → Nat) (γ238 : Nat → Nat) (g249 : Nat) (c250 : Nat) : List Value := [.slice (some ⟨γ238 1, 0, none⟩) 1 1, zz, .slice none 0 0, .int .i64 1, zz, .slice (some ⟨γ1 2, 0, none⟩) 1 1, .slice (some ⟨g249, 0, none⟩) 0 c250, zz, zz, .slice (some ⟨γ238 1, 0, none⟩) 1 1, .int .i64 1, .int .i64 1, .bool false, .pointer (some ⟨γ238 1, 0, none⟩), .slice (some ⟨γ1 2, 0, none⟩) 1 1, .int .i64 0]
def aun_al12_l46 (γ1 : Nat → Nat) (γ238 : Nat → Nat) (g249 : Nat) (c250 : Nat) : List Value := [.slice (some ⟨γ1 2, 0, none⟩) 1 1, .int .i64 1, .int .i64 1, .int .i64 1, .bool false, zz, .int .i64 1, .int .i64 1, .slice (some ⟨g249, 0, none⟩) 0 c250, .slice (some ⟨γ238 1, 0, none⟩) 1 1, .int .i64 1, .int .i64 0, zz, zz, zz, zz]
def aun_al12_b47 (γ1 : Nat → Nat) (γ238 : Nat → Nat) (g249 : Nat) (c250 : Nat) : List Value := (aun_al12_l45 γ1 γ238 g249 c250) ++ ((aun_al12_l46 γ1 γ238 g249 c250) ++ (aun_al12_l5))
def aun_al12_l48 (γ238 : Nat → Nat) (A256 : Option Addr) (c256 : Nat) : List Value := [.slice (some ⟨γ238 1, 0, none⟩) 1 1, zz, .slice none 0 0, .slice A256 1 c256, .slice (some ⟨γ238 1, 0, none⟩) 1 1, .slice A256 1 c256, .slice A256 1 c256, zz, zz, zz]
def aun_al12_l49 (A256 : Option Addr) (c256 : Nat) : List Value := [.slice A256 1 c256, .func (.func 54) #[] #[], zz, zz, .int .i64 1, .slice A256 1 c256, .int .i64 1, .slice A256 1 c256, .int .i64 1, .int .i64 1, .int .u64 1, zz, zz, zz]
def aun_al12_l50 : List Value := [.int .u64 1, zz, .int .i64 0, zz, zz, zz, .int .u64 1, zz]
def aun_al12_l51 : List Value := [.int .u64 1, zz, .int .i64 1, .int .u64 1, .bool false, zz, zz, .int .u64 1, .bool false, zz, zz, zz, zz, .int .u64 1, .bool false, zz]
def aun_al12_l52 : List Value := [zz, zz, zz, .int .i64 0, .int .u64 1, .int .u8 1, .int .u8 1, .int .i64 1, .int .i64 1]
def aun_al12_b53 : List Value := aun_al12_l51 ++ (aun_al12_l52)
def aun_al12_l54 : List Value := [.int .u64 1, zz, .int .i64 1, zz, zz, zz, .int .u64 1, .int .i64 1]
def aun_al12_l55 (A256 : Option Addr) (c256 : Nat) : List Value := [.slice A256 1 c256, .func (.func 54) #[] #[], zz, zz, .int .i64 1, .slice A256 1 c256, .int .i64 1, .slice A256 1 c256, .int .i64 1, .int .i64 1, .int .u64 1, .int .i64 1, .func (.func 54) #[] #[], zz]
def aun_al12_l56 (A256 : Option Addr) (c256 : Nat) : List Value := [.slice A256 1 c256, .int .i64 0, .int .i64 1, .int .i64 1, .func (.func 54) #[] #[], zz, zz, zz, zz, zz, .bool true, .bool true, zz, zz, zz, zz]
def aun_al12_b57 (A256 : Option Addr) (c256 : Nat) : List Value := (aun_al12_l56 A256 c256) ++ (aun_al12_l4 ++ (aun_al12_l4 ++ (aun_al12_l4 ++ (aun_al12_l4 ++ (aun_al12_l4 ++ (aun_al12_l4 ++ (aun_al12_l4 ++ (aun_al12_l4 ++ (aun_al12_l5)))))))))
def aun_al12_l58 (A256 : Option Addr) (c256 : Nat) : List Value := [.slice A256 1 c256, .int .i64 0, .int .i64 1, .func (.func 54) #[] #[], zz, zz, zz, zz, .int .i64 1, zz, .int .i64 0, .int .i64 1, zz, zz, zz, zz]
def aun_al12_b59 (A256 : Option Addr) (c256 : Nat) : List Value := (aun_al12_l58 A256 c256) ++ (aun_al12_l4 ++ (aun_al12_l4 ++ (aun_al12_l27)))
def aun_al12_l60 (γ238 : Nat → Nat) (A256 : Option Addr) (c256 : Nat) : List Value := [.slice (some ⟨γ238 1, 0, none⟩) 1 1, zz, .slice none 0 0, .slice A256 1 c256, .slice (some ⟨γ238 1, 0, none⟩) 1 1, .slice A256 1 c256, .slice A256 1 c256, .tuple #[], .slice A256 1 c256, zz]
def aun_al12_l61 (A256 : Option Addr) (c256 : Nat) : List Value := [.slice A256 1 c256, zz, .slice A256 1 c256, zz, zz, zz, .slice A256 1 c256, .int .i64 1, .bool true, .slice A256 1 c256, zz, zz, zz, zz, zz, zz]
def aun_al12_b62 (A256 : Option Addr) (c256 : Nat) : List Value := (aun_al12_l61 A256 c256) ++ (aun_al12_l4 ++ (aun_al12_l4 ++ (aun_al12_l31)))
def aun_al12_l63 (γ238 : Nat → Nat) (A256 : Option Addr) (c256 : Nat) : List Value := [.slice (some ⟨γ238 1, 0, none⟩) 1 1, zz, .slice A256 1 c256, .slice A256 1 c256, .slice (some ⟨γ238 1, 0, none⟩) 1 1, .slice A256 1 c256, .slice A256 1 c256, .tuple #[], .slice A256 1 c256, .slice A256 1 c256]
def aun_al12_l64 (γ1 : Nat → Nat) (γ201 : Nat → Nat) (A214 : Option Addr) (c214 : Nat) (γ238 : Nat → Nat) (A256 : Option Addr) (c256 : Nat) : List Value := [.slice none 0 0, .slice (some ⟨γ1 2, 0, none⟩) 1 1, zz, zz, .pointer (some ⟨γ201 0, 0, none⟩), .slice none 0 0, .slice (some ⟨γ201 2, 0, none⟩) 1 1, .slice A214 0 c214, .slice (some ⟨γ1 2, 0, none⟩) 1 1, .slice (some ⟨γ238 1, 0, none⟩) 1 1, .slice A256 1 c256, .agg #[.slice A214 0 c214, .slice A256 1 c256]]
def aun_al12_c65 (A214 : Option Addr) (c214 : Nat) (A256 : Option Addr) (c256 : Nat) : List Value := [.slice A214 0 c214, .slice A256 1 c256]
set_option maxHeartbeats 8000000 in
set_option maxRecDepth 100000 in
theorem aun_al12 (γ1 : Nat → Nat) {w : World} (hr0 : Rd w (.slice (some ⟨γ1 2, 0, none⟩) 1 1) 3 encT46 ([(1, 0, 0)] : List (Int × Int × Int))) (hb0 : ([(1, 0, 0)] : List (Int × Int × Int)).length ≤ 1000) : Calls Try.prog 12 #[.slice none 0 0, .slice (some ⟨γ1 2, 0, none⟩) 1 1] w fun e w' => ∃ x : (Option Addr) × Nat × (Option Addr) × Nat, e = .returned (.agg #[.slice x.1 0 x.2.1, .slice x.2.2.1 1 x.2.2.2]) ∧ Fresh w w' [rowA 46 3 (.slice x.2.2.1 1 x.2.2.2) ([(1, 0, 0)] : List (Int × Int × Int)).length (([(1, 0, 0)] : List (Int × Int × Int)).flatMap encT46), rowA 46 3 (.slice x.1 0 x.2.1) ([] : List (Int × Int × Int)).length (([] : List (Int × Int × Int)).flatMap encT46)] := by
  refine enter (args := [.slice none 0 0, .slice (some ⟨γ1 2, 0, none⟩) 1 1]) (fn := Try.f12) rfl (c := bdy Try.f12) (by kernel_rfl) ?_
  have hcap0 := hr0.cap.2
  refine ck 3 [] [] fun γ201 => ⟨⟨kt (bdy Try.f12) [1, 0, 2] [], (aun_al12_l0 γ1 γ201), [(γ201 2, 22, [.slice none 0 0]), (γ201 0, 24, aun_al12_c1)]⟩, [], [], by kernel_rfl, .nil, ?_⟩
  refine ci (f := 30) (args := [.slice (some ⟨γ201 2, 0, none⟩) 1 1]) (fn := Try.f30) (c := bdy Try.f30) rfl (fun R202 hR202 => ?_)
  refine ck 2 [] [] fun γ203 => ⟨⟨kt (bdy Try.f30) [1, 0, 1] [], (aun_al12_l2 γ201), [(γ201 2, 22, [.slice none 0 0]), (γ201 0, 24, aun_al12_c1)]⟩, [], [], by kernel_rfl, .nil, ?_⟩
  refine ci (f := 52) (args := [.slice (some ⟨γ201 2, 0, none⟩) 1 1]) (fn := Try.f52) (c := bdy Try.f52) rfl (fun R204 hR204 => ?_)
  refine ck 5 [] [] fun γ205 => ⟨⟨kt (bdy Try.f52) [1, 1, 0, 1, 0] [], (aun_al12_b6 γ201), [(γ201 2, 22, [.slice none 0 0]), (γ201 0, 24, aun_al12_c1)]⟩, [], [], by kernel_rfl, .nil, ?_⟩
  refine lu 12 (fun I206 hI206 => ?_)
  refine ck 13 [(1, 0)] [] fun γ207 => ⟨⟨ktp (I206 12) (kt (bdy Try.f52) [1, 1, 0, 1, 0] []), upv (aun_al12_b6 γ201) [(5, .slice none 0 0), (11, .int .i64 1), (12, .bool true), (13, .pointer (some ⟨γ201 2, 0, none⟩)), (14, .slice none 0 0), (15, .int .i64 0), (16, .slice none 0 0), (17, .int .i64 0), (18, .int .i64 0), (19, .int .i64 0), (20, .bool false), (22, .int .i64 1)], [(γ201 2, 22, [.slice none 0 0]), (γ201 0, 24, aun_al12_c1)]⟩, [(1, γ201 2)], [(0 : Int) ≤ 0 ∧ 0 < ((1 : Nat) : Int)], by kernel_rfl, (.cons ⟨by omega, by omega⟩ .nil), ?_⟩
  refine lv hI206 11 ?_
  refine ck 2 [] [] fun γ208 => ⟨⟨kt (bdy Try.f52) [1, 1, 1, 0, 1] [], (aun_al12_b9 γ201), [(γ201 2, 22, [.slice none 0 0]), (γ201 0, 24, aun_al12_c1)]⟩, [], [], by kernel_rfl, .nil, ?_⟩
  refine ci (f := 77) (args := [.slice none 0 0, .int .i64 0]) (fn := Try.f77) (c := bdy Try.f77) rfl (fun R209 hR209 => ?_)
  refine ck 15 [] [] fun γ210 => ⟨⟨kt (bdy Try.f77) [1, 1, 1, 1] [], aun_al12_b12, [(γ201 2, 22, [.slice none 0 0]), (γ201 0, 24, aun_al12_c1)]⟩, [], [], by kernel_rfl, .nil, ?_⟩
  refine crm hR209 (.slice none 0 0) [] [] [true, true] ?_
  refine ck 4 [] [] fun γ211 => ⟨⟨kt (bdy Try.f52) [1, 1, 1, 1, 0, 1, 0] [], (aun_al12_b15 γ201), [(γ201 2, 22, [.slice none 0 0]), (γ201 0, 24, aun_al12_c1)]⟩, [], [], by kernel_rfl, .nil, ?_⟩
  refine lu 12 (fun I212 hI212 => ?_)
  refine ck 6 [(1, 0)] [] fun γ213 => ⟨⟨ktl [1, 1, 0, 0, 1, 2] (I212 12) (kt (bdy Try.f52) [1, 1, 1, 1, 0, 1, 0] []), upv (aun_al12_b15 γ201) [(8, .slice none 0 0), (28, .bool true), (29, .pointer (some ⟨γ201 2, 0, none⟩)), (30, .slice none 0 0), (31, .slice none 0 0), (32, .slice none 0 0)], [(γ201 2, 22, [.slice none 0 0]), (γ201 0, 24, aun_al12_c1)]⟩, [(1, γ201 2)], [(0 : Int) ≤ 0 ∧ 0 < ((1 : Nat) : Int)], by kernel_rfl, (.cons ⟨by omega, by omega⟩ .nil), ?_⟩
  refine nilrow 46 3 ?_
  refine aps (enc := encT46) (l := ([] : List (Int × Int × Int))) 0 24 rfl (fun W hW => (Rd.nil _ _ _)) encT46_len encT46_cell (by first | omega | (simp only [List.length_append, List.length_cons, List.length_nil]; omega)) (by simp only [maxLen]; first | omega | (simp only [List.length_append, List.length_cons, List.length_nil]; omega)) (([] : List (Int × Int × Int)).length) (([] : List (Int × Int × Int)).flatMap encT46) (by simp) (by simp) fun A214 c214 => ?_
  refine ck 3 [] [] fun γ215 => ⟨⟨ktp (I212 12) (kt (bdy Try.f52) [1, 1, 1, 1, 0, 1, 0] []), upv (aun_al12_b15 γ201) [(6, .slice A214 0 c214), (8, .slice none 0 0), (27, .int .i64 1), (28, .bool true), (29, .pointer (some ⟨γ201 2, 0, none⟩)), (30, .slice none 0 0), (31, .slice none 0 0), (32, .slice none 0 0), (33, .slice A214 0 c214), (34, .int .i64 1)], [(γ201 2, 22, [.slice none 0 0]), (γ201 0, 24, aun_al12_c1)]⟩, [], [], by kernel_rfl, .nil, ?_⟩
  refine lv hI212 11 ?_
  refine ck 3 [] [] fun γ216 => ⟨⟨kt (bdy Try.f52) [1, 1, 1, 1, 1, 1] [], upv (aun_al12_b15 γ201) [(2, .slice A214 0 c214), (6, .slice A214 0 c214), (8, .slice none 0 0), (27, .int .i64 1), (28, .bool false), (29, .pointer (some ⟨γ201 2, 0, none⟩)), (30, .slice none 0 0), (31, .slice none 0 0), (32, .slice none 0 0), (33, .slice A214 0 c214), (34, .int .i64 1), (35, .slice A214 0 c214)], [(γ201 2, 22, [.slice none 0 0]), (γ201 0, 24, aun_al12_c1)]⟩, [], [], by kernel_rfl, .nil, ?_⟩
  refine crm hR204 (.slice A214 0 c214) [] [] [false, true] ?_
  refine ck 2 [] [] fun γ217 => ⟨⟨kt (bdy Try.f30) [1, 1, 0, 1] [], (aun_al12_l16 γ201 A214 c214), [(γ201 0, 24, aun_al12_c1)]⟩, [], [], by kernel_rfl, .nil, ?_⟩
  refine ci (f := 53) (args := [.slice A214 0 c214, .func (.func 54) #[] #[]]) (fn := Try.f53) (c := bdy Try.f53) rfl (fun R218 hR218 => ?_)
  refine ck 7 [] [] fun γ219 => ⟨⟨kt (bdy Try.f53) [1, 4] [], (aun_al12_l17 A214 c214), [(γ201 0, 24, aun_al12_c1)]⟩, [], [], by kernel_rfl, .nil, ?_⟩
  refine ci (f := 79) (args := [.int .u64 0]) (fn := Try.f79) (c := bdy Try.f79) rfl (fun R220 hR220 => ?_)
  refine ck 2 [] [] fun γ221 => ⟨⟨kt (bdy Try.f79) [1, 1, 0, 1] [], aun_al12_l18, [(γ201 0, 24, aun_al12_c1)]⟩, [], [], by kernel_rfl, .nil, ?_⟩
  refine ci (f := 99) (args := [.int .u64 0]) (fn := Try.f99) (c := bdy Try.f99) rfl (fun R222 hR222 => ?_)
  refine ck 14 [] [] fun γ223 => ⟨⟨kt (bdy Try.f99) [1, 1, 1, 1, 1] [], aun_al12_b21, [(γ201 0, 24, aun_al12_c1)]⟩, [], [], by kernel_rfl, .nil, ?_⟩
  refine crm hR222 (.int .i64 0) [] [] [true] ?_
  refine ck 1 [] [] fun γ224 => ⟨⟨kt (bdy Try.f79) [1, 1, 1] [], aun_al12_l22, [(γ201 0, 24, aun_al12_c1)]⟩, [], [], by kernel_rfl, .nil, ?_⟩
  refine crm hR220 (.int .i64 0) [] [] [true] ?_
  refine ck 1 [] [] fun γ225 => ⟨⟨kt (bdy Try.f53) [1, 6] [], (aun_al12_l23 A214 c214), [(γ201 0, 24, aun_al12_c1)]⟩, [], [], by kernel_rfl, .nil, ?_⟩
  refine ci (f := 78) (args := [.slice A214 0 c214, .int .i64 0, .int .i64 0, .int .i64 0, .func (.func 54) #[] #[]]) (fn := Try.f78) (c := bdy Try.f78) rfl (fun R226 hR226 => ?_)
  refine ck 2 [] [] fun γ227 => ⟨⟨kt (bdy Try.f78) [1, 1, 0] [], (aun_al12_b25 A214 c214), [(γ201 0, 24, aun_al12_c1)]⟩, [], [], by kernel_rfl, .nil, ?_⟩
  refine lu 12 (fun I228 hI228 => ?_)
  refine ck 10 [] [] fun γ229 => ⟨⟨ktl [0, 1, 0, 1, 0, 0, 4] (I228 12) (kt (bdy Try.f78) [1, 1, 0] []), upv (aun_al12_b25 A214 c214) [(12, .int .i64 0), (21, .int .i64 0), (22, .int .i64 0), (23, .int .i64 0), (24, .int .i64 0), (25, .bool true), (26, .slice A214 0 c214), (27, .int .i64 0), (28, .int .i64 0), (29, .func (.func 54) #[] #[])], [(γ201 0, 24, aun_al12_c1)]⟩, [], [], by kernel_rfl, .nil, ?_⟩
  refine ci (f := 90) (args := [.slice A214 0 c214, .int .i64 0, .int .i64 0, .func (.func 54) #[] #[]]) (fn := Try.f90) (c := bdy Try.f90) rfl (fun R230 hR230 => ?_)
  refine ck 3 [] [] fun γ231 => ⟨⟨kt (bdy Try.f90) [1, 0] [], (aun_al12_b28 A214 c214), [(γ201 0, 24, aun_al12_c1)]⟩, [], [], by kernel_rfl, .nil, ?_⟩
  refine lu 12 (fun I232 hI232 => ?_)
  refine ck 3 [] [] fun γ233 => ⟨⟨[], upv (aun_al12_b28 A214 c214) [(12, .int .i64 1), (13, .int .i64 0), (14, .bool false)], [(γ201 0, 24, aun_al12_c1)]⟩, [], [], by kernel_rfl, .nil, ?_⟩
  refine crm hR230 (.tuple #[]) [] [] [true] ?_
  refine crm hR226 (.tuple #[]) [] [] [true] ?_
  refine crm hR218 (.tuple #[]) [] [] [true] ?_
  refine ck 1 [] [] fun γ234 => ⟨⟨kt (bdy Try.f30) [1, 1, 1, 0, 1] [], (aun_al12_l29 γ201 A214 c214), [(γ201 0, 24, aun_al12_c1)]⟩, [], [], by kernel_rfl, .nil, ?_⟩
  refine ci (f := 55) (args := [.slice A214 0 c214]) (fn := Try.f55) (c := bdy Try.f55) rfl (fun R235 hR235 => ?_)
  refine ck 6 [] [] fun γ236 => ⟨⟨kt (bdy Try.f55) [1, 0, 1, 0, 1] [], (aun_al12_b32 A214 c214), [(γ201 0, 24, aun_al12_c1)]⟩, [], [], by kernel_rfl, .nil, ?_⟩
  refine crm hR235 (.slice A214 0 c214) [] [] [true] ?_
  refine ck 1 [] [] fun γ237 => ⟨⟨kt (bdy Try.f30) [1, 1, 1, 1] [], (aun_al12_l33 γ201 A214 c214), [(γ201 0, 24, aun_al12_c1)]⟩, [], [], by kernel_rfl, .nil, ?_⟩
  refine crm hR202 (.slice A214 0 c214) [] [] [true] ?_
  refine ck 2 [] [] fun γ238 => ⟨⟨kt (bdy Try.f12) [1, 0, 5] [], (aun_al12_l34 γ1 γ201 A214 c214 γ238), [(γ238 1, 22, (aun_al12_c35 γ1)), (γ201 0, 24, aun_al12_c1)]⟩, [], [], by kernel_rfl, .nil, ?_⟩
  refine ci (f := 30) (args := [.slice (some ⟨γ238 1, 0, none⟩) 1 1]) (fn := Try.f30) (c := bdy Try.f30) rfl (fun R239 hR239 => ?_)
  refine ck 2 [] [] fun γ240 => ⟨⟨kt (bdy Try.f30) [1, 0, 1] [], (aun_al12_l36 γ238), [(γ238 1, 22, (aun_al12_c35 γ1)), (γ201 0, 24, aun_al12_c1)]⟩, [], [], by kernel_rfl, .nil, ?_⟩
  refine ci (f := 52) (args := [.slice (some ⟨γ238 1, 0, none⟩) 1 1]) (fn := Try.f52) (c := bdy Try.f52) rfl (fun R241 hR241 => ?_)
  refine ck 5 [] [] fun γ242 => ⟨⟨kt (bdy Try.f52) [1, 1, 0, 1, 0] [], (aun_al12_b38 γ238), [(γ238 1, 22, (aun_al12_c35 γ1)), (γ201 0, 24, aun_al12_c1)]⟩, [], [], by kernel_rfl, .nil, ?_⟩
  refine lu 12 (fun I243 hI243 => ?_)
  refine ck 13 [(1, 0)] [] fun γ244 => ⟨⟨ktp (I243 12) (kt (bdy Try.f52) [1, 1, 0, 1, 0] []), (aun_al12_b41 γ1 γ238), [(γ238 1, 22, (aun_al12_c35 γ1)), (γ201 0, 24, aun_al12_c1)]⟩, [(1, γ238 1)], [(0 : Int) ≤ 0 ∧ 0 < ((1 : Nat) : Int)], by kernel_rfl, (.cons ⟨by omega, by omega⟩ .nil), ?_⟩
  refine lv hI243 11 ?_
  refine ck 2 [] [] fun γ245 => ⟨⟨kt (bdy Try.f52) [1, 1, 1, 0, 1] [], upv (aun_al12_b41 γ1 γ238) [(12, .bool false), (23, .int .i64 1)], [(γ238 1, 22, (aun_al12_c35 γ1)), (γ201 0, 24, aun_al12_c1)]⟩, [], [], by kernel_rfl, .nil, ?_⟩
  refine ci (f := 77) (args := [.slice none 0 0, .int .i64 1]) (fn := Try.f77) (c := bdy Try.f77) rfl (fun R246 hR246 => ?_)
  refine ck 16 [] [] fun γ247 => ⟨⟨kt (bdy Try.f77) [1, 1, 0, 1, 1, 0, 3] [], aun_al12_b44, [(γ238 1, 22, (aun_al12_c35 γ1)), (γ201 0, 24, aun_al12_c1)]⟩, [], [], by kernel_rfl, .nil, ?_⟩
  refine sl0 (A := none) (n := 0) (c := 0) (sz := 3) (some (.int .i64 0)) none 0 0 rfl rfl rfl (by omega) (by omega) ?_ none rfl
  refine ck 1 [] [] fun γ248 => ⟨⟨kt (bdy Try.f77) [1, 1, 0, 1, 1, 0, 5] [], upv aun_al12_b44 [(20, .slice none 0 0), (21, .int .i64 1)], [(γ238 1, 22, (aun_al12_c35 γ1)), (γ201 0, 24, aun_al12_c1)]⟩, [], [], by kernel_rfl, .nil, ?_⟩
  refine apz (e := 46) (x := 1) (kk := .i64) (sz := 3) (bytes := 24) 1 (by rfl) (by first | decide | omega | (simp only [maxLen]; omega)) (by first | decide | omega | (simp only [maxLen]; omega)) (by first | decide | omega | (simp only [maxLen]; omega)) (by decide) (fun g249 c250 hcp250 => ?_)
  refine ck 2 [] [] fun γ251 => ⟨⟨kt (bdy Try.f77) [1, 1, 0, 1, 1, 0, 8] [], upv aun_al12_b44 [(20, .slice none 0 0), (21, .int .i64 1), (22, .slice (some ⟨g249, 0, none⟩) 1 c250), (23, .slice none 0 0), (24, .int .i64 0)], [(γ238 1, 22, (aun_al12_c35 γ1)), (γ201 0, 24, aun_al12_c1)]⟩, [], [], by kernel_rfl, .nil, ?_⟩
  refine sl0 (A := some ⟨g249, 0, none⟩) (n := 1) (c := c250) (sz := 3) (some (.int .i64 0)) none 0 c250 rfl rfl rfl (by omega) (by omega) ?_ none rfl
  refine ck 3 [] [] fun γ252 => ⟨⟨kt (bdy Try.f77) [1, 1, 1, 1] [], upv aun_al12_b44 [(0, .slice (some ⟨g249, 0, none⟩) 0 c250), (4, .slice (some ⟨g249, 0, none⟩) 0 c250), (20, .slice none 0 0), (21, .int .i64 1), (22, .slice (some ⟨g249, 0, none⟩) 1 c250), (23, .slice none 0 0), (24, .int .i64 0), (25, .slice (some ⟨g249, 0, none⟩) 0 c250), (26, .slice (some ⟨g249, 0, none⟩) 0 c250)], [(γ238 1, 22, (aun_al12_c35 γ1)), (γ201 0, 24, aun_al12_c1)]⟩, [], [], by kernel_rfl, .nil, ?_⟩
  refine crm hR246 (.slice (some ⟨g249, 0, none⟩) 0 c250) [] [] [true, true] ?_
  refine ck 4 [] [] fun γ253 => ⟨⟨kt (bdy Try.f52) [1, 1, 1, 1, 0, 1, 0] [], (aun_al12_b47 γ1 γ238 g249 c250), [(γ238 1, 22, (aun_al12_c35 γ1)), (γ201 0, 24, aun_al12_c1)]⟩, [], [], by kernel_rfl, .nil, ?_⟩
  refine lu 12 (fun I254 hI254 => ?_)
  refine ck 6 [(1, 0)] [] fun γ255 => ⟨⟨ktl [1, 1, 0, 0, 1, 2] (I254 12) (kt (bdy Try.f52) [1, 1, 1, 1, 0, 1, 0] []), upv (aun_al12_b47 γ1 γ238 g249 c250) [(8, .slice (some ⟨γ1 2, 0, none⟩) 1 1), (28, .bool true), (29, .pointer (some ⟨γ238 1, 0, none⟩)), (30, .slice (some ⟨γ1 2, 0, none⟩) 1 1), (31, .slice (some ⟨g249, 0, none⟩) 0 c250), (32, .slice (some ⟨γ1 2, 0, none⟩) 1 1)], [(γ238 1, 22, (aun_al12_c35 γ1)), (γ201 0, 24, aun_al12_c1)]⟩, [(1, γ238 1)], [(0 : Int) ≤ 0 ∧ 0 < ((1 : Nat) : Int)], by kernel_rfl, (.cons ⟨by omega, by omega⟩ .nil), ?_⟩
  refine aps (enc := encT46) (l := ([(1, 0, 0)] : List (Int × Int × Int))) 0 24 rfl (fun W hW => (hr0.below (hW.old 2 rfl))) encT46_len encT46_cell (by first | omega | (simp only [List.length_append, List.length_cons, List.length_nil]; omega)) (by simp only [maxLen]; first | omega | (simp only [List.length_append, List.length_cons, List.length_nil]; omega)) (([(1, 0, 0)] : List (Int × Int × Int)).length) (([(1, 0, 0)] : List (Int × Int × Int)).flatMap encT46) (by simp) (by simp) fun A256 c256 => ?_
  refine ck 3 [] [] fun γ257 => ⟨⟨ktp (I254 12) (kt (bdy Try.f52) [1, 1, 1, 1, 0, 1, 0] []), upv (aun_al12_b47 γ1 γ238 g249 c250) [(6, .slice A256 1 c256), (8, .slice (some ⟨γ1 2, 0, none⟩) 1 1), (27, .int .i64 1), (28, .bool true), (29, .pointer (some ⟨γ238 1, 0, none⟩)), (30, .slice (some ⟨γ1 2, 0, none⟩) 1 1), (31, .slice (some ⟨g249, 0, none⟩) 0 c250), (32, .slice (some ⟨γ1 2, 0, none⟩) 1 1), (33, .slice A256 1 c256), (34, .int .i64 1)], [(γ238 1, 22, (aun_al12_c35 γ1)), (γ201 0, 24, aun_al12_c1)]⟩, [], [], by kernel_rfl, .nil, ?_⟩
  refine lv hI254 11 ?_
  refine ck 3 [] [] fun γ258 => ⟨⟨kt (bdy Try.f52) [1, 1, 1, 1, 1, 1] [], upv (aun_al12_b47 γ1 γ238 g249 c250) [(2, .slice A256 1 c256), (6, .slice A256 1 c256), (8, .slice (some ⟨γ1 2, 0, none⟩) 1 1), (27, .int .i64 1), (28, .bool false), (29, .pointer (some ⟨γ238 1, 0, none⟩)), (30, .slice (some ⟨γ1 2, 0, none⟩) 1 1), (31, .slice (some ⟨g249, 0, none⟩) 0 c250), (32, .slice (some ⟨γ1 2, 0, none⟩) 1 1), (33, .slice A256 1 c256), (34, .int .i64 1), (35, .slice A256 1 c256)], [(γ238 1, 22, (aun_al12_c35 γ1)), (γ201 0, 24, aun_al12_c1)]⟩, [], [], by kernel_rfl, .nil, ?_⟩
  refine crm hR241 (.slice A256 1 c256) [] [] [false, true] ?_
  refine ck 2 [] [] fun γ259 => ⟨⟨kt (bdy Try.f30) [1, 1, 0, 1] [], (aun_al12_l48 γ238 A256 c256), [(γ201 0, 24, aun_al12_c1)]⟩, [], [], by kernel_rfl, .nil, ?_⟩
  refine ci (f := 53) (args := [.slice A256 1 c256, .func (.func 54) #[] #[]]) (fn := Try.f53) (c := bdy Try.f53) rfl (fun R260 hR260 => ?_)
  refine ck 7 [] [] fun γ261 => ⟨⟨kt (bdy Try.f53) [1, 4] [], (aun_al12_l49 A256 c256), [(γ201 0, 24, aun_al12_c1)]⟩, [], [], by kernel_rfl, .nil, ?_⟩
  refine ci (f := 79) (args := [.int .u64 1]) (fn := Try.f79) (c := bdy Try.f79) rfl (fun R262 hR262 => ?_)
  refine ck 2 [] [] fun γ263 => ⟨⟨kt (bdy Try.f79) [1, 1, 0, 1] [], aun_al12_l50, [(γ201 0, 24, aun_al12_c1)]⟩, [], [], by kernel_rfl, .nil, ?_⟩
  refine ci (f := 99) (args := [.int .u64 1]) (fn := Try.f99) (c := bdy Try.f99) rfl (fun R264 hR264 => ?_)
  refine ck 14 [] [] fun γ265 => ⟨⟨kt (bdy Try.f99) [1, 1, 1, 1, 1] [], aun_al12_b53, [(γ201 0, 24, aun_al12_c1)]⟩, [], [], by kernel_rfl, .nil, ?_⟩
  refine crm hR264 (.int .i64 1) [] [] [true] ?_
  refine ck 1 [] [] fun γ266 => ⟨⟨kt (bdy Try.f79) [1, 1, 1] [], aun_al12_l54, [(γ201 0, 24, aun_al12_c1)]⟩, [], [], by kernel_rfl, .nil, ?_⟩
  refine crm hR262 (.int .i64 1) [] [] [true] ?_
  refine ck 1 [] [] fun γ267 => ⟨⟨kt (bdy Try.f53) [1, 6] [], (aun_al12_l55 A256 c256), [(γ201 0, 24, aun_al12_c1)]⟩, [], [], by kernel_rfl, .nil, ?_⟩
  refine ci (f := 78) (args := [.slice A256 1 c256, .int .i64 0, .int .i64 1, .int .i64 1, .func (.func 54) #[] #[]]) (fn := Try.f78) (c := bdy Try.f78) rfl (fun R268 hR268 => ?_)
  refine ck 2 [] [] fun γ269 => ⟨⟨kt (bdy Try.f78) [1, 1, 0] [], (aun_al12_b57 A256 c256), [(γ201 0, 24, aun_al12_c1)]⟩, [], [], by kernel_rfl, .nil, ?_⟩
  refine lu 12 (fun I270 hI270 => ?_)
  refine ck 10 [] [] fun γ271 => ⟨⟨ktl [0, 1, 0, 1, 0, 0, 4] (I270 12) (kt (bdy Try.f78) [1, 1, 0] []), upv (aun_al12_b57 A256 c256) [(12, .int .i64 1), (21, .int .i64 1), (22, .int .i64 0), (23, .int .i64 1), (24, .int .i64 1), (25, .bool true), (26, .slice A256 1 c256), (27, .int .i64 0), (28, .int .i64 1), (29, .func (.func 54) #[] #[])], [(γ201 0, 24, aun_al12_c1)]⟩, [], [], by kernel_rfl, .nil, ?_⟩
  refine ci (f := 90) (args := [.slice A256 1 c256, .int .i64 0, .int .i64 1, .func (.func 54) #[] #[]]) (fn := Try.f90) (c := bdy Try.f90) rfl (fun R272 hR272 => ?_)
  refine ck 3 [] [] fun γ273 => ⟨⟨kt (bdy Try.f90) [1, 0] [], (aun_al12_b59 A256 c256), [(γ201 0, 24, aun_al12_c1)]⟩, [], [], by kernel_rfl, .nil, ?_⟩
  refine lu 12 (fun I274 hI274 => ?_)
  refine ck 3 [] [] fun γ275 => ⟨⟨[], upv (aun_al12_b59 A256 c256) [(12, .int .i64 1), (13, .int .i64 1), (14, .bool false)], [(γ201 0, 24, aun_al12_c1)]⟩, [], [], by kernel_rfl, .nil, ?_⟩
  refine crm hR272 (.tuple #[]) [] [] [true] ?_
  refine crm hR268 (.tuple #[]) [] [] [true] ?_
  refine crm hR260 (.tuple #[]) [] [] [true] ?_
  refine ck 1 [] [] fun γ276 => ⟨⟨kt (bdy Try.f30) [1, 1, 1, 0, 1] [], (aun_al12_l60 γ238 A256 c256), [(γ201 0, 24, aun_al12_c1)]⟩, [], [], by kernel_rfl, .nil, ?_⟩
  refine ci (f := 55) (args := [.slice A256 1 c256]) (fn := Try.f55) (c := bdy Try.f55) rfl (fun R277 hR277 => ?_)
  refine ck 6 [] [] fun γ278 => ⟨⟨kt (bdy Try.f55) [1, 0, 1, 0, 1] [], (aun_al12_b62 A256 c256), [(γ201 0, 24, aun_al12_c1)]⟩, [], [], by kernel_rfl, .nil, ?_⟩
  refine crm hR277 (.slice A256 1 c256) [] [] [true] ?_
  refine ck 1 [] [] fun γ279 => ⟨⟨kt (bdy Try.f30) [1, 1, 1, 1] [], (aun_al12_l63 γ238 A256 c256), [(γ201 0, 24, aun_al12_c1)]⟩, [], [], by kernel_rfl, .nil, ?_⟩
  refine crm hR239 (.slice A256 1 c256) [] [] [true] ?_
  refine ck 2 [(2, 0)] [] fun γ280 => ⟨⟨kt (bdy Try.f12) [1, 1] [], (aun_al12_l64 γ1 γ201 A214 c214 γ238 A256 c256), [(γ201 0, 24, (aun_al12_c65 A214 c214 A256 c256))]⟩, [(2, γ201 0)], [], by kernel_rfl, .nil, ?_⟩
  refine rt (.agg #[.slice A214 0 c214, .slice A256 1 c256]) [(2, 0)] [(2, γ201 0)] (fun W hW => ?_)
  exact ⟨⟨A214, c214, A256, c256⟩, rfl, Fresh.of (R := [rowA 46 3 (.slice A256 1 c256) ([(1, 0, 0)] : List (Int × Int × Int)).length (([(1, 0, 0)] : List (Int × Int × Int)).flatMap encT46), rowA 46 3 (.slice A214 0 c214) ([] : List (Int × Int × Int)).length (([] : List (Int × Int × Int)).flatMap encT46)]) (hW.perm (List.Perm.refl _)) (.cons_cons _ (.cons_cons _ (.cons_cons _ (.slnil))))⟩
def aun_al13_l0 (u2 : Option Addr) (u3 : Nat) (u4 : Option Addr) (u5 : Nat) (u7 : Option Addr) (u8 : Nat) (u9 : Option Addr) (u10 : Nat) (γ301 : Nat → Nat) : List Value := [.agg #[.slice u2 1 u3, .slice u4 0 u5], .agg #[.slice u7 0 u8, .slice u9 1 u10], .pointer (some ⟨γ301 0, 0, none⟩), .pointer (some ⟨γ301 1, 0, none⟩), .bool false, zz, zz, zz, zz, .pointer (some ⟨γ301 0, 1, none⟩), .slice u4 0 u5, .int .i64 0, .int .i64 0, zz, zz, zz]
def aun_al13_l1 : List Value := [zz, zz, zz, zz, zz, zz, zz, zz, zz, zz, zz, zz, zz, zz, zz, zz]
def aun_al13_l2 : List Value := [zz, zz, zz, zz, zz]
def aun_al13_b3 (u2 : Option Addr) (u3 : Nat) (u4 : Option Addr) (u5 : Nat) (u7 : Option Addr) (u8 : Nat) (u9 : Option Addr) (u10 : Nat) (γ301 : Nat → Nat) : List Value := (aun_al13_l0 u2 u3 u4 u5 u7 u8 u9 u10 γ301) ++ (aun_al13_l1 ++ (aun_al13_l2))
def aun_al13_c4 (u7 : Option Addr) (u8 : Nat) (u9 : Option Addr) (u10 : Nat) : List Value := [.slice u7 0 u8, .slice u9 1 u10]
def aun_al13_c5 (u2 : Option Addr) (u3 : Nat) (u4 : Option Addr) (u5 : Nat) : List Value := [.slice u2 1 u3, .slice u4 0 u5]
def aun_al13_l6 (u2 : Option Addr) (u3 : Nat) (u4 : Option Addr) (u5 : Nat) (u7 : Option Addr) (u8 : Nat) (u9 : Option Addr) (u10 : Nat) (γ301 : Nat → Nat) (γ308 : Nat → Nat) : List Value := [.agg #[.slice u2 1 u3, .slice u4 0 u5], .agg #[.slice u7 0 u8, .slice u9 1 u10], .pointer (some ⟨γ301 0, 0, none⟩), .pointer (some ⟨γ301 1, 0, none⟩), .bool false, zz, zz, zz, .pointer (some ⟨γ308 0, 0, none⟩), .pointer (some ⟨γ301 0, 1, none⟩), .slice u4 0 u5, .int .i64 0, .int .i64 0, .bool false, zz, zz]
def aun_al13_l7 (u9 : Option Addr) (u10 : Nat) (γ301 : Nat → Nat) (B306 : Nat) (o307 : Nat) : List Value := [zz, zz, zz, zz, zz, zz, zz, zz, .pointer (some ⟨γ301 1, 1, none⟩), .slice u9 1 u10, .int .i64 1, .int .i64 0, .bool true, .pointer (some ⟨B306, o307 + 0 * 3, none⟩), .agg #[.int .i64 1, .int .i64 0, .int .i64 0], .agg #[.int .i64 1, .int .i64 0, .int .i64 0]]
def aun_al13_l8 (u2 : Option Addr) (u3 : Nat) (γ301 : Nat → Nat) (γ308 : Nat → Nat) : List Value := [.pointer (some ⟨γ301 0, 0, none⟩), .slice u2 1 u3, .slice (some ⟨γ308 5, 0, none⟩) 1 1, zz, zz]
def aun_al13_b9 (u2 : Option Addr) (u3 : Nat) (u4 : Option Addr) (u5 : Nat) (u7 : Option Addr) (u8 : Nat) (u9 : Option Addr) (u10 : Nat) (γ301 : Nat → Nat) (B306 : Nat) (o307 : Nat) (γ308 : Nat → Nat) : List Value := (aun_al13_l6 u2 u3 u4 u5 u7 u8 u9 u10 γ301 γ308) ++ ((aun_al13_l7 u9 u10 γ301 B306 o307) ++ ((aun_al13_l8 u2 u3 γ301 γ308)))
def aun_al13_c10 : List Value := [.int .i64 1, .int .i64 0, .int .i64 0]
def aun_al13_l11 (γ308 : Nat → Nat) (γ310 : Nat → Nat) : List Value := [.agg #[.int .i64 1, .int .i64 0, .int .i64 0], .slice (some ⟨γ308 5, 0, none⟩) 1 1, .pointer (some ⟨γ310 0, 0, none⟩), zz, .bool false, .slice (some ⟨γ308 5, 0, none⟩) 1 1, .func (.func 58) #[] #[.pointer (some ⟨γ310 0, 0, none⟩)], zz]
def aun_al13_l12 (γ308 : Nat → Nat) (γ310 : Nat → Nat) : List Value := [.slice (some ⟨γ308 5, 0, none⟩) 1 1, .func (.func 58) #[] #[.pointer (some ⟨γ310 0, 0, none⟩)], zz, zz, .bool false, .slice (some ⟨γ308 5, 0, none⟩) 1 1, .func (.func 58) #[] #[.pointer (some ⟨γ310 0, 0, none⟩)], zz, zz]
def aun_al13_l13 (γ308 : Nat → Nat) (γ310 : Nat → Nat) : List Value := [.slice (some ⟨γ308 5, 0, none⟩) 1 1, .func (.func 58) #[] #[.pointer (some ⟨γ310 0, 0, none⟩)], zz, zz, .int .i64 0, zz, .slice (some ⟨γ308 5, 0, none⟩) 1 1, .int .i64 1, .int .i64 0, zz, zz, zz, zz, zz, zz, zz]
def aun_al13_l14 : List Value := [zz, zz, zz]
def aun_al13_b15 (γ308 : Nat → Nat) (γ310 : Nat → Nat) : List Value := (aun_al13_l13 γ308 γ310) ++ (aun_al13_l14)
def aun_al13_l16 (u2 : Option Addr) (u3 : Nat) (γ310 : Nat → Nat) : List Value := [.slice u2 1 u3, .pointer (some ⟨γ310 0, 0, none⟩), zz, .bool false, .slice u2 1 u3, .agg #[.int .i64 1, .int .i64 0, .int .i64 0], zz]
def aun_al13_l17 (u2 : Option Addr) (u3 : Nat) (γ320 : Nat → Nat) : List Value := [.slice u2 1 u3, .agg #[.int .i64 1, .int .i64 0, .int .i64 0], zz, .pointer (some ⟨γ320 0, 0, none⟩), .bool false, .slice u2 1 u3, .agg #[.int .i64 1, .int .i64 0, .int .i64 0], zz, zz]
def aun_al13_l18 (u2 : Option Addr) (u3 : Nat) (γ322 : Nat → Nat) : List Value := [.slice u2 1 u3, .agg #[.int .i64 1, .int .i64 0, .int .i64 0], zz, .pointer (some ⟨γ322 0, 0, none⟩), .int .i64 0, zz, .slice u2 1 u3, .int .i64 1, .int .i64 0, zz, zz, zz, zz, zz, zz, zz]
def aun_al13_b19 (u2 : Option Addr) (u3 : Nat) (γ322 : Nat → Nat) : List Value := (aun_al13_l18 u2 u3 γ322) ++ (aun_al13_l14)
def aun_al13_l20 (u2 : Option Addr) (u3 : Nat) (γ320 : Nat → Nat) : List Value := [.slice u2 1 u3, .agg #[.int .i64 1, .int .i64 0, .int .i64 0], zz, .pointer (some ⟨γ320 0, 0, none⟩), .bool true, .slice u2 1 u3, .agg #[.int .i64 1, .int .i64 0, .int .i64 0], .int .i64 0, .bool true]
def aun_al13_l21 (u2 : Option Addr) (u3 : Nat) (γ310 : Nat → Nat) : List Value := [.slice u2 1 u3, .pointer (some ⟨γ310 0, 0, none⟩), zz, .bool true, .slice u2 1 u3, .agg #[.int .i64 1, .int .i64 0, .int .i64 0], .bool true]
def aun_al13_l22 (u2 : Option Addr) (u3 : Nat) (γ308 : Nat → Nat) (γ310 : Nat → Nat) : List Value := [.slice (some ⟨γ308 5, 0, none⟩) 1 1, .func (.func 58) #[] #[.pointer (some ⟨γ310 0, 0, none⟩)], zz, zz, .int .i64 0, .int .i64 0, .slice (some ⟨γ308 5, 0, none⟩) 1 1, .int .i64 1, .int .i64 0, .bool true, .int .i64 0, .func (.func 58) #[] #[.pointer (some ⟨γ310 0, 0, none⟩)], .slice (some ⟨γ308 5, 0, none⟩) 1 1, .int .i64 0, .pointer (some ⟨γ308 5, 0, none⟩), .slice u2 1 u3]
def aun_al13_l23 : List Value := [.bool true, .int .i64 0, zz]
def aun_al13_b24 (u2 : Option Addr) (u3 : Nat) (γ308 : Nat → Nat) (γ310 : Nat → Nat) : List Value := (aun_al13_l22 u2 u3 γ308 γ310) ++ (aun_al13_l23)
def aun_al13_l25 (γ308 : Nat → Nat) (γ310 : Nat → Nat) : List Value := [.slice (some ⟨γ308 5, 0, none⟩) 1 1, .func (.func 58) #[] #[.pointer (some ⟨γ310 0, 0, none⟩)], zz, zz, .bool true, .slice (some ⟨γ308 5, 0, none⟩) 1 1, .func (.func 58) #[] #[.pointer (some ⟨γ310 0, 0, none⟩)], .int .i64 0, .bool true]
def aun_al13_l26 (γ308 : Nat → Nat) (γ310 : Nat → Nat) : List Value := [.agg #[.int .i64 1, .int .i64 0, .int .i64 0], .slice (some ⟨γ308 5, 0, none⟩) 1 1, .pointer (some ⟨γ310 0, 0, none⟩), zz, .bool true, .slice (some ⟨γ308 5, 0, none⟩) 1 1, .func (.func 58) #[] #[.pointer (some ⟨γ310 0, 0, none⟩)], .bool true]
def aun_al13_l27 (u2 : Option Addr) (u3 : Nat) (u4 : Option Addr) (u5 : Nat) (u7 : Option Addr) (u8 : Nat) (u9 : Option Addr) (u10 : Nat) (γ301 : Nat → Nat) (γ308 : Nat → Nat) : List Value := [.agg #[.slice u2 1 u3, .slice u4 0 u5], .agg #[.slice u7 0 u8, .slice u9 1 u10], .pointer (some ⟨γ301 0, 0, none⟩), .pointer (some ⟨γ301 1, 0, none⟩), .bool true, zz, zz, zz, .pointer (some ⟨γ308 0, 0, none⟩), .pointer (some ⟨γ301 0, 1, none⟩), .slice u4 0 u5, .int .i64 0, .int .i64 0, .bool false, zz, zz]
def aun_al13_l28 (u2 : Option Addr) (u3 : Nat) (γ301 : Nat → Nat) (γ308 : Nat → Nat) : List Value := [.pointer (some ⟨γ301 0, 0, none⟩), .slice u2 1 u3, .slice (some ⟨γ308 5, 0, none⟩) 1 1, .bool true, zz]
def aun_al13_b29 (u2 : Option Addr) (u3 : Nat) (u4 : Option Addr) (u5 : Nat) (u7 : Option Addr) (u8 : Nat) (u9 : Option Addr) (u10 : Nat) (γ301 : Nat → Nat) (B306 : Nat) (o307 : Nat) (γ308 : Nat → Nat) : List Value := (aun_al13_l27 u2 u3 u4 u5 u7 u8 u9 u10 γ301 γ308) ++ ((aun_al13_l7 u9 u10 γ301 B306 o307) ++ ((aun_al13_l28 u2 u3 γ301 γ308)))
set_option maxHeartbeats 8000000 in
set_option maxRecDepth 100000 in
theorem aun_al13 (u2 : Option Addr) (u3 : Nat) (u4 : Option Addr) (u5 : Nat) (u7 : Option Addr) (u8 : Nat) (u9 : Option Addr) (u10 : Nat) {w : World} (hr0 : Rd w (.slice u2 1 u3) 3 encT46 ([(1, 0, 0)] : List (Int × Int × Int))) (hb0 : ([(1, 0, 0)] : List (Int × Int × Int)).length ≤ 1000) (hr1 : Rd w (.slice u4 0 u5) 3 encT46 ([] : List (Int × Int × Int))) (hb1 : ([] : List (Int × Int × Int)).length ≤ 1000) (hr2 : Rd w (.slice u7 0 u8) 3 encT46 ([] : List (Int × Int × Int))) (hb2 : ([] : List (Int × Int × Int)).length ≤ 1000) (hr3 : Rd w (.slice u9 1 u10) 3 encT46 ([(1, 0, 0)] : List (Int × Int × Int))) (hb3 : ([(1, 0, 0)] : List (Int × Int × Int)).length ≤ 1000) : Calls Try.prog 17 #[.agg #[.slice u2 1 u3, .slice u4 0 u5], .agg #[.slice u7 0 u8, .slice u9 1 u10]] w fun e w' => e = .returned (.bool true) ∧ Below w.heap.size w w' := by
  refine enter (args := [.agg #[.slice u2 1 u3, .slice u4 0 u5], .agg #[.slice u7 0 u8, .slice u9 1 u10]]) (fn := Try.f17) rfl (c := bdy Try.f17) (by kernel_rfl) ?_
  have hcap0 := hr0.cap.2
  have hcap1 := hr1.cap.2
  have hcap2 := hr2.cap.2
  have hcap3 := hr3.cap.2
  refine ck 7 [(1, 1)] [] fun γ301 => ⟨⟨kt (bdy Try.f17) [1, 0, 1, 0] [], (aun_al13_b3 u2 u3 u4 u5 u7 u8 u9 u10 γ301), [(γ301 1, 24, (aun_al13_c4 u7 u8 u9 u10)), (γ301 0, 24, (aun_al13_c5 u2 u3 u4 u5))]⟩, [(1, γ301 0)], [], by kernel_rfl, .nil, ?_⟩
  refine lu 12 (fun I302 hI302 => ?_)
  refine ck 5 [(1, 0)] [] fun γ303 => ⟨⟨kt (bdy Try.f17) [1, 1, 0, 1, 0] [], upv (aun_al13_b3 u2 u3 u4 u5 u7 u8 u9 u10 γ301) [(13, .bool false), (24, .pointer (some ⟨γ301 1, 1, none⟩)), (25, .slice u9 1 u10), (26, .int .i64 1), (27, .int .i64 0)], [(γ301 1, 24, (aun_al13_c4 u7 u8 u9 u10)), (γ301 0, 24, (aun_al13_c5 u2 u3 u4 u5))]⟩, [(1, γ301 1)], [], by kernel_rfl, .nil, ?_⟩
  refine lu 12 (fun I304 hI304 => ?_)
  refine ck 1 [] [] fun γ305 => ⟨⟨ktl [1, 1, 0, 0, 0, 0] (I304 12) (kt (bdy Try.f17) [1, 1, 0, 1, 0] []), upv (aun_al13_b3 u2 u3 u4 u5 u7 u8 u9 u10 γ301) [(13, .bool false), (24, .pointer (some ⟨γ301 1, 1, none⟩)), (25, .slice u9 1 u10), (26, .int .i64 1), (27, .int .i64 0), (28, .bool true)], [(γ301 1, 24, (aun_al13_c4 u7 u8 u9 u10)), (γ301 0, 24, (aun_al13_c5 u2 u3 u4 u5))]⟩, [], [], by kernel_rfl, .nil, ?_⟩
  refine ixs (fun W hW => (hr3.below (hW.old 0 rfl))) 0 (by first | omega | decide) (fun B306 o307 hB306 => ?_)
  refine ldr (n := 3) (row := true) [.int .i64 1, .int .i64 0, .int .i64 0] (fun W hW => ((Rd.atE (hr3.below (hW.old 0 rfl)) hB306 (by first | omega | simp))).ld (i := 0) (by first | omega | simp) 0 [.int .i64 1, .int .i64 0, .int .i64 0] rfl) ?_
  refine ck 6 [(6, 0), (1, 2)] [] fun γ308 => ⟨⟨ktl [1, 1, 0, 0, 1, 0, 4] (I304 12) (kt (bdy Try.f17) [1, 1, 0, 1, 0] []), (aun_al13_b9 u2 u3 u4 u5 u7 u8 u9 u10 γ301 B306 o307 γ308), [(γ308 5, 22, [.slice u2 1 u3]), (γ308 0, 46, aun_al13_c10), (γ301 1, 24, (aun_al13_c4 u7 u8 u9 u10)), (γ301 0, 24, (aun_al13_c5 u2 u3 u4 u5))]⟩, [(6, γ308 0), (1, γ301 0)], [], by kernel_rfl, .nil, ?_⟩
  refine ci (f := 34) (args := [.agg #[.int .i64 1, .int .i64 0, .int .i64 0], .slice (some ⟨γ308 5, 0, none⟩) 1 1]) (fn := Try.f34) (c := bdy Try.f34) rfl (fun R309 hR309 => ?_)
  refine ck 4 [] [] fun γ310 => ⟨⟨kt (bdy Try.f34) [1, 0, 2] [], (aun_al13_l11 γ308 γ310), [(γ310 0, 46, aun_al13_c10), (γ308 5, 22, [.slice u2 1 u3]), (γ308 0, 46, aun_al13_c10), (γ301 1, 24, (aun_al13_c4 u7 u8 u9 u10)), (γ301 0, 24, (aun_al13_c5 u2 u3 u4 u5))]⟩, [], [], by kernel_rfl, .nil, ?_⟩
  refine ci (f := 57) (args := [.slice (some ⟨γ308 5, 0, none⟩) 1 1, .func (.func 58) #[] #[.pointer (some ⟨γ310 0, 0, none⟩)]]) (fn := Try.f57) (c := bdy Try.f57) rfl (fun R311 hR311 => ?_)
  refine ck 3 [] [] fun γ312 => ⟨⟨kt (bdy Try.f57) [1, 0, 2] [], (aun_al13_l12 γ308 γ310), [(γ310 0, 46, aun_al13_c10), (γ308 5, 22, [.slice u2 1 u3]), (γ308 0, 46, aun_al13_c10), (γ301 1, 24, (aun_al13_c4 u7 u8 u9 u10)), (γ301 0, 24, (aun_al13_c5 u2 u3 u4 u5))]⟩, [], [], by kernel_rfl, .nil, ?_⟩
  refine ci (f := 81) (args := [.slice (some ⟨γ308 5, 0, none⟩) 1 1, .func (.func 58) #[] #[.pointer (some ⟨γ310 0, 0, none⟩)]]) (fn := Try.f81) (c := bdy Try.f81) rfl (fun R313 hR313 => ?_)
  refine ck 4 [] [] fun γ314 => ⟨⟨kt (bdy Try.f81) [1, 0, 1, 0] [], (aun_al13_b15 γ308 γ310), [(γ310 0, 46, aun_al13_c10), (γ308 5, 22, [.slice u2 1 u3]), (γ308 0, 46, aun_al13_c10), (γ301 1, 24, (aun_al13_c4 u7 u8 u9 u10)), (γ301 0, 24, (aun_al13_c5 u2 u3 u4 u5))]⟩, [], [], by kernel_rfl, .nil, ?_⟩
  refine lu 12 (fun I315 hI315 => ?_)
  refine ck 8 [(1, 1)] [] fun γ316 => ⟨⟨ktl [1, 1, 0, 0, 1, 0, 5] (I315 12) (kt (bdy Try.f81) [1, 0, 1, 0] []), upv (aun_al13_b15 γ308 γ310) [(5, .int .i64 0), (9, .bool true), (10, .int .i64 0), (11, .func (.func 58) #[] #[.pointer (some ⟨γ310 0, 0, none⟩)]), (12, .slice (some ⟨γ308 5, 0, none⟩) 1 1), (13, .int .i64 0), (14, .pointer (some ⟨γ308 5, 0, none⟩)), (15, .slice u2 1 u3)], [(γ310 0, 46, aun_al13_c10), (γ308 5, 22, [.slice u2 1 u3]), (γ308 0, 46, aun_al13_c10), (γ301 1, 24, (aun_al13_c4 u7 u8 u9 u10)), (γ301 0, 24, (aun_al13_c5 u2 u3 u4 u5))]⟩, [(1, γ308 5)], [(0 : Int) ≤ 0 ∧ 0 < ((1 : Nat) : Int)], by kernel_rfl, (.cons ⟨by omega, by omega⟩ .nil), ?_⟩
  refine ci (f := 58) (args := [.slice u2 1 u3, .pointer (some ⟨γ310 0, 0, none⟩)]) (fn := Try.f58) (c := bdy Try.f58) rfl (fun R317 hR317 => ?_)
  refine ck 3 [(3, 0)] [] fun γ318 => ⟨⟨kt (bdy Try.f58) [1, 0, 2] [], (aun_al13_l16 u2 u3 γ310), [(γ310 0, 46, aun_al13_c10), (γ308 5, 22, [.slice u2 1 u3]), (γ308 0, 46, aun_al13_c10), (γ301 1, 24, (aun_al13_c4 u7 u8 u9 u10)), (γ301 0, 24, (aun_al13_c5 u2 u3 u4 u5))]⟩, [(3, γ310 0)], [], by kernel_rfl, .nil, ?_⟩
  refine ci (f := 59) (args := [.slice u2 1 u3, .agg #[.int .i64 1, .int .i64 0, .int .i64 0]]) (fn := Try.f59) (c := bdy Try.f59) rfl (fun R319 hR319 => ?_)
  refine ck 4 [(3, 0)] [] fun γ320 => ⟨⟨kt (bdy Try.f59) [1, 0, 2] [], (aun_al13_l17 u2 u3 γ320), [(γ320 0, 46, aun_al13_c10), (γ310 0, 46, aun_al13_c10), (γ308 5, 22, [.slice u2 1 u3]), (γ308 0, 46, aun_al13_c10), (γ301 1, 24, (aun_al13_c4 u7 u8 u9 u10)), (γ301 0, 24, (aun_al13_c5 u2 u3 u4 u5))]⟩, [(3, γ320 0)], [], by kernel_rfl, .nil, ?_⟩
  refine ci (f := 82) (args := [.slice u2 1 u3, .agg #[.int .i64 1, .int .i64 0, .int .i64 0]]) (fn := Try.f82) (c := bdy Try.f82) rfl (fun R321 hR321 => ?_)
  refine ck 5 [] [] fun γ322 => ⟨⟨kt (bdy Try.f82) [1, 0, 1, 0] [], (aun_al13_b19 u2 u3 γ322), [(γ322 0, 46, aun_al13_c10), (γ320 0, 46, aun_al13_c10), (γ310 0, 46, aun_al13_c10), (γ308 5, 22, [.slice u2 1 u3]), (γ308 0, 46, aun_al13_c10), (γ301 1, 24, (aun_al13_c4 u7 u8 u9 u10)), (γ301 0, 24, (aun_al13_c5 u2 u3 u4 u5))]⟩, [], [], by kernel_rfl, .nil, ?_⟩
  refine lu 12 (fun I323 hI323 => ?_)
  refine ck 3 [] [] fun γ324 => ⟨⟨ktl [1, 1, 0, 0, 1, 0] (I323 12) (kt (bdy Try.f82) [1, 0, 1, 0] []), upv (aun_al13_b19 u2 u3 γ322) [(5, .int .i64 0), (9, .bool true), (10, .int .i64 0)], [(γ322 0, 46, aun_al13_c10), (γ320 0, 46, aun_al13_c10), (γ310 0, 46, aun_al13_c10), (γ308 5, 22, [.slice u2 1 u3]), (γ308 0, 46, aun_al13_c10), (γ301 1, 24, (aun_al13_c4 u7 u8 u9 u10)), (γ301 0, 24, (aun_al13_c5 u2 u3 u4 u5))]⟩, [], [], by kernel_rfl, .nil, ?_⟩
  refine atR (fun W hW => (hr0.below (hW.old 0 rfl))) (by decide) (fun B325 o326 hB325 => ?_)
  refine atR (fun W hW => (hr3.below (hW.old 0 rfl))) (by decide) (fun B327 o328 hB327 => ?_)
  refine dr [] [] .nil ?_
  refine df [0, 1, 2] [(3, 0)] [] [(3, γ322 0)] [] .nil ?_
  refine dixr 3 (n := 1) (sz := 3) (j := 0) hB325 0 (by omega) ?_
  refine dldr 4 (n := 3) (row := true) [.int .i64 1, .int .i64 0, .int .i64 0] (fun W hW => ((Rd.atE (hr0.below (hW.old 0 rfl)) hB325 (by first | omega | simp))).ld (i := 0) (by first | omega | simp) 0 [.int .i64 1, .int .i64 0, .int .i64 0] rfl) ?_
  refine deqr 5 (pos := true) (r := true) true (fun W => eq46s 1 0 0 W) rfl ?_
  refine de (fs := (ktl [1, 1, 0, 0, 1, 0] (I323 12) (kt (bdy Try.f82) [1, 0, 1, 0] [])).tail) ?_
  refine st0 (fs := (ktl [1, 1, 0, 0, 1, 0] (I323 12) (kt (bdy Try.f82) [1, 0, 1, 0] [])).tail) (upv (aun_al13_b19 u2 u3 γ322) [(5, .int .i64 0), (9, .bool true), (10, .int .i64 0), (11, .agg #[.int .i64 1, .int .i64 0, .int .i64 0]), (12, .slice u2 1 u3), (13, .int .i64 0), (14, .pointer (some ⟨B325, o326 + 0 * 3, none⟩)), (15, .agg #[.int .i64 1, .int .i64 0, .int .i64 0]), (16, .bool true)]) [(γ322 0, 46, aun_al13_c10), (γ320 0, 46, aun_al13_c10), (γ310 0, 46, aun_al13_c10), (γ308 5, 22, [.slice u2 1 u3]), (γ308 0, 46, aun_al13_c10), (γ301 1, 24, (aun_al13_c4 u7 u8 u9 u10)), (γ301 0, 24, (aun_al13_c5 u2 u3 u4 u5))] ?_
  refine ck 2 [] [] fun γ329 => ⟨⟨ktl [1, 1, 0, 0, 1, 1, 0, 1] (I323 12) (kt (bdy Try.f82) [1, 0, 1, 0] []), upv (aun_al13_b19 u2 u3 γ322) [(5, .int .i64 0), (9, .bool true), (10, .int .i64 0), (11, .agg #[.int .i64 1, .int .i64 0, .int .i64 0]), (12, .slice u2 1 u3), (13, .int .i64 0), (14, .pointer (some ⟨B325, o326 + 0 * 3, none⟩)), (15, .agg #[.int .i64 1, .int .i64 0, .int .i64 0]), (16, .bool true), (17, .int .i64 0)], [(γ322 0, 46, aun_al13_c10), (γ320 0, 46, aun_al13_c10), (γ310 0, 46, aun_al13_c10), (γ308 5, 22, [.slice u2 1 u3]), (γ308 0, 46, aun_al13_c10), (γ301 1, 24, (aun_al13_c4 u7 u8 u9 u10)), (γ301 0, 24, (aun_al13_c5 u2 u3 u4 u5))]⟩, [], [], by kernel_rfl, .nil, ?_⟩
  refine crm hR321 (.int .i64 0) [] [] [false, false, true, true, true, false, true] ?_
  refine ck 2 [] [] fun γ330 => ⟨⟨kt (bdy Try.f59) [1, 1] [], (aun_al13_l20 u2 u3 γ320), [(γ310 0, 46, aun_al13_c10), (γ308 5, 22, [.slice u2 1 u3]), (γ308 0, 46, aun_al13_c10), (γ301 0, 24, (aun_al13_c5 u2 u3 u4 u5))]⟩, [], [], by kernel_rfl, .nil, ?_⟩
  refine crm hR319 (.bool true) [] [] [true, true, true, true] ?_
  refine ck 1 [] [] fun γ331 => ⟨⟨kt (bdy Try.f58) [1, 1] [], (aun_al13_l21 u2 u3 γ310), [(γ310 0, 46, aun_al13_c10), (γ308 5, 22, [.slice u2 1 u3]), (γ308 0, 46, aun_al13_c10), (γ301 0, 24, (aun_al13_c5 u2 u3 u4 u5))]⟩, [], [], by kernel_rfl, .nil, ?_⟩
  refine crm hR317 (.bool true) [] [] [true, true, true, true] ?_
  refine ck 2 [] [] fun γ332 => ⟨⟨ktl [1, 1, 0, 0, 1, 1, 0, 1] (I315 12) (kt (bdy Try.f81) [1, 0, 1, 0] []), (aun_al13_b24 u2 u3 γ308 γ310), [(γ310 0, 46, aun_al13_c10), (γ308 5, 22, [.slice u2 1 u3]), (γ308 0, 46, aun_al13_c10), (γ301 0, 24, (aun_al13_c5 u2 u3 u4 u5))]⟩, [], [], by kernel_rfl, .nil, ?_⟩
  refine crm hR313 (.int .i64 0) [] [] [false, true, true, true] ?_
  refine ck 2 [] [] fun γ333 => ⟨⟨kt (bdy Try.f57) [1, 1] [], (aun_al13_l25 γ308 γ310), [(γ308 5, 22, [.slice u2 1 u3]), (γ308 0, 46, aun_al13_c10), (γ301 0, 24, (aun_al13_c5 u2 u3 u4 u5))]⟩, [], [], by kernel_rfl, .nil, ?_⟩
  refine crm hR311 (.bool true) [] [] [true, true, true] ?_
  refine ck 1 [] [] fun γ334 => ⟨⟨kt (bdy Try.f34) [1, 1] [], (aun_al13_l26 γ308 γ310), [(γ308 5, 22, [.slice u2 1 u3]), (γ308 0, 46, aun_al13_c10), (γ301 0, 24, (aun_al13_c5 u2 u3 u4 u5))]⟩, [], [], by kernel_rfl, .nil, ?_⟩
  refine crm hR309 (.bool true) [] [] [true, true, true] ?_
  refine ck 1 [] [] fun γ335 => ⟨⟨ktl [1, 1, 0, 0, 1, 1, 0, 1] (I304 12) (kt (bdy Try.f17) [1, 1, 0, 1, 0] []), (aun_al13_b29 u2 u3 u4 u5 u7 u8 u9 u10 γ301 B306 o307 γ308), [(γ308 5, 22, [.slice u2 1 u3]), (γ308 0, 46, aun_al13_c10), (γ301 0, 24, (aun_al13_c5 u2 u3 u4 u5))]⟩, [], [], by kernel_rfl, .nil, ?_⟩
  refine rt (.bool true) [] [] (fun W hW => ?_)
  exact ⟨rfl, (hW.old 0 rfl)⟩
def aun_al14_l0 (u2 : Option Addr) (u3 : Nat) (u4 : Option Addr) (u5 : Nat) (γ401 : Nat → Nat) : List Value := [.agg #[.slice u2 1 u3, .slice u4 0 u5], .agg #[.slice u2 1 u3, .slice u4 0 u5], .pointer (some ⟨γ401 0, 0, none⟩), .pointer (some ⟨γ401 1, 0, none⟩), .bool false, zz, zz, zz, zz, .pointer (some ⟨γ401 0, 1, none⟩), .slice u4 0 u5, .int .i64 0, .int .i64 0, zz, zz, zz]
def aun_al14_l1 : List Value := [zz, zz, zz, zz, zz, zz, zz, zz, zz, zz, zz, zz, zz, zz, zz, zz]
def aun_al14_l2 : List Value := [zz, zz, zz, zz, zz]
def aun_al14_b3 (u2 : Option Addr) (u3 : Nat) (u4 : Option Addr) (u5 : Nat) (γ401 : Nat → Nat) : List Value := (aun_al14_l0 u2 u3 u4 u5 γ401) ++ (aun_al14_l1 ++ (aun_al14_l2))
def aun_al14_c4 (u2 : Option Addr) (u3 : Nat) (u4 : Option Addr) (u5 : Nat) : List Value := [.slice u2 1 u3, .slice u4 0 u5]
set_option maxHeartbeats 8000000 in
set_option maxRecDepth 100000 in
theorem aun_al14 (u2 : Option Addr) (u3 : Nat) (u4 : Option Addr) (u5 : Nat) {w : World} (hr0 : Rd w (.slice u2 1 u3) 3 encT46 ([(1, 0, 0)] : List (Int × Int × Int))) (hb0 : ([(1, 0, 0)] : List (Int × Int × Int)).length ≤ 1000) (hr1 : Rd w (.slice u4 0 u5) 3 encT46 ([] : List (Int × Int × Int))) (hb1 : ([] : List (Int × Int × Int)).length ≤ 1000) : Calls Try.prog 17 #[.agg #[.slice u2 1 u3, .slice u4 0 u5], .agg #[.slice u2 1 u3, .slice u4 0 u5]] w fun e w' => e = .returned (.bool false) ∧ Below w.heap.size w w' := by
  refine enter (args := [.agg #[.slice u2 1 u3, .slice u4 0 u5], .agg #[.slice u2 1 u3, .slice u4 0 u5]]) (fn := Try.f17) rfl (c := bdy Try.f17) (by kernel_rfl) ?_
  have hcap0 := hr0.cap.2
  have hcap1 := hr1.cap.2
  refine ck 7 [(1, 1)] [] fun γ401 => ⟨⟨kt (bdy Try.f17) [1, 0, 1, 0] [], (aun_al14_b3 u2 u3 u4 u5 γ401), [(γ401 1, 24, (aun_al14_c4 u2 u3 u4 u5)), (γ401 0, 24, (aun_al14_c4 u2 u3 u4 u5))]⟩, [(1, γ401 0)], [], by kernel_rfl, .nil, ?_⟩
  refine lu 12 (fun I402 hI402 => ?_)
  refine ck 5 [(1, 0)] [] fun γ403 => ⟨⟨kt (bdy Try.f17) [1, 1, 0, 1, 0] [], upv (aun_al14_b3 u2 u3 u4 u5 γ401) [(13, .bool false), (24, .pointer (some ⟨γ401 1, 1, none⟩)), (25, .slice u4 0 u5), (26, .int .i64 0), (27, .int .i64 0)], [(γ401 1, 24, (aun_al14_c4 u2 u3 u4 u5)), (γ401 0, 24, (aun_al14_c4 u2 u3 u4 u5))]⟩, [(1, γ401 1)], [], by kernel_rfl, .nil, ?_⟩
  refine lu 12 (fun I404 hI404 => ?_)
  refine ck 2 [] [] fun γ405 => ⟨⟨kt (bdy Try.f17) [1, 1, 1, 1] [], upv (aun_al14_b3 u2 u3 u4 u5 γ401) [(13, .bool false), (24, .pointer (some ⟨γ401 1, 1, none⟩)), (25, .slice u4 0 u5), (26, .int .i64 0), (27, .int .i64 0), (28, .bool false)], [(γ401 1, 24, (aun_al14_c4 u2 u3 u4 u5)), (γ401 0, 24, (aun_al14_c4 u2 u3 u4 u5))]⟩, [], [], by kernel_rfl, .nil, ?_⟩
  refine rt (.bool false) [] [] (fun W hW => ?_)
  exact ⟨rfl, (hW.old 0 rfl)⟩
def aun_al16_l0 (u2 : Option Addr) (u3 : Nat) (u4 : Option Addr) (u5 : Nat) (γ601 : Nat → Nat) : List Value := [.slice u2 1 u3, .slice u4 0 u5, zz, zz, .pointer (some ⟨γ601 0, 0, none⟩), .slice u2 1 u3, .slice (some ⟨γ601 2, 0, none⟩) 1 1, zz, zz, zz, zz, zz]
def aun_al16_c1 : List Value := [.slice none 0 0, .slice none 0 0]
def aun_al16_l2 (γ601 : Nat → Nat) : List Value := [.slice (some ⟨γ601 2, 0, none⟩) 1 1, zz, .slice none 0 0, zz, .slice (some ⟨γ601 2, 0, none⟩) 1 1, zz, zz, zz, zz, zz]
def aun_al16_l3 (γ601 : Nat → Nat) : List Value := [.slice (some ⟨γ601 2, 0, none⟩) 1 1, zz, .slice none 0 0, .int .i64 0, zz, zz, zz, zz, zz, .slice (some ⟨γ601 2, 0, none⟩) 1 1, .int .i64 1, .int .i64 0, zz, zz, zz, zz]
def aun_al16_l4 : List Value := [zz, zz, zz, zz, zz, zz, zz, zz, zz, zz, zz, zz, zz, zz, zz, zz]
def aun_al16_l5 : List Value := [zz, zz, zz, zz]
def aun_al16_b6 (γ601 : Nat → Nat) : List Value := (aun_al16_l3 γ601) ++ (aun_al16_l4 ++ (aun_al16_l5))
def aun_al16_l7 (u2 : Option Addr) (u3 : Nat) (γ601 : Nat → Nat) : List Value := [.slice (some ⟨γ601 2, 0, none⟩) 1 1, zz, .slice none 0 0, .int .i64 1, zz, .slice u2 1 u3, zz, zz, zz, .slice (some ⟨γ601 2, 0, none⟩) 1 1, .int .i64 1, .int .i64 1, .bool true, .pointer (some ⟨γ601 2, 0, none⟩), .slice u2 1 u3, .int .i64 0]
def aun_al16_l8 (u2 : Option Addr) (u3 : Nat) : List Value := [.slice u2 1 u3, .int .i64 1, .int .i64 1, .int .i64 1, .bool false, zz, .int .i64 1, zz, zz, zz, zz, zz, zz, zz, zz, zz]
def aun_al16_b9 (u2 : Option Addr) (u3 : Nat) (γ601 : Nat → Nat) : List Value := (aun_al16_l7 u2 u3 γ601) ++ ((aun_al16_l8 u2 u3) ++ (aun_al16_l5))
def aun_al16_l10 : List Value := [.slice none 0 0, .int .i64 1, zz, zz, .slice none 0 0, .int .i64 1, .bool false, zz, .int .i64 1, .slice none 0 0, .int .i64 0, .slice none 0 0, .int .i64 0, .int .i64 0, .int .i64 1, .int .i64 1]
def aun_al16_l11 : List Value := [.bool true, .slice none 0 0, .slice none 0 0, .int .i64 0, zz, zz, zz, zz, zz, zz, zz]
def aun_al16_b12 : List Value := aun_al16_l10 ++ (aun_al16_l11)
def aun_al16_l13 (u2 : Option Addr) (u3 : Nat) (γ601 : Nat → Nat) (g612 : Nat) (c613 : Nat) : List Value := [.slice (some ⟨γ601 2, 0, none⟩) 1 1, zz, .slice none 0 0, .int .i64 1, zz, .slice u2 1 u3, .slice (some ⟨g612, 0, none⟩) 0 c613, zz, zz, .slice (some ⟨γ601 2, 0, none⟩) 1 1, .int .i64 1, .int .i64 1, .bool false, .pointer (some ⟨γ601 2, 0, none⟩), .slice u2 1 u3, .int .i64 0]
def aun_al16_l14 (u2 : Option Addr) (u3 : Nat) (γ601 : Nat → Nat) (g612 : Nat) (c613 : Nat) : List Value := [.slice u2 1 u3, .int .i64 1, .int .i64 1, .int .i64 1, .bool false, zz, .int .i64 1, .int .i64 1, .slice (some ⟨g612, 0, none⟩) 0 c613, .slice (some ⟨γ601 2, 0, none⟩) 1 1, .int .i64 1, .int .i64 0, zz, zz, zz, zz]
def aun_al16_b15 (u2 : Option Addr) (u3 : Nat) (γ601 : Nat → Nat) (g612 : Nat) (c613 : Nat) : List Value := (aun_al16_l13 u2 u3 γ601 g612 c613) ++ ((aun_al16_l14 u2 u3 γ601 g612 c613) ++ (aun_al16_l5))
def aun_al16_l16 (γ601 : Nat → Nat) (A619 : Option Addr) (c619 : Nat) : List Value := [.slice (some ⟨γ601 2, 0, none⟩) 1 1, zz, .slice none 0 0, .slice A619 1 c619, .slice (some ⟨γ601 2, 0, none⟩) 1 1, .slice A619 1 c619, .slice A619 1 c619, zz, zz, zz]
def aun_al16_l17 (A619 : Option Addr) (c619 : Nat) : List Value := [.slice A619 1 c619, .func (.func 54) #[] #[], zz, zz, .int .i64 1, .slice A619 1 c619, .int .i64 1, .slice A619 1 c619, .int .i64 1, .int .i64 1, .int .u64 1, zz, zz, zz]
def aun_al16_l18 : List Value := [.int .u64 1, zz, .int .i64 0, zz, zz, zz, .int .u64 1, zz]
def aun_al16_l19 : List Value := [.int .u64 1, zz, .int .i64 1, .int .u64 1, .bool false, zz, zz, .int .u64 1, .bool false, zz, zz, zz, zz, .int .u64 1, .bool false, zz]
def aun_al16_l20 : List Value := [zz, zz, zz, .int .i64 0, .int .u64 1, .int .u8 1, .int .u8 1, .int .i64 1, .int .i64 1]
def aun_al16_b21 : List Value := aun_al16_l19 ++ (aun_al16_l20)
def aun_al16_l22 : List Value := [.int .u64 1, zz, .int .i64 1, zz, zz, zz, .int .u64 1, .int .i64 1]
def aun_al16_l23 (A619 : Option Addr) (c619 : Nat) : List Value := [.slice A619 1 c619, .func (.func 54) #[] #[], zz, zz, .int .i64 1, .slice A619 1 c619, .int .i64 1, .slice A619 1 c619, .int .i64 1, .int .i64 1, .int .u64 1, .int .i64 1, .func (.func 54) #[] #[], zz]
def aun_al16_l24 (A619 : Option Addr) (c619 : Nat) : List Value := [.slice A619 1 c619, .int .i64 0, .int .i64 1, .int .i64 1, .func (.func 54) #[] #[], zz, zz, zz, zz, zz, .bool true, .bool true, zz, zz, zz, zz]
def aun_al16_b25 (A619 : Option Addr) (c619 : Nat) : List Value := (aun_al16_l24 A619 c619) ++ (aun_al16_l4 ++ (aun_al16_l4 ++ (aun_al16_l4 ++ (aun_al16_l4 ++ (aun_al16_l4 ++ (aun_al16_l4 ++ (aun_al16_l4 ++ (aun_al16_l4 ++ (aun_al16_l5)))))))))
def aun_al16_l26 (A619 : Option Addr) (c619 : Nat) : List Value := [.slice A619 1 c619, .int .i64 0, .int .i64 1, .func (.func 54) #[] #[], zz, zz, zz, zz, .int .i64 1, zz, .int .i64 0, .int .i64 1, zz, zz, zz, zz]
def aun_al16_l27 : List Value := [zz, zz, zz, zz, zz]
def aun_al16_b28 (A619 : Option Addr) (c619 : Nat) : List Value := (aun_al16_l26 A619 c619) ++ (aun_al16_l4 ++ (aun_al16_l4 ++ (aun_al16_l27)))
def aun_al16_l29 (γ601 : Nat → Nat) (A619 : Option Addr) (c619 : Nat) : List Value := [.slice (some ⟨γ601 2, 0, none⟩) 1 1, zz, .slice none 0 0, .slice A619 1 c619, .slice (some ⟨γ601 2, 0, none⟩) 1 1, .slice A619 1 c619, .slice A619 1 c619, .tuple #[], .slice A619 1 c619, zz]
def aun_al16_l30 (A619 : Option Addr) (c619 : Nat) : List Value := [.slice A619 1 c619, zz, .slice A619 1 c619, zz, zz, zz, .slice A619 1 c619, .int .i64 1, .bool true, .slice A619 1 c619, zz, zz, zz, zz, zz, zz]
def aun_al16_l31 : List Value := [zz, zz, zz, zz, zz, zz, zz, zz, zz, zz, zz, zz, zz]
def aun_al16_b32 (A619 : Option Addr) (c619 : Nat) : List Value := (aun_al16_l30 A619 c619) ++ (aun_al16_l4 ++ (aun_al16_l4 ++ (aun_al16_l31)))
def aun_al16_l33 (γ601 : Nat → Nat) (A619 : Option Addr) (c619 : Nat) : List Value := [.slice (some ⟨γ601 2, 0, none⟩) 1 1, zz, .slice A619 1 c619, .slice A619 1 c619, .slice (some ⟨γ601 2, 0, none⟩) 1 1, .slice A619 1 c619, .slice A619 1 c619, .tuple #[], .slice A619 1 c619, .slice A619 1 c619]
def aun_al16_l34 (u2 : Option Addr) (u3 : Nat) (u4 : Option Addr) (u5 : Nat) (γ601 : Nat → Nat) (A619 : Option Addr) (c619 : Nat) (γ643 : Nat → Nat) : List Value := [.slice u2 1 u3, .slice u4 0 u5, zz, zz, .pointer (some ⟨γ601 0, 0, none⟩), .slice u2 1 u3, .slice (some ⟨γ601 2, 0, none⟩) 1 1, .slice A619 1 c619, .slice u4 0 u5, .slice (some ⟨γ643 1, 0, none⟩) 1 1, zz, zz]
def aun_al16_l35 (γ643 : Nat → Nat) : List Value := [.slice (some ⟨γ643 1, 0, none⟩) 1 1, zz, .slice none 0 0, zz, .slice (some ⟨γ643 1, 0, none⟩) 1 1, zz, zz, zz, zz, zz]
def aun_al16_l36 (γ643 : Nat → Nat) : List Value := [.slice (some ⟨γ643 1, 0, none⟩) 1 1, zz, .slice none 0 0, .int .i64 0, zz, zz, zz, zz, zz, .slice (some ⟨γ643 1, 0, none⟩) 1 1, .int .i64 1, .int .i64 0, zz, zz, zz, zz]
def aun_al16_b37 (γ643 : Nat → Nat) : List Value := (aun_al16_l36 γ643) ++ (aun_al16_l4 ++ (aun_al16_l5))
def aun_al16_l38 (u4 : Option Addr) (u5 : Nat) (γ643 : Nat → Nat) : List Value := [.slice (some ⟨γ643 1, 0, none⟩) 1 1, zz, .slice none 0 0, .int .i64 0, zz, .slice u4 0 u5, zz, zz, zz, .slice (some ⟨γ643 1, 0, none⟩) 1 1, .int .i64 1, .int .i64 1, .bool false, .pointer (some ⟨γ643 1, 0, none⟩), .slice u4 0 u5, .int .i64 0]
def aun_al16_l39 (u4 : Option Addr) (u5 : Nat) : List Value := [.slice u4 0 u5, .int .i64 0, .int .i64 0, .int .i64 0, .bool false, zz, .int .i64 1, .int .i64 0, zz, zz, zz, zz, zz, zz, zz, zz]
def aun_al16_b40 (u4 : Option Addr) (u5 : Nat) (γ643 : Nat → Nat) : List Value := (aun_al16_l38 u4 u5 γ643) ++ ((aun_al16_l39 u4 u5) ++ (aun_al16_l5))
def aun_al16_l41 : List Value := [.slice none 0 0, .int .i64 0, zz, zz, .slice none 0 0, .int .i64 0, .bool false, zz, .int .i64 0, .slice none 0 0, .int .i64 0, .slice none 0 0, .int .i64 0, .int .i64 0, .int .i64 0, .int .i64 0]
def aun_al16_l42 : List Value := [.bool false, zz, zz, zz, zz, zz, zz, zz, zz, zz, .slice none 0 0]
def aun_al16_b43 : List Value := aun_al16_l41 ++ (aun_al16_l42)
def aun_al16_l44 (u4 : Option Addr) (u5 : Nat) (γ643 : Nat → Nat) : List Value := [.slice (some ⟨γ643 1, 0, none⟩) 1 1, zz, .slice none 0 0, .int .i64 0, zz, .slice u4 0 u5, .slice none 0 0, zz, zz, .slice (some ⟨γ643 1, 0, none⟩) 1 1, .int .i64 1, .int .i64 1, .bool false, .pointer (some ⟨γ643 1, 0, none⟩), .slice u4 0 u5, .int .i64 0]
def aun_al16_l45 (u4 : Option Addr) (u5 : Nat) (γ643 : Nat → Nat) : List Value := [.slice u4 0 u5, .int .i64 0, .int .i64 0, .int .i64 0, .bool false, zz, .int .i64 1, .int .i64 0, .slice none 0 0, .slice (some ⟨γ643 1, 0, none⟩) 1 1, .int .i64 1, .int .i64 0, zz, zz, zz, zz]
def aun_al16_b46 (u4 : Option Addr) (u5 : Nat) (γ643 : Nat → Nat) : List Value := (aun_al16_l44 u4 u5 γ643) ++ ((aun_al16_l45 u4 u5 γ643) ++ (aun_al16_l5))
def aun_al16_l47 (γ643 : Nat → Nat) (A656 : Option Addr) (c656 : Nat) : List Value := [.slice (some ⟨γ643 1, 0, none⟩) 1 1, zz, .slice none 0 0, .slice A656 0 c656, .slice (some ⟨γ643 1, 0, none⟩) 1 1, .slice A656 0 c656, .slice A656 0 c656, zz, zz, zz]
def aun_al16_l48 (A656 : Option Addr) (c656 : Nat) : List Value := [.slice A656 0 c656, .func (.func 54) #[] #[], zz, zz, .int .i64 0, .slice A656 0 c656, .int .i64 0, .slice A656 0 c656, .int .i64 0, .int .i64 0, .int .u64 0, zz, zz, zz]
def aun_al16_l49 : List Value := [.int .u64 0, zz, .int .i64 0, zz, zz, zz, .int .u64 0, zz]
def aun_al16_l50 : List Value := [.int .u64 0, zz, .int .i64 0, .int .u64 0, .bool false, zz, zz, .int .u64 0, .bool false, zz, zz, zz, zz, .int .u64 0, .bool false, zz]
def aun_al16_l51 : List Value := [zz, zz, zz, .int .i64 0, .int .u64 0, .int .u8 0, .int .u8 0, .int .i64 0, .int .i64 0]
def aun_al16_b52 : List Value := aun_al16_l50 ++ (aun_al16_l51)
def aun_al16_l53 : List Value := [.int .u64 0, zz, .int .i64 0, zz, zz, zz, .int .u64 0, .int .i64 0]
def aun_al16_l54 (A656 : Option Addr) (c656 : Nat) : List Value := [.slice A656 0 c656, .func (.func 54) #[] #[], zz, zz, .int .i64 0, .slice A656 0 c656, .int .i64 0, .slice A656 0 c656, .int .i64 0, .int .i64 0, .int .u64 0, .int .i64 0, .func (.func 54) #[] #[], zz]
def aun_al16_l55 (A656 : Option Addr) (c656 : Nat) : List Value := [.slice A656 0 c656, .int .i64 0, .int .i64 0, .int .i64 0, .func (.func 54) #[] #[], zz, zz, zz, zz, zz, .bool true, .bool true, zz, zz, zz, zz]
def aun_al16_b56 (A656 : Option Addr) (c656 : Nat) : List Value := (aun_al16_l55 A656 c656) ++ (aun_al16_l4 ++ (aun_al16_l4 ++ (aun_al16_l4 ++ (aun_al16_l4 ++ (aun_al16_l4 ++ (aun_al16_l4 ++ (aun_al16_l4 ++ (aun_al16_l4 ++ (aun_al16_l5)))))))))
def aun_al16_l57 (A656 : Option Addr) (c656 : Nat) : List Value := [.slice A656 0 c656, .int .i64 0, .int .i64 0, .func (.func 54) #[] #[], zz, zz, zz, zz, .int .i64 1, zz, .int .i64 0, .int .i64 1, zz, zz, zz, zz]
def aun_al16_b58 (A656 : Option Addr) (c656 : Nat) : List Value := (aun_al16_l57 A656 c656) ++ (aun_al16_l4 ++ (aun_al16_l4 ++ (aun_al16_l27)))
def aun_al16_l59 (γ643 : Nat → Nat) (A656 : Option Addr) (c656 : Nat) : List Value := [.slice (some ⟨γ643 1, 0, none⟩) 1 1, zz, .slice none 0 0, .slice A656 0 c656, .slice (some ⟨γ643 1, 0, none⟩) 1 1, .slice A656 0 c656, .slice A656 0 c656, .tuple #[], .slice A656 0 c656, zz]
def aun_al16_l60 (A656 : Option Addr) (c656 : Nat) : List Value := [.slice A656 0 c656, zz, .slice A656 0 c656, zz, zz, zz, .slice A656 0 c656, .int .i64 0, .bool true, .slice A656 0 c656, zz, zz, zz, zz, zz, zz]
def aun_al16_b61 (A656 : Option Addr) (c656 : Nat) : List Value := (aun_al16_l60 A656 c656) ++ (aun_al16_l4 ++ (aun_al16_l4 ++ (aun_al16_l31)))
def aun_al16_l62 (γ643 : Nat → Nat) (A656 : Option Addr) (c656 : Nat) : List Value := [.slice (some ⟨γ643 1, 0, none⟩) 1 1, zz, .slice A656 0 c656, .slice A656 0 c656, .slice (some ⟨γ643 1, 0, none⟩) 1 1, .slice A656 0 c656, .slice A656 0 c656, .tuple #[], .slice A656 0 c656, .slice A656 0 c656]
def aun_al16_l63 (u2 : Option Addr) (u3 : Nat) (u4 : Option Addr) (u5 : Nat) (γ601 : Nat → Nat) (A619 : Option Addr) (c619 : Nat) (γ643 : Nat → Nat) (A656 : Option Addr) (c656 : Nat) : List Value := [.slice u2 1 u3, .slice u4 0 u5, zz, zz, .pointer (some ⟨γ601 0, 0, none⟩), .slice u2 1 u3, .slice (some ⟨γ601 2, 0, none⟩) 1 1, .slice A619 1 c619, .slice u4 0 u5, .slice (some ⟨γ643 1, 0, none⟩) 1 1, .slice A656 0 c656, .agg #[.slice A619 1 c619, .slice A656 0 c656]]
def aun_al16_c64 (A619 : Option Addr) (c619 : Nat) (A656 : Option Addr) (c656 : Nat) : List Value := [.slice A619 1 c619, .slice A656 0 c656]
set_option maxHeartbeats 8000000 in
set_option maxRecDepth 100000 in
theorem aun_al16 (u2 : Option Addr) (u3 : Nat) (u4 : Option Addr) (u5 : Nat) {w : World} (hr0 : Rd w (.slice u2 1 u3) 3 encT46 ([(1, 0, 0)] : List (Int × Int × Int))) (hb0 : ([(1, 0, 0)] : List (Int × Int × Int)).length ≤ 1000) (hr1 : Rd w (.slice u4 0 u5) 3 encT46 ([] : List (Int × Int × Int))) (hb1 : ([] : List (Int × Int × Int)).length ≤ 1000) : Calls Try.prog 12 #[.slice u2 1 u3, .slice u4 0 u5] w fun e w' => ∃ x : (Option Addr) × Nat × (Option Addr) × Nat, e = .returned (.agg #[.slice x.1 1 x.2.1, .slice x.2.2.1 0 x.2.2.2]) ∧ Fresh w w' [rowA 46 3 (.slice x.2.2.1 0 x.2.2.2) ([] : List (Int × Int × Int)).length (([] : List (Int × Int × Int)).flatMap encT46), rowA 46 3 (.slice x.1 1 x.2.1) ([(1, 0, 0)] : List (Int × Int × Int)).length (([(1, 0, 0)] : List (Int × Int × Int)).flatMap encT46)] := by
  refine enter (args := [.slice u2 1 u3, .slice u4 0 u5]) (fn := Try.f12) rfl (c := bdy Try.f12) (by kernel_rfl) ?_
  have hcap0 := hr0.cap.2
  have hcap1 := hr1.cap.2
  refine ck 3 [] [] fun γ601 => ⟨⟨kt (bdy Try.f12) [1, 0, 2] [], (aun_al16_l0 u2 u3 u4 u5 γ601), [(γ601 2, 22, [.slice u2 1 u3]), (γ601 0, 24, aun_al16_c1)]⟩, [], [], by kernel_rfl, .nil, ?_⟩
  refine ci (f := 30) (args := [.slice (some ⟨γ601 2, 0, none⟩) 1 1]) (fn := Try.f30) (c := bdy Try.f30) rfl (fun R602 hR602 => ?_)
  refine ck 2 [] [] fun γ603 => ⟨⟨kt (bdy Try.f30) [1, 0, 1] [], (aun_al16_l2 γ601), [(γ601 2, 22, [.slice u2 1 u3]), (γ601 0, 24, aun_al16_c1)]⟩, [], [], by kernel_rfl, .nil, ?_⟩
  refine ci (f := 52) (args := [.slice (some ⟨γ601 2, 0, none⟩) 1 1]) (fn := Try.f52) (c := bdy Try.f52) rfl (fun R604 hR604 => ?_)
  refine ck 5 [] [] fun γ605 => ⟨⟨kt (bdy Try.f52) [1, 1, 0, 1, 0] [], (aun_al16_b6 γ601), [(γ601 2, 22, [.slice u2 1 u3]), (γ601 0, 24, aun_al16_c1)]⟩, [], [], by kernel_rfl, .nil, ?_⟩
  refine lu 12 (fun I606 hI606 => ?_)
  refine ck 13 [(1, 0)] [] fun γ607 => ⟨⟨ktp (I606 12) (kt (bdy Try.f52) [1, 1, 0, 1, 0] []), (aun_al16_b9 u2 u3 γ601), [(γ601 2, 22, [.slice u2 1 u3]), (γ601 0, 24, aun_al16_c1)]⟩, [(1, γ601 2)], [(0 : Int) ≤ 0 ∧ 0 < ((1 : Nat) : Int)], by kernel_rfl, (.cons ⟨by omega, by omega⟩ .nil), ?_⟩
  refine lv hI606 11 ?_
  refine ck 2 [] [] fun γ608 => ⟨⟨kt (bdy Try.f52) [1, 1, 1, 0, 1] [], upv (aun_al16_b9 u2 u3 γ601) [(12, .bool false), (23, .int .i64 1)], [(γ601 2, 22, [.slice u2 1 u3]), (γ601 0, 24, aun_al16_c1)]⟩, [], [], by kernel_rfl, .nil, ?_⟩
  refine ci (f := 77) (args := [.slice none 0 0, .int .i64 1]) (fn := Try.f77) (c := bdy Try.f77) rfl (fun R609 hR609 => ?_)
  refine ck 16 [] [] fun γ610 => ⟨⟨kt (bdy Try.f77) [1, 1, 0, 1, 1, 0, 3] [], aun_al16_b12, [(γ601 2, 22, [.slice u2 1 u3]), (γ601 0, 24, aun_al16_c1)]⟩, [], [], by kernel_rfl, .nil, ?_⟩
  refine sl0 (A := none) (n := 0) (c := 0) (sz := 3) (some (.int .i64 0)) none 0 0 rfl rfl rfl (by omega) (by omega) ?_ none rfl
  refine ck 1 [] [] fun γ611 => ⟨⟨kt (bdy Try.f77) [1, 1, 0, 1, 1, 0, 5] [], upv aun_al16_b12 [(20, .slice none 0 0), (21, .int .i64 1)], [(γ601 2, 22, [.slice u2 1 u3]), (γ601 0, 24, aun_al16_c1)]⟩, [], [], by kernel_rfl, .nil, ?_⟩
  refine apz (e := 46) (x := 1) (kk := .i64) (sz := 3) (bytes := 24) 1 (by rfl) (by first | decide | omega | (simp only [maxLen]; omega)) (by first | decide | omega | (simp only [maxLen]; omega)) (by first | decide | omega | (simp only [maxLen]; omega)) (by decide) (fun g612 c613 hcp613 => ?_)
  refine ck 2 [] [] fun γ614 => ⟨⟨kt (bdy Try.f77) [1, 1, 0, 1, 1, 0, 8] [], upv aun_al16_b12 [(20, .slice none 0 0), (21, .int .i64 1), (22, .slice (some ⟨g612, 0, none⟩) 1 c613), (23, .slice none 0 0), (24, .int .i64 0)], [(γ601 2, 22, [.slice u2 1 u3]), (γ601 0, 24, aun_al16_c1)]⟩, [], [], by kernel_rfl, .nil, ?_⟩
  refine sl0 (A := some ⟨g612, 0, none⟩) (n := 1) (c := c613) (sz := 3) (some (.int .i64 0)) none 0 c613 rfl rfl rfl (by omega) (by omega) ?_ none rfl
  refine ck 3 [] [] fun γ615 => ⟨⟨kt (bdy Try.f77) [1, 1, 1, 1] [], upv aun_al16_b12 [(0, .slice (some ⟨g612, 0, none⟩) 0 c613), (4, .slice (some ⟨g612, 0, none⟩) 0 c613), (20, .slice none 0 0), (21, .int .i64 1), (22, .slice (some ⟨g612, 0, none⟩) 1 c613), (23, .slice none 0 0), (24, .int .i64 0), (25, .slice (some ⟨g612, 0, none⟩) 0 c613), (26, .slice (some ⟨g612, 0, none⟩) 0 c613)], [(γ601 2, 22, [.slice u2 1 u3]), (γ601 0, 24, aun_al16_c1)]⟩, [], [], by kernel_rfl, .nil, ?_⟩
  refine crm hR609 (.slice (some ⟨g612, 0, none⟩) 0 c613) [] [] [true, true] ?_
  refine ck 4 [] [] fun γ616 => ⟨⟨kt (bdy Try.f52) [1, 1, 1, 1, 0, 1, 0] [], (aun_al16_b15 u2 u3 γ601 g612 c613), [(γ601 2, 22, [.slice u2 1 u3]), (γ601 0, 24, aun_al16_c1)]⟩, [], [], by kernel_rfl, .nil, ?_⟩
  refine lu 12 (fun I617 hI617 => ?_)
  refine ck 6 [(1, 0)] [] fun γ618 => ⟨⟨ktl [1, 1, 0, 0, 1, 2] (I617 12) (kt (bdy Try.f52) [1, 1, 1, 1, 0, 1, 0] []), upv (aun_al16_b15 u2 u3 γ601 g612 c613) [(8, .slice u2 1 u3), (28, .bool true), (29, .pointer (some ⟨γ601 2, 0, none⟩)), (30, .slice u2 1 u3), (31, .slice (some ⟨g612, 0, none⟩) 0 c613), (32, .slice u2 1 u3)], [(γ601 2, 22, [.slice u2 1 u3]), (γ601 0, 24, aun_al16_c1)]⟩, [(1, γ601 2)], [(0 : Int) ≤ 0 ∧ 0 < ((1 : Nat) : Int)], by kernel_rfl, (.cons ⟨by omega, by omega⟩ .nil), ?_⟩
  refine aps (enc := encT46) (l := ([(1, 0, 0)] : List (Int × Int × Int))) 0 24 rfl (fun W hW => (hr0.below (hW.old 1 rfl))) encT46_len encT46_cell (by first | omega | (simp only [List.length_append, List.length_cons, List.length_nil]; omega)) (by simp only [maxLen]; first | omega | (simp only [List.length_append, List.length_cons, List.length_nil]; omega)) (([(1, 0, 0)] : List (Int × Int × Int)).length) (([(1, 0, 0)] : List (Int × Int × Int)).flatMap encT46) (by simp) (by simp) fun A619 c619 => ?_
  refine ck 3 [] [] fun γ620 => ⟨⟨ktp (I617 12) (kt (bdy Try.f52) [1, 1, 1, 1, 0, 1, 0] []), upv (aun_al16_b15 u2 u3 γ601 g612 c613) [(6, .slice A619 1 c619), (8, .slice u2 1 u3), (27, .int .i64 1), (28, .bool true), (29, .pointer (some ⟨γ601 2, 0, none⟩)), (30, .slice u2 1 u3), (31, .slice (some ⟨g612, 0, none⟩) 0 c613), (32, .slice u2 1 u3), (33, .slice A619 1 c619), (34, .int .i64 1)], [(γ601 2, 22, [.slice u2 1 u3]), (γ601 0, 24, aun_al16_c1)]⟩, [], [], by kernel_rfl, .nil, ?_⟩
  refine lv hI617 11 ?_
  refine ck 3 [] [] fun γ621 => ⟨⟨kt (bdy Try.f52) [1, 1, 1, 1, 1, 1] [], upv (aun_al16_b15 u2 u3 γ601 g612 c613) [(2, .slice A619 1 c619), (6, .slice A619 1 c619), (8, .slice u2 1 u3), (27, .int .i64 1), (28, .bool false), (29, .pointer (some ⟨γ601 2, 0, none⟩)), (30, .slice u2 1 u3), (31, .slice (some ⟨g612, 0, none⟩) 0 c613), (32, .slice u2 1 u3), (33, .slice A619 1 c619), (34, .int .i64 1), (35, .slice A619 1 c619)], [(γ601 2, 22, [.slice u2 1 u3]), (γ601 0, 24, aun_al16_c1)]⟩, [], [], by kernel_rfl, .nil, ?_⟩
  refine crm hR604 (.slice A619 1 c619) [] [] [false, true] ?_
  refine ck 2 [] [] fun γ622 => ⟨⟨kt (bdy Try.f30) [1, 1, 0, 1] [], (aun_al16_l16 γ601 A619 c619), [(γ601 0, 24, aun_al16_c1)]⟩, [], [], by kernel_rfl, .nil, ?_⟩
  refine ci (f := 53) (args := [.slice A619 1 c619, .func (.func 54) #[] #[]]) (fn := Try.f53) (c := bdy Try.f53) rfl (fun R623 hR623 => ?_)
  refine ck 7 [] [] fun γ624 => ⟨⟨kt (bdy Try.f53) [1, 4] [], (aun_al16_l17 A619 c619), [(γ601 0, 24, aun_al16_c1)]⟩, [], [], by kernel_rfl, .nil, ?_⟩
  refine ci (f := 79) (args := [.int .u64 1]) (fn := Try.f79) (c := bdy Try.f79) rfl (fun R625 hR625 => ?_)
  refine ck 2 [] [] fun γ626 => ⟨⟨kt (bdy Try.f79) [1, 1, 0, 1] [], aun_al16_l18, [(γ601 0, 24, aun_al16_c1)]⟩, [], [], by kernel_rfl, .nil, ?_⟩
  refine ci (f := 99) (args := [.int .u64 1]) (fn := Try.f99) (c := bdy Try.f99) rfl (fun R627 hR627 => ?_)
  refine ck 14 [] [] fun γ628 => ⟨⟨kt (bdy Try.f99) [1, 1, 1, 1, 1] [], aun_al16_b21, [(γ601 0, 24, aun_al16_c1)]⟩, [], [], by kernel_rfl, .nil, ?_⟩
  refine crm hR627 (.int .i64 1) [] [] [true] ?_
  refine ck 1 [] [] fun γ629 => ⟨⟨kt (bdy Try.f79) [1, 1, 1] [], aun_al16_l22, [(γ601 0, 24, aun_al16_c1)]⟩, [], [], by kernel_rfl, .nil, ?_⟩
  refine crm hR625 (.int .i64 1) [] [] [true] ?_
  refine ck 1 [] [] fun γ630 => ⟨⟨kt (bdy Try.f53) [1, 6] [], (aun_al16_l23 A619 c619), [(γ601 0, 24, aun_al16_c1)]⟩, [], [], by kernel_rfl, .nil, ?_⟩
  refine ci (f := 78) (args := [.slice A619 1 c619, .int .i64 0, .int .i64 1, .int .i64 1, .func (.func 54) #[] #[]]) (fn := Try.f78) (c := bdy Try.f78) rfl (fun R631 hR631 => ?_)
  refine ck 2 [] [] fun γ632 => ⟨⟨kt (bdy Try.f78) [1, 1, 0] [], (aun_al16_b25 A619 c619), [(γ601 0, 24, aun_al16_c1)]⟩, [], [], by kernel_rfl, .nil, ?_⟩
  refine lu 12 (fun I633 hI633 => ?_)
  refine ck 10 [] [] fun γ634 => ⟨⟨ktl [0, 1, 0, 1, 0, 0, 4] (I633 12) (kt (bdy Try.f78) [1, 1, 0] []), upv (aun_al16_b25 A619 c619) [(12, .int .i64 1), (21, .int .i64 1), (22, .int .i64 0), (23, .int .i64 1), (24, .int .i64 1), (25, .bool true), (26, .slice A619 1 c619), (27, .int .i64 0), (28, .int .i64 1), (29, .func (.func 54) #[] #[])], [(γ601 0, 24, aun_al16_c1)]⟩, [], [], by kernel_rfl, .nil, ?_⟩
  refine ci (f := 90) (args := [.slice A619 1 c619, .int .i64 0, .int .i64 1, .func (.func 54) #[] #[]]) (fn := Try.f90) (c := bdy Try.f90) rfl (fun R635 hR635 => ?_)
  refine ck 3 [] [] fun γ636 => ⟨⟨kt (bdy Try.f90) [1, 0] [], (aun_al16_b28 A619 c619), [(γ601 0, 24, aun_al16_c1)]⟩, [], [], by kernel_rfl, .nil, ?_⟩
  refine lu 12 (fun I637 hI637 => ?_)
  refine ck 3 [] [] fun γ638 => ⟨⟨[], upv (aun_al16_b28 A619 c619) [(12, .int .i64 1), (13, .int .i64 1), (14, .bool false)], [(γ601 0, 24, aun_al16_c1)]⟩, [], [], by kernel_rfl, .nil, ?_⟩
  refine crm hR635 (.tuple #[]) [] [] [true] ?_
  refine crm hR631 (.tuple #[]) [] [] [true] ?_
  refine crm hR623 (.tuple #[]) [] [] [true] ?_
  refine ck 1 [] [] fun γ639 => ⟨⟨kt (bdy Try.f30) [1, 1, 1, 0, 1] [], (aun_al16_l29 γ601 A619 c619), [(γ601 0, 24, aun_al16_c1)]⟩, [], [], by kernel_rfl, .nil, ?_⟩
  refine ci (f := 55) (args := [.slice A619 1 c619]) (fn := Try.f55) (c := bdy Try.f55) rfl (fun R640 hR640 => ?_)
  refine ck 6 [] [] fun γ641 => ⟨⟨kt (bdy Try.f55) [1, 0, 1, 0, 1] [], (aun_al16_b32 A619 c619), [(γ601 0, 24, aun_al16_c1)]⟩, [], [], by kernel_rfl, .nil, ?_⟩
  refine crm hR640 (.slice A619 1 c619) [] [] [true] ?_
  refine ck 1 [] [] fun γ642 => ⟨⟨kt (bdy Try.f30) [1, 1, 1, 1] [], (aun_al16_l33 γ601 A619 c619), [(γ601 0, 24, aun_al16_c1)]⟩, [], [], by kernel_rfl, .nil, ?_⟩
  refine crm hR602 (.slice A619 1 c619) [] [] [true] ?_
  refine ck 2 [] [] fun γ643 => ⟨⟨kt (bdy Try.f12) [1, 0, 5] [], (aun_al16_l34 u2 u3 u4 u5 γ601 A619 c619 γ643), [(γ643 1, 22, [.slice u4 0 u5]), (γ601 0, 24, aun_al16_c1)]⟩, [], [], by kernel_rfl, .nil, ?_⟩
  refine ci (f := 30) (args := [.slice (some ⟨γ643 1, 0, none⟩) 1 1]) (fn := Try.f30) (c := bdy Try.f30) rfl (fun R644 hR644 => ?_)
  refine ck 2 [] [] fun γ645 => ⟨⟨kt (bdy Try.f30) [1, 0, 1] [], (aun_al16_l35 γ643), [(γ643 1, 22, [.slice u4 0 u5]), (γ601 0, 24, aun_al16_c1)]⟩, [], [], by kernel_rfl, .nil, ?_⟩
  refine ci (f := 52) (args := [.slice (some ⟨γ643 1, 0, none⟩) 1 1]) (fn := Try.f52) (c := bdy Try.f52) rfl (fun R646 hR646 => ?_)
  refine ck 5 [] [] fun γ647 => ⟨⟨kt (bdy Try.f52) [1, 1, 0, 1, 0] [], (aun_al16_b37 γ643), [(γ643 1, 22, [.slice u4 0 u5]), (γ601 0, 24, aun_al16_c1)]⟩, [], [], by kernel_rfl, .nil, ?_⟩
  refine lu 12 (fun I648 hI648 => ?_)
  refine ck 13 [(1, 0)] [] fun γ649 => ⟨⟨ktp (I648 12) (kt (bdy Try.f52) [1, 1, 0, 1, 0] []), upv (aun_al16_b37 γ643) [(5, .slice u4 0 u5), (11, .int .i64 1), (12, .bool true), (13, .pointer (some ⟨γ643 1, 0, none⟩)), (14, .slice u4 0 u5), (15, .int .i64 0), (16, .slice u4 0 u5), (17, .int .i64 0), (18, .int .i64 0), (19, .int .i64 0), (20, .bool false), (22, .int .i64 1)], [(γ643 1, 22, [.slice u4 0 u5]), (γ601 0, 24, aun_al16_c1)]⟩, [(1, γ643 1)], [(0 : Int) ≤ 0 ∧ 0 < ((1 : Nat) : Int)], by kernel_rfl, (.cons ⟨by omega, by omega⟩ .nil), ?_⟩
  refine lv hI648 11 ?_
  refine ck 2 [] [] fun γ650 => ⟨⟨kt (bdy Try.f52) [1, 1, 1, 0, 1] [], (aun_al16_b40 u4 u5 γ643), [(γ643 1, 22, [.slice u4 0 u5]), (γ601 0, 24, aun_al16_c1)]⟩, [], [], by kernel_rfl, .nil, ?_⟩
  refine ci (f := 77) (args := [.slice none 0 0, .int .i64 0]) (fn := Try.f77) (c := bdy Try.f77) rfl (fun R651 hR651 => ?_)
  refine ck 15 [] [] fun γ652 => ⟨⟨kt (bdy Try.f77) [1, 1, 1, 1] [], aun_al16_b43, [(γ643 1, 22, [.slice u4 0 u5]), (γ601 0, 24, aun_al16_c1)]⟩, [], [], by kernel_rfl, .nil, ?_⟩
  refine crm hR651 (.slice none 0 0) [] [] [true, true] ?_
  refine ck 4 [] [] fun γ653 => ⟨⟨kt (bdy Try.f52) [1, 1, 1, 1, 0, 1, 0] [], (aun_al16_b46 u4 u5 γ643), [(γ643 1, 22, [.slice u4 0 u5]), (γ601 0, 24, aun_al16_c1)]⟩, [], [], by kernel_rfl, .nil, ?_⟩
  refine lu 12 (fun I654 hI654 => ?_)
  refine ck 6 [(1, 0)] [] fun γ655 => ⟨⟨ktl [1, 1, 0, 0, 1, 2] (I654 12) (kt (bdy Try.f52) [1, 1, 1, 1, 0, 1, 0] []), upv (aun_al16_b46 u4 u5 γ643) [(8, .slice u4 0 u5), (28, .bool true), (29, .pointer (some ⟨γ643 1, 0, none⟩)), (30, .slice u4 0 u5), (31, .slice none 0 0), (32, .slice u4 0 u5)], [(γ643 1, 22, [.slice u4 0 u5]), (γ601 0, 24, aun_al16_c1)]⟩, [(1, γ643 1)], [(0 : Int) ≤ 0 ∧ 0 < ((1 : Nat) : Int)], by kernel_rfl, (.cons ⟨by omega, by omega⟩ .nil), ?_⟩
  refine nilrow 46 3 ?_
  refine aps (enc := encT46) (l := ([] : List (Int × Int × Int))) 0 24 rfl (fun W hW => (hr1.below (hW.old 2 rfl))) encT46_len encT46_cell (by first | omega | (simp only [List.length_append, List.length_cons, List.length_nil]; omega)) (by simp only [maxLen]; first | omega | (simp only [List.length_append, List.length_cons, List.length_nil]; omega)) (([] : List (Int × Int × Int)).length) (([] : List (Int × Int × Int)).flatMap encT46) (by simp) (by simp) fun A656 c656 => ?_
  refine ck 3 [] [] fun γ657 => ⟨⟨ktp (I654 12) (kt (bdy Try.f52) [1, 1, 1, 1, 0, 1, 0] []), upv (aun_al16_b46 u4 u5 γ643) [(6, .slice A656 0 c656), (8, .slice u4 0 u5), (27, .int .i64 1), (28, .bool true), (29, .pointer (some ⟨γ643 1, 0, none⟩)), (30, .slice u4 0 u5), (31, .slice none 0 0), (32, .slice u4 0 u5), (33, .slice A656 0 c656), (34, .int .i64 1)], [(γ643 1, 22, [.slice u4 0 u5]), (γ601 0, 24, aun_al16_c1)]⟩, [], [], by kernel_rfl, .nil, ?_⟩
  refine lv hI654 11 ?_
  refine ck 3 [] [] fun γ658 => ⟨⟨kt (bdy Try.f52) [1, 1, 1, 1, 1, 1] [], upv (aun_al16_b46 u4 u5 γ643) [(2, .slice A656 0 c656), (6, .slice A656 0 c656), (8, .slice u4 0 u5), (27, .int .i64 1), (28, .bool false), (29, .pointer (some ⟨γ643 1, 0, none⟩)), (30, .slice u4 0 u5), (31, .slice none 0 0), (32, .slice u4 0 u5), (33, .slice A656 0 c656), (34, .int .i64 1), (35, .slice A656 0 c656)], [(γ643 1, 22, [.slice u4 0 u5]), (γ601 0, 24, aun_al16_c1)]⟩, [], [], by kernel_rfl, .nil, ?_⟩
  refine crm hR646 (.slice A656 0 c656) [] [] [false, true] ?_
  refine ck 2 [] [] fun γ659 => ⟨⟨kt (bdy Try.f30) [1, 1, 0, 1] [], (aun_al16_l47 γ643 A656 c656), [(γ601 0, 24, aun_al16_c1)]⟩, [], [], by kernel_rfl, .nil, ?_⟩
  refine ci (f := 53) (args := [.slice A656 0 c656, .func (.func 54) #[] #[]]) (fn := Try.f53) (c := bdy Try.f53) rfl (fun R660 hR660 => ?_)
  refine ck 7 [] [] fun γ661 => ⟨⟨kt (bdy Try.f53) [1, 4] [], (aun_al16_l48 A656 c656), [(γ601 0, 24, aun_al16_c1)]⟩, [], [], by kernel_rfl, .nil, ?_⟩
  refine ci (f := 79) (args := [.int .u64 0]) (fn := Try.f79) (c := bdy Try.f79) rfl (fun R662 hR662 => ?_)
  refine ck 2 [] [] fun γ663 => ⟨⟨kt (bdy Try.f79) [1, 1, 0, 1] [], aun_al16_l49, [(γ601 0, 24, aun_al16_c1)]⟩, [], [], by kernel_rfl, .nil, ?_⟩
  refine ci (f := 99) (args := [.int .u64 0]) (fn := Try.f99) (c := bdy Try.f99) rfl (fun R664 hR664 => ?_)
  refine ck 14 [] [] fun γ665 => ⟨⟨kt (bdy Try.f99) [1, 1, 1, 1, 1] [], aun_al16_b52, [(γ601 0, 24, aun_al16_c1)]⟩, [], [], by kernel_rfl, .nil, ?_⟩
  refine crm hR664 (.int .i64 0) [] [] [true] ?_
  refine ck 1 [] [] fun γ666 => ⟨⟨kt (bdy Try.f79) [1, 1, 1] [], aun_al16_l53, [(γ601 0, 24, aun_al16_c1)]⟩, [], [], by kernel_rfl, .nil, ?_⟩
  refine crm hR662 (.int .i64 0) [] [] [true] ?_
  refine ck 1 [] [] fun γ667 => ⟨⟨kt (bdy Try.f53) [1, 6] [], (aun_al16_l54 A656 c656), [(γ601 0, 24, aun_al16_c1)]⟩, [], [], by kernel_rfl, .nil, ?_⟩
  refine ci (f := 78) (args := [.slice A656 0 c656, .int .i64 0, .int .i64 0, .int .i64 0, .func (.func 54) #[] #[]]) (fn := Try.f78) (c := bdy Try.f78) rfl (fun R668 hR668 => ?_)
  refine ck 2 [] [] fun γ669 => ⟨⟨kt (bdy Try.f78) [1, 1, 0] [], (aun_al16_b56 A656 c656), [(γ601 0, 24, aun_al16_c1)]⟩, [], [], by kernel_rfl, .nil, ?_⟩
  refine lu 12 (fun I670 hI670 => ?_)
  refine ck 10 [] [] fun γ671 => ⟨⟨ktl [0, 1, 0, 1, 0, 0, 4] (I670 12) (kt (bdy Try.f78) [1, 1, 0] []), upv (aun_al16_b56 A656 c656) [(12, .int .i64 0), (21, .int .i64 0), (22, .int .i64 0), (23, .int .i64 0), (24, .int .i64 0), (25, .bool true), (26, .slice A656 0 c656), (27, .int .i64 0), (28, .int .i64 0), (29, .func (.func 54) #[] #[])], [(γ601 0, 24, aun_al16_c1)]⟩, [], [], by kernel_rfl, .nil, ?_⟩
  refine ci (f := 90) (args := [.slice A656 0 c656, .int .i64 0, .int .i64 0, .func (.func 54) #[] #[]]) (fn := Try.f90) (c := bdy Try.f90) rfl (fun R672 hR672 => ?_)
  refine ck 3 [] [] fun γ673 => ⟨⟨kt (bdy Try.f90) [1, 0] [], (aun_al16_b58 A656 c656), [(γ601 0, 24, aun_al16_c1)]⟩, [], [], by kernel_rfl, .nil, ?_⟩
  refine lu 12 (fun I674 hI674 => ?_)
  refine ck 3 [] [] fun γ675 => ⟨⟨[], upv (aun_al16_b58 A656 c656) [(12, .int .i64 1), (13, .int .i64 0), (14, .bool false)], [(γ601 0, 24, aun_al16_c1)]⟩, [], [], by kernel_rfl, .nil, ?_⟩
  refine crm hR672 (.tuple #[]) [] [] [true] ?_
  refine crm hR668 (.tuple #[]) [] [] [true] ?_
  refine crm hR660 (.tuple #[]) [] [] [true] ?_
  refine ck 1 [] [] fun γ676 => ⟨⟨kt (bdy Try.f30) [1, 1, 1, 0, 1] [], (aun_al16_l59 γ643 A656 c656), [(γ601 0, 24, aun_al16_c1)]⟩, [], [], by kernel_rfl, .nil, ?_⟩
  refine ci (f := 55) (args := [.slice A656 0 c656]) (fn := Try.f55) (c := bdy Try.f55) rfl (fun R677 hR677 => ?_)
  refine ck 6 [] [] fun γ678 => ⟨⟨kt (bdy Try.f55) [1, 0, 1, 0, 1] [], (aun_al16_b61 A656 c656), [(γ601 0, 24, aun_al16_c1)]⟩, [], [], by kernel_rfl, .nil, ?_⟩
  refine crm hR677 (.slice A656 0 c656) [] [] [true] ?_
  refine ck 1 [] [] fun γ679 => ⟨⟨kt (bdy Try.f30) [1, 1, 1, 1] [], (aun_al16_l62 γ643 A656 c656), [(γ601 0, 24, aun_al16_c1)]⟩, [], [], by kernel_rfl, .nil, ?_⟩
  refine crm hR644 (.slice A656 0 c656) [] [] [true] ?_
  refine ck 2 [(2, 0)] [] fun γ680 => ⟨⟨kt (bdy Try.f12) [1, 1] [], (aun_al16_l63 u2 u3 u4 u5 γ601 A619 c619 γ643 A656 c656), [(γ601 0, 24, (aun_al16_c64 A619 c619 A656 c656))]⟩, [(2, γ601 0)], [], by kernel_rfl, .nil, ?_⟩
  refine rt (.agg #[.slice A619 1 c619, .slice A656 0 c656]) [(2, 0)] [(2, γ601 0)] (fun W hW => ?_)
  exact ⟨⟨A619, c619, A656, c656⟩, rfl, Fresh.of (R := [rowA 46 3 (.slice A656 0 c656) ([] : List (Int × Int × Int)).length (([] : List (Int × Int × Int)).flatMap encT46), rowA 46 3 (.slice A619 1 c619) ([(1, 0, 0)] : List (Int × Int × Int)).length (([(1, 0, 0)] : List (Int × Int × Int)).flatMap encT46)]) (hW.perm (List.Perm.refl _)) (.cons_cons _ (.cons_cons _ (.cons_cons _ (.slnil))))⟩
end Go.Proofs.Ythcmcekjgecnhac.Sr
