/- The walk of the law OrderNobody. No condition beside those that each theorem names. -/
import Derived.Test.YtglkhjjhjhhonaaOrD
namespace Go.Proofs.Ytglkhjjhjhhonaa.Sr
open Go.RowKit Go.Proofs.YtglkhjjhjhhonaaM.Mach
set_option linter.unusedVariables false
set_option linter.unusedSimpArgs false
def nb_l0 (i0 : Int) (a0 : Int) : List Value := [.int .i64 i0, .int .i64 a0, zz, zz, .bool false, zz, zz, zz, zz, zz, zz, zz, zz, zz, zz, zz]
def nb_l1 : List Value := [zz, zz, zz, zz, zz, zz, zz, zz, zz, zz, zz, zz, zz, zz, zz, zz]
def nb_l2 : List Value := [zz]
def nb_b3 (i0 : Int) (a0 : Int) : List Value := (nb_l0 i0 a0) ++ (nb_l1 ++ (nb_l1 ++ (nb_l1 ++ (nb_l1 ++ (nb_l2)))))
def nb_c4 : List Value := [.bool false, .int .i64 0, .slice none 0 0]
def nb_l5 (γ4 : Nat → Nat) : List Value := [.pointer (some ⟨γ4 0, 0, none⟩), .agg #[.int .i64 1, .int .i64 0, .int .i64 0], .slice (some ⟨γ4 2, 0, none⟩) 1 1, .agg #[.slice none 0 0, .slice (some ⟨γ4 2, 0, none⟩) 1 1]]
def nb_c6 : List Value := [.int .i64 1, .int .i64 0, .int .i64 0]
def nb_c7 (γ4 : Nat → Nat) : List Value := [.slice none 0 0, .slice (some ⟨γ4 2, 0, none⟩) 1 1]
def nb_l8 (γ4 : Nat → Nat) (γ6 : Nat → Nat) : List Value := [.pointer none, .int .i64 0, .agg #[.slice none 0 0, .slice (some ⟨γ4 2, 0, none⟩) 1 1], zz, zz, .pointer (some ⟨γ6 0, 0, none⟩), .bool false, zz, zz, zz, zz, .pointer none, zz, zz, zz, zz]
def nb_l9 : List Value := [zz, zz, zz, zz, zz, zz, zz, zz]
def nb_b10 (γ4 : Nat → Nat) (γ6 : Nat → Nat) : List Value := (nb_l8 γ4 γ6) ++ (nb_l1 ++ (nb_l1 ++ (nb_l1 ++ (nb_l1 ++ (nb_l9)))))
def nb_l11 : List Value := [.pointer none, zz, .bool true, .pointer none, .bool true, .bool true, zz, zz, zz, zz, zz, .bool true]
def nb_l12 (γ4 : Nat → Nat) (γ6 : Nat → Nat) : List Value := [.pointer none, .int .i64 0, .agg #[.slice none 0 0, .slice (some ⟨γ4 2, 0, none⟩) 1 1], zz, zz, .pointer (some ⟨γ6 0, 0, none⟩), .bool false, zz, zz, zz, zz, .pointer none, .bool true, .bool true, zz, zz]
def nb_l13 : List Value := [zz, zz, zz, zz, zz, .bool true, zz, zz, zz, zz, zz, zz, zz, zz, zz, zz]
def nb_b14 (γ4 : Nat → Nat) (γ6 : Nat → Nat) : List Value := (nb_l12 γ4 γ6) ++ (nb_l13 ++ (nb_l1 ++ (nb_l1 ++ (nb_l1 ++ (nb_l9)))))
def nb_l15 (i0 : Int) (a0 : Int) (γ2 : Nat → Nat) (γ4 : Nat → Nat) : List Value := [.int .i64 i0, .int .i64 a0, zz, zz, .bool false, .pointer none, .pointer (some ⟨γ2 3, 0, none⟩), .bool true, .bool false, .agg #[.bool false, .int .i64 0, .slice none 0 0], .pointer (some ⟨γ2 3, 0, none⟩), .pointer none, .agg #[.slice none 0 0, .slice (some ⟨γ4 2, 0, none⟩) 1 1], .bool false, .bool true, .bool true]
def nb_l16 (γ2 : Nat → Nat) : List Value := [.pointer (some ⟨γ2 3, 0, none⟩), zz, zz, zz, zz, zz, zz, zz, zz, zz, zz, zz, zz, zz, zz, zz]
def nb_b17 (i0 : Int) (a0 : Int) (γ2 : Nat → Nat) (γ4 : Nat → Nat) : List Value := (nb_l15 i0 a0 γ2 γ4) ++ ((nb_l16 γ2) ++ (nb_l1 ++ (nb_l1 ++ (nb_l1 ++ (nb_l2)))))
def nb_l18 (γ12 : Nat → Nat) : List Value := [.pointer (some ⟨γ12 0, 0, none⟩), .agg #[.int .i64 1, .int .i64 0, .int .i64 0], .slice (some ⟨γ12 2, 0, none⟩) 1 1, .agg #[.slice none 0 0, .slice (some ⟨γ12 2, 0, none⟩) 1 1]]
def nb_c19 (γ12 : Nat → Nat) : List Value := [.slice none 0 0, .slice (some ⟨γ12 2, 0, none⟩) 1 1]
def nb_l20 (γ2 : Nat → Nat) (γ12 : Nat → Nat) (γ14 : Nat → Nat) : List Value := [.pointer (some ⟨γ2 3, 0, none⟩), .int .i64 0, .agg #[.slice none 0 0, .slice (some ⟨γ12 2, 0, none⟩) 1 1], zz, zz, .pointer (some ⟨γ14 0, 0, none⟩), .bool false, zz, zz, zz, zz, .pointer (some ⟨γ2 3, 0, none⟩), zz, zz, zz, zz]
def nb_b21 (γ2 : Nat → Nat) (γ12 : Nat → Nat) (γ14 : Nat → Nat) : List Value := (nb_l20 γ2 γ12 γ14) ++ (nb_l1 ++ (nb_l1 ++ (nb_l1 ++ (nb_l1 ++ (nb_l9)))))
def nb_l22 (γ2 : Nat → Nat) : List Value := [.pointer (some ⟨γ2 3, 0, none⟩), zz, .bool true, .pointer (some ⟨γ2 3, 0, none⟩), .bool false, .bool false, .pointer (some ⟨γ2 3, 0, none⟩), .pointer (some ⟨γ2 3, 0, none⟩), .pointer (some ⟨γ2 3, 0, none⟩), .bool false, .bool true, .bool true]
def nb_l23 (γ2 : Nat → Nat) (γ12 : Nat → Nat) (γ14 : Nat → Nat) : List Value := [.pointer (some ⟨γ2 3, 0, none⟩), .int .i64 0, .agg #[.slice none 0 0, .slice (some ⟨γ12 2, 0, none⟩) 1 1], zz, zz, .pointer (some ⟨γ14 0, 0, none⟩), .bool false, zz, zz, zz, zz, .pointer (some ⟨γ2 3, 0, none⟩), .bool true, .bool true, zz, zz]
def nb_b24 (γ2 : Nat → Nat) (γ12 : Nat → Nat) (γ14 : Nat → Nat) : List Value := (nb_l23 γ2 γ12 γ14) ++ (nb_l13 ++ (nb_l1 ++ (nb_l1 ++ (nb_l1 ++ (nb_l9)))))
def nb_l25 (γ2 : Nat → Nat) (γ12 : Nat → Nat) : List Value := [.pointer (some ⟨γ2 3, 0, none⟩), .agg #[.slice none 0 0, .slice (some ⟨γ12 2, 0, none⟩) 1 1], .bool false, .bool true, .bool true, .bool true, .pointer none, zz, zz, zz, zz, zz, zz, zz, zz, zz]
def nb_b26 (i0 : Int) (a0 : Int) (γ2 : Nat → Nat) (γ4 : Nat → Nat) (γ12 : Nat → Nat) : List Value := (nb_l15 i0 a0 γ2 γ4) ++ ((nb_l25 γ2 γ12) ++ (nb_l1 ++ (nb_l1 ++ (nb_l1 ++ (nb_l2)))))
def nb_l27 : List Value := [.pointer none, zz, .bool false, .pointer none, zz, zz, zz, zz, zz, zz, zz, zz, zz, zz, zz, zz]
def nb_l28 : List Value := [zz, zz, zz, zz, zz, zz, zz, zz, zz, zz, zz]
def nb_b29 : List Value := nb_l27 ++ (nb_l28)
def nb_l30 : List Value := [.pointer none, zz, .bool false, .pointer none, .bool true, .bool true, zz, zz, zz, zz, zz, zz, .bool true, zz, zz, zz]
def nb_b31 : List Value := nb_l30 ++ (nb_l28)
def nb_l32 (γ2 : Nat → Nat) (γ12 : Nat → Nat) : List Value := [.pointer (some ⟨γ2 3, 0, none⟩), .agg #[.slice none 0 0, .slice (some ⟨γ12 2, 0, none⟩) 1 1], .bool false, .bool true, .bool true, .bool true, .pointer none, .bool false, .bool true, .bool true, .bool true, .pointer (some ⟨γ2 3, 0, none⟩), zz, zz, zz, zz]
def nb_b33 (i0 : Int) (a0 : Int) (γ2 : Nat → Nat) (γ4 : Nat → Nat) (γ12 : Nat → Nat) : List Value := (nb_l15 i0 a0 γ2 γ4) ++ ((nb_l32 γ2 γ12) ++ (nb_l1 ++ (nb_l1 ++ (nb_l1 ++ (nb_l2)))))
def nb_l34 (γ2 : Nat → Nat) : List Value := [.pointer (some ⟨γ2 3, 0, none⟩), zz, .bool false, .pointer (some ⟨γ2 3, 0, none⟩), zz, zz, zz, zz, zz, zz, zz, zz, zz, zz, zz, zz]
def nb_b35 (γ2 : Nat → Nat) : List Value := (nb_l34 γ2) ++ (nb_l28)
def nb_l36 (γ2 : Nat → Nat) : List Value := [.pointer (some ⟨γ2 3, 0, none⟩), zz, .bool false, .pointer (some ⟨γ2 3, 0, none⟩), .bool true, .bool true, zz, zz, zz, zz, zz, zz, .bool true, zz, zz, zz]
def nb_b37 (γ2 : Nat → Nat) : List Value := (nb_l36 γ2) ++ (nb_l28)
def nb_l38 (γ2 : Nat → Nat) (γ12 : Nat → Nat) : List Value := [.pointer (some ⟨γ2 3, 0, none⟩), .agg #[.slice none 0 0, .slice (some ⟨γ12 2, 0, none⟩) 1 1], .bool false, .bool true, .bool true, .bool true, .pointer none, .bool false, .bool true, .bool true, .bool true, .pointer (some ⟨γ2 3, 0, none⟩), .bool false, .bool true, .bool true, .bool true]
def nb_l39 : List Value := [.pointer none, zz, zz, zz, zz, zz, zz, zz, zz, zz, zz, zz, zz, zz, zz, zz]
def nb_b40 (i0 : Int) (a0 : Int) (γ2 : Nat → Nat) (γ4 : Nat → Nat) (γ12 : Nat → Nat) : List Value := (nb_l15 i0 a0 γ2 γ4) ++ ((nb_l38 γ2 γ12) ++ (nb_l39 ++ (nb_l1 ++ (nb_l1 ++ (nb_l2)))))
def nb_l41 : List Value := [.pointer none, zz, .int .i64 0, .pointer none, zz, zz, zz, zz, zz, zz]
def nb_l42 : List Value := [.pointer none, zz, .int .i64 0, .pointer none, .bool true, zz, zz, zz, zz, zz]
def nb_l43 (γ2 : Nat → Nat) : List Value := [.pointer none, .int .i64 0, .pointer (some ⟨γ2 3, 0, none⟩), zz, zz, zz, zz, zz, zz, zz, zz, zz, zz, zz, zz, zz]
def nb_b44 (i0 : Int) (a0 : Int) (γ2 : Nat → Nat) (γ4 : Nat → Nat) (γ12 : Nat → Nat) : List Value := (nb_l15 i0 a0 γ2 γ4) ++ ((nb_l38 γ2 γ12) ++ ((nb_l43 γ2) ++ (nb_l1 ++ (nb_l1 ++ (nb_l2)))))
def nb_l45 (γ2 : Nat → Nat) : List Value := [.pointer (some ⟨γ2 3, 0, none⟩), zz, .int .i64 0, .pointer (some ⟨γ2 3, 0, none⟩), zz, zz, zz, zz, zz, zz]
def nb_l46 (γ2 : Nat → Nat) : List Value := [.pointer (some ⟨γ2 3, 0, none⟩), zz, .int .i64 0, .pointer (some ⟨γ2 3, 0, none⟩), .bool true, zz, zz, zz, zz, zz]
def nb_l47 (i0 : Int) (a0 : Int) (γ2 : Nat → Nat) : List Value := [.pointer none, .int .i64 0, .pointer (some ⟨γ2 3, 0, none⟩), .int .i64 0, .int .i64 0, .bool true, .bool true, .bool true, .pointer none, .int .i64 i0, .int .i64 a0, zz, zz, zz, zz, zz]
def nb_b48 (i0 : Int) (a0 : Int) (γ2 : Nat → Nat) (γ4 : Nat → Nat) (γ12 : Nat → Nat) : List Value := (nb_l15 i0 a0 γ2 γ4) ++ ((nb_l38 γ2 γ12) ++ ((nb_l47 i0 a0 γ2) ++ (nb_l1 ++ (nb_l1 ++ (nb_l2)))))
def nb_l49 (i0 : Int) (a0 : Int) : List Value := [.pointer none, .int .i64 i0, .int .i64 a0, zz, zz, zz, .bool false, zz, .pointer none, zz, zz, zz, zz, zz, zz, zz]
def nb_l50 : List Value := [zz, zz, zz, zz, zz]
def nb_b51 (i0 : Int) (a0 : Int) : List Value := (nb_l49 i0 a0) ++ (nb_l1 ++ (nb_l50))
def nb_l52 (i0 : Int) (a0 : Int) : List Value := [.pointer none, .int .i64 i0, .int .i64 a0, zz, zz, zz, .bool false, zz, .pointer none, .bool true, .bool true, zz, zz, zz, zz, zz]
def nb_l53 : List Value := [zz, zz, zz, zz, .bool true, zz, zz, zz, zz, zz, zz, zz, zz, zz, zz, zz]
def nb_b54 (i0 : Int) (a0 : Int) : List Value := (nb_l52 i0 a0) ++ (nb_l53 ++ (nb_l50))
def nb_l55 (i0 : Int) (a0 : Int) (γ2 : Nat → Nat) : List Value := [.pointer none, .int .i64 0, .pointer (some ⟨γ2 3, 0, none⟩), .int .i64 0, .int .i64 0, .bool true, .bool true, .bool true, .pointer none, .int .i64 i0, .int .i64 a0, .bool false, .bool true, .bool true, .bool true, .pointer (some ⟨γ2 3, 0, none⟩)]
def nb_l56 (i0 : Int) (a0 : Int) : List Value := [.int .i64 i0, .int .i64 a0, zz, zz, zz, zz, zz, zz, zz, zz, zz, zz, zz, zz, zz, zz]
def nb_b57 (i0 : Int) (a0 : Int) (γ2 : Nat → Nat) (γ4 : Nat → Nat) (γ12 : Nat → Nat) : List Value := (nb_l15 i0 a0 γ2 γ4) ++ ((nb_l38 γ2 γ12) ++ ((nb_l55 i0 a0 γ2) ++ ((nb_l56 i0 a0) ++ (nb_l1 ++ (nb_l2)))))
def nb_l58 (i0 : Int) (a0 : Int) (γ2 : Nat → Nat) : List Value := [.pointer (some ⟨γ2 3, 0, none⟩), .int .i64 i0, .int .i64 a0, zz, zz, zz, .bool false, zz, .pointer (some ⟨γ2 3, 0, none⟩), zz, zz, zz, zz, zz, zz, zz]
def nb_b59 (i0 : Int) (a0 : Int) (γ2 : Nat → Nat) : List Value := (nb_l58 i0 a0 γ2) ++ (nb_l1 ++ (nb_l50))
def nb_l60 (i0 : Int) (a0 : Int) (γ2 : Nat → Nat) : List Value := [.pointer (some ⟨γ2 3, 0, none⟩), .int .i64 i0, .int .i64 a0, zz, zz, zz, .bool false, zz, .pointer (some ⟨γ2 3, 0, none⟩), .bool true, .bool true, zz, zz, zz, zz, zz]
def nb_b61 (i0 : Int) (a0 : Int) (γ2 : Nat → Nat) : List Value := (nb_l60 i0 a0 γ2) ++ (nb_l53 ++ (nb_l50))
def nb_l62 (i0 : Int) (a0 : Int) : List Value := [.int .i64 i0, .int .i64 a0, .bool false, .bool true, .bool true, .bool true, .pointer none, .int .i64 a0, zz, zz, zz, zz, zz, zz, zz, zz]
def nb_b63 (i0 : Int) (a0 : Int) (γ2 : Nat → Nat) (γ4 : Nat → Nat) (γ12 : Nat → Nat) : List Value := (nb_l15 i0 a0 γ2 γ4) ++ ((nb_l38 γ2 γ12) ++ ((nb_l55 i0 a0 γ2) ++ ((nb_l62 i0 a0) ++ (nb_l1 ++ (nb_l2)))))
def nb_l64 (γ56 : Nat → Nat) : List Value := [.pointer (some ⟨γ56 0, 0, none⟩), .agg #[.int .i64 1, .int .i64 0, .int .i64 0], .slice (some ⟨γ56 2, 0, none⟩) 1 1, .agg #[.slice none 0 0, .slice (some ⟨γ56 2, 0, none⟩) 1 1]]
def nb_c65 (γ56 : Nat → Nat) : List Value := [.slice none 0 0, .slice (some ⟨γ56 2, 0, none⟩) 1 1]
def nb_l66 (a0 : Int) (γ56 : Nat → Nat) (γ58 : Nat → Nat) : List Value := [.pointer none, .int .i64 a0, .agg #[.slice none 0 0, .slice (some ⟨γ56 2, 0, none⟩) 1 1], zz, zz, .pointer (some ⟨γ58 0, 0, none⟩), .slice none 0 0, zz, zz, zz, zz, .pointer none, zz, zz, zz, zz]
def nb_l67 : List Value := [zz, zz, zz, zz, zz, zz, zz, zz, zz, zz]
def nb_b68 (a0 : Int) (γ56 : Nat → Nat) (γ58 : Nat → Nat) : List Value := (nb_l66 a0 γ56 γ58) ++ (nb_l1 ++ (nb_l1 ++ (nb_l67)))
def nb_l69 (a0 : Int) (γ56 : Nat → Nat) (γ58 : Nat → Nat) : List Value := [.pointer none, .int .i64 a0, .agg #[.slice none 0 0, .slice (some ⟨γ56 2, 0, none⟩) 1 1], zz, zz, .pointer (some ⟨γ58 0, 0, none⟩), .slice none 0 0, zz, zz, zz, zz, .pointer none, .bool true, zz, zz, zz]
def nb_b70 (a0 : Int) (γ56 : Nat → Nat) (γ58 : Nat → Nat) : List Value := (nb_l69 a0 γ56 γ58) ++ (nb_l1 ++ (nb_l1 ++ (nb_l67)))
def nb_l71 (i0 : Int) (a0 : Int) (γ2 : Nat → Nat) (γ56 : Nat → Nat) : List Value := [.int .i64 i0, .int .i64 a0, .bool false, .bool true, .bool true, .bool true, .pointer none, .int .i64 a0, .agg #[.slice none 0 0, .slice (some ⟨γ56 2, 0, none⟩) 1 1], .slice none 0 0, .int .i64 0, .pointer (some ⟨γ2 3, 0, none⟩), .int .i64 a0, zz, zz, zz]
def nb_b72 (i0 : Int) (a0 : Int) (γ2 : Nat → Nat) (γ4 : Nat → Nat) (γ12 : Nat → Nat) (γ56 : Nat → Nat) : List Value := (nb_l15 i0 a0 γ2 γ4) ++ ((nb_l38 γ2 γ12) ++ ((nb_l55 i0 a0 γ2) ++ ((nb_l71 i0 a0 γ2 γ56) ++ (nb_l1 ++ (nb_l2)))))
def nb_l73 (γ64 : Nat → Nat) : List Value := [.pointer (some ⟨γ64 0, 0, none⟩), .agg #[.int .i64 1, .int .i64 0, .int .i64 0], .slice (some ⟨γ64 2, 0, none⟩) 1 1, .agg #[.slice none 0 0, .slice (some ⟨γ64 2, 0, none⟩) 1 1]]
def nb_c74 (γ64 : Nat → Nat) : List Value := [.slice none 0 0, .slice (some ⟨γ64 2, 0, none⟩) 1 1]
def nb_l75 (a0 : Int) (γ2 : Nat → Nat) (γ64 : Nat → Nat) (γ66 : Nat → Nat) : List Value := [.pointer (some ⟨γ2 3, 0, none⟩), .int .i64 a0, .agg #[.slice none 0 0, .slice (some ⟨γ64 2, 0, none⟩) 1 1], zz, zz, .pointer (some ⟨γ66 0, 0, none⟩), .slice none 0 0, zz, zz, zz, zz, .pointer (some ⟨γ2 3, 0, none⟩), zz, zz, zz, zz]
def nb_b76 (a0 : Int) (γ2 : Nat → Nat) (γ64 : Nat → Nat) (γ66 : Nat → Nat) : List Value := (nb_l75 a0 γ2 γ64 γ66) ++ (nb_l1 ++ (nb_l1 ++ (nb_l67)))
def nb_l77 (a0 : Int) (γ2 : Nat → Nat) (γ64 : Nat → Nat) (γ66 : Nat → Nat) : List Value := [.pointer (some ⟨γ2 3, 0, none⟩), .int .i64 a0, .agg #[.slice none 0 0, .slice (some ⟨γ64 2, 0, none⟩) 1 1], zz, zz, .pointer (some ⟨γ66 0, 0, none⟩), .slice none 0 0, zz, zz, zz, zz, .pointer (some ⟨γ2 3, 0, none⟩), .bool true, zz, zz, zz]
def nb_b78 (a0 : Int) (γ2 : Nat → Nat) (γ64 : Nat → Nat) (γ66 : Nat → Nat) : List Value := (nb_l77 a0 γ2 γ64 γ66) ++ (nb_l1 ++ (nb_l1 ++ (nb_l67)))
def nb_l79 (i0 : Int) (a0 : Int) (γ2 : Nat → Nat) (γ56 : Nat → Nat) (γ64 : Nat → Nat) : List Value := [.int .i64 i0, .int .i64 a0, .bool false, .bool true, .bool true, .bool true, .pointer none, .int .i64 a0, .agg #[.slice none 0 0, .slice (some ⟨γ56 2, 0, none⟩) 1 1], .slice none 0 0, .int .i64 0, .pointer (some ⟨γ2 3, 0, none⟩), .int .i64 a0, .agg #[.slice none 0 0, .slice (some ⟨γ64 2, 0, none⟩) 1 1], .slice none 0 0, .int .i64 0]
def nb_l80 (i0 : Int) (a0 : Int) : List Value := [.int .i64 0, .pointer none, .int .i64 i0, .int .i64 a0, zz, zz, zz, zz, zz, zz, zz, zz, zz, zz, zz, zz]
def nb_b81 (i0 : Int) (a0 : Int) (γ2 : Nat → Nat) (γ4 : Nat → Nat) (γ12 : Nat → Nat) (γ56 : Nat → Nat) (γ64 : Nat → Nat) : List Value := (nb_l15 i0 a0 γ2 γ4) ++ ((nb_l38 γ2 γ12) ++ ((nb_l55 i0 a0 γ2) ++ ((nb_l79 i0 a0 γ2 γ56 γ64) ++ ((nb_l80 i0 a0) ++ (nb_l2)))))
def nb_l82 (γ72 : Nat → Nat) : List Value := [.pointer (some ⟨γ72 0, 0, none⟩), .agg #[.int .i64 1, .int .i64 0, .int .i64 0], .slice (some ⟨γ72 2, 0, none⟩) 1 1, .agg #[.slice none 0 0, .slice (some ⟨γ72 2, 0, none⟩) 1 1]]
def nb_c83 (γ72 : Nat → Nat) : List Value := [.slice none 0 0, .slice (some ⟨γ72 2, 0, none⟩) 1 1]
def nb_l84 (i0 : Int) (a0 : Int) (γ72 : Nat → Nat) (γ74 : Nat → Nat) : List Value := [.pointer none, .int .i64 i0, .int .i64 a0, .agg #[.slice none 0 0, .slice (some ⟨γ72 2, 0, none⟩) 1 1], .pointer (some ⟨γ74 0, 0, none⟩), zz, zz, .pointer (some ⟨γ74 1, 0, none⟩), .slice none 0 0, zz, zz, zz, zz, zz, zz, .pointer none]
def nb_l85 : List Value := [zz, zz, zz, zz, zz, zz, zz, zz, zz, zz, zz, zz, zz, zz]
def nb_b86 (i0 : Int) (a0 : Int) (γ72 : Nat → Nat) (γ74 : Nat → Nat) : List Value := (nb_l84 i0 a0 γ72 γ74) ++ (nb_l1 ++ (nb_l1 ++ (nb_l1 ++ (nb_l85))))
def nb_l87 : List Value := [.bool true, .bool true, zz, zz, zz, zz, zz, zz, zz, zz, zz, .bool true, .bool true, zz, zz, zz]
def nb_b88 (i0 : Int) (a0 : Int) (γ72 : Nat → Nat) (γ74 : Nat → Nat) : List Value := (nb_l84 i0 a0 γ72 γ74) ++ (nb_l87 ++ (nb_l53 ++ (nb_l1 ++ (nb_l85))))
def nb_l89 (i0 : Int) (a0 : Int) (γ2 : Nat → Nat) (γ72 : Nat → Nat) : List Value := [.int .i64 0, .pointer none, .int .i64 i0, .int .i64 a0, .agg #[.slice none 0 0, .slice (some ⟨γ72 2, 0, none⟩) 1 1], .slice none 0 0, .int .i64 0, .int .i64 0, .pointer (some ⟨γ2 3, 0, none⟩), .int .i64 i0, .int .i64 a0, zz, zz, zz, zz, zz]
def nb_b90 (i0 : Int) (a0 : Int) (γ2 : Nat → Nat) (γ4 : Nat → Nat) (γ12 : Nat → Nat) (γ56 : Nat → Nat) (γ64 : Nat → Nat) (γ72 : Nat → Nat) : List Value := (nb_l15 i0 a0 γ2 γ4) ++ ((nb_l38 γ2 γ12) ++ ((nb_l55 i0 a0 γ2) ++ ((nb_l79 i0 a0 γ2 γ56 γ64) ++ ((nb_l89 i0 a0 γ2 γ72) ++ (nb_l2)))))
def nb_l91 (γ80 : Nat → Nat) : List Value := [.pointer (some ⟨γ80 0, 0, none⟩), .agg #[.int .i64 1, .int .i64 0, .int .i64 0], .slice (some ⟨γ80 2, 0, none⟩) 1 1, .agg #[.slice none 0 0, .slice (some ⟨γ80 2, 0, none⟩) 1 1]]
def nb_c92 (γ80 : Nat → Nat) : List Value := [.slice none 0 0, .slice (some ⟨γ80 2, 0, none⟩) 1 1]
def nb_l93 (i0 : Int) (a0 : Int) (γ2 : Nat → Nat) (γ80 : Nat → Nat) (γ82 : Nat → Nat) : List Value := [.pointer (some ⟨γ2 3, 0, none⟩), .int .i64 i0, .int .i64 a0, .agg #[.slice none 0 0, .slice (some ⟨γ80 2, 0, none⟩) 1 1], .pointer (some ⟨γ82 0, 0, none⟩), zz, zz, .pointer (some ⟨γ82 1, 0, none⟩), .slice none 0 0, zz, zz, zz, zz, zz, zz, .pointer (some ⟨γ2 3, 0, none⟩)]
def nb_b94 (i0 : Int) (a0 : Int) (γ2 : Nat → Nat) (γ80 : Nat → Nat) (γ82 : Nat → Nat) : List Value := (nb_l93 i0 a0 γ2 γ80 γ82) ++ (nb_l1 ++ (nb_l1 ++ (nb_l1 ++ (nb_l85))))
def nb_c95 (γ2 : Nat → Nat) : List Value := [.pointer (some ⟨γ2 3, 0, none⟩)]
def nb_b96 (i0 : Int) (a0 : Int) (γ2 : Nat → Nat) (γ80 : Nat → Nat) (γ82 : Nat → Nat) : List Value := (nb_l93 i0 a0 γ2 γ80 γ82) ++ (nb_l87 ++ (nb_l53 ++ (nb_l1 ++ (nb_l85))))
def nb_l97 (i0 : Int) (a0 : Int) (γ2 : Nat → Nat) (γ4 : Nat → Nat) : List Value := [.int .i64 i0, .int .i64 a0, zz, zz, .bool true, .pointer none, .pointer (some ⟨γ2 3, 0, none⟩), .bool true, .bool false, .agg #[.bool false, .int .i64 0, .slice none 0 0], .pointer (some ⟨γ2 3, 0, none⟩), .pointer none, .agg #[.slice none 0 0, .slice (some ⟨γ4 2, 0, none⟩) 1 1], .bool false, .bool true, .bool true]
def nb_l98 (i0 : Int) (a0 : Int) (γ2 : Nat → Nat) (γ72 : Nat → Nat) (γ80 : Nat → Nat) : List Value := [.int .i64 0, .pointer none, .int .i64 i0, .int .i64 a0, .agg #[.slice none 0 0, .slice (some ⟨γ72 2, 0, none⟩) 1 1], .slice none 0 0, .int .i64 0, .int .i64 0, .pointer (some ⟨γ2 3, 0, none⟩), .int .i64 i0, .int .i64 a0, .agg #[.slice none 0 0, .slice (some ⟨γ80 2, 0, none⟩) 1 1], .slice none 0 0, .int .i64 0, .int .i64 0, .bool true]
def nb_l99 : List Value := [.bool true]
def nb_b100 (i0 : Int) (a0 : Int) (γ2 : Nat → Nat) (γ4 : Nat → Nat) (γ12 : Nat → Nat) (γ56 : Nat → Nat) (γ64 : Nat → Nat) (γ72 : Nat → Nat) (γ80 : Nat → Nat) : List Value := (nb_l97 i0 a0 γ2 γ4) ++ ((nb_l38 γ2 γ12) ++ ((nb_l55 i0 a0 γ2) ++ ((nb_l79 i0 a0 γ2 γ56 γ64) ++ ((nb_l98 i0 a0 γ2 γ72 γ80) ++ (nb_l99)))))
set_option maxHeartbeats 8000000 in
set_option maxRecDepth 100000 in
theorem law_nob {i0 a0 : Int} (w : World) : Calls Try.prog 6 #[.int .i64 i0, .int .i64 a0] w fun e w' => e = .returned (.bool true) ∧ Below w.heap.size w w' := by
  refine enter (args := [.int .i64 i0, .int .i64 a0]) (fn := Try.f6) rfl (c := bdy Try.f6) (by kernel_rfl) ?_
  refine ck 1 [] [] fun γ1 => ⟨⟨kt (bdy Try.f6) [1, 0, 0, 0] [], (nb_b3 i0 a0), []⟩, [], [], by kernel_rfl, .nil, ?_⟩
  refine cp (fun W hW => alive_is W) ?_
  refine ck 6 [] [] fun γ2 => ⟨⟨kt (bdy Try.f6) [1, 1, 1, 1, 0, 1] [], upv (nb_b3 i0 a0) [(5, .pointer none), (6, .pointer (some ⟨γ2 3, 0, none⟩)), (7, .bool true), (8, .bool false), (9, .agg #[.bool false, .int .i64 0, .slice none 0 0]), (10, .pointer (some ⟨γ2 3, 0, none⟩)), (11, .pointer none)], [(γ2 3, 49, nb_c4)]⟩, [], [], by kernel_rfl, .nil, ?_⟩
  refine ci (f := 23) (args := []) (fn := Try.f23) (c := bdy Try.f23) rfl (fun R3 hR3 => ?_)
  refine ck 5 [(2, 1)] [] fun γ4 => ⟨⟨kt (bdy Try.f23) [1, 1] [], (nb_l5 γ4), [(γ4 2, 67, nb_c6), (γ4 0, 30, (nb_c7 γ4)), (γ2 3, 49, nb_c4)]⟩, [(2, γ4 0)], [], by kernel_rfl, .nil, ?_⟩
  refine crm hR3 (.agg #[.slice none 0 0, .slice (some ⟨γ4 2, 0, none⟩) 1 1]) [(2, 1)] [(2, γ4 0)] [true, false, true] ?_
  refine ci (f := 10) (args := [.pointer none, .int .i64 0, .agg #[.slice none 0 0, .slice (some ⟨γ4 2, 0, none⟩) 1 1]]) (fn := Try.f10) (c := bdy Try.f10) rfl (fun R5 hR5 => ?_)
  refine ck 3 [] [] fun γ6 => ⟨⟨kt (bdy Try.f10) [1, 0, 0, 1] [], (nb_b10 γ4 γ6), [(γ6 0, 30, (nb_c7 γ4)), (γ4 2, 67, nb_c6), (γ2 3, 49, nb_c4)]⟩, [], [], by kernel_rfl, .nil, ?_⟩
  refine ci (f := 27) (args := [.pointer none]) (fn := Try.f27) (c := bdy Try.f27) rfl (fun R7 hR7 => ?_)
  refine ck 11 [] [] fun γ8 => ⟨⟨kt (bdy Try.f27) [1, 1] [], nb_l11, [(γ6 0, 30, (nb_c7 γ4)), (γ4 2, 67, nb_c6), (γ2 3, 49, nb_c4)]⟩, [], [], by kernel_rfl, .nil, ?_⟩
  refine crm hR7 (.bool true) [] [] [true, true, true] ?_
  refine ck 10 [] [] fun γ9 => ⟨⟨kt (bdy Try.f10) [1, 0, 1, 0, 1] [], (nb_b14 γ4 γ6), [(γ6 0, 30, (nb_c7 γ4)), (γ4 2, 67, nb_c6), (γ2 3, 49, nb_c4)]⟩, [], [], by kernel_rfl, .nil, ?_⟩
  refine crm hR5 (.bool false) [] [] [false, true, true] ?_
  refine ck 3 [] [] fun γ10 => ⟨⟨kt (bdy Try.f6) [1, 1, 1, 1, 0, 6] [], (nb_b17 i0 a0 γ2 γ4), [(γ4 2, 67, nb_c6), (γ2 3, 49, nb_c4)]⟩, [], [], by kernel_rfl, .nil, ?_⟩
  refine ci (f := 23) (args := []) (fn := Try.f23) (c := bdy Try.f23) rfl (fun R11 hR11 => ?_)
  refine ck 5 [(2, 1)] [] fun γ12 => ⟨⟨kt (bdy Try.f23) [1, 1] [], (nb_l18 γ12), [(γ12 2, 67, nb_c6), (γ12 0, 30, (nb_c19 γ12)), (γ4 2, 67, nb_c6), (γ2 3, 49, nb_c4)]⟩, [(2, γ12 0)], [], by kernel_rfl, .nil, ?_⟩
  refine crm hR11 (.agg #[.slice none 0 0, .slice (some ⟨γ12 2, 0, none⟩) 1 1]) [(2, 1)] [(2, γ12 0)] [true, false, true, true] ?_
  refine ci (f := 10) (args := [.pointer (some ⟨γ2 3, 0, none⟩), .int .i64 0, .agg #[.slice none 0 0, .slice (some ⟨γ12 2, 0, none⟩) 1 1]]) (fn := Try.f10) (c := bdy Try.f10) rfl (fun R13 hR13 => ?_)
  refine ck 3 [] [] fun γ14 => ⟨⟨kt (bdy Try.f10) [1, 0, 0, 1] [], (nb_b21 γ2 γ12 γ14), [(γ14 0, 30, (nb_c19 γ12)), (γ12 2, 67, nb_c6), (γ4 2, 67, nb_c6), (γ2 3, 49, nb_c4)]⟩, [], [], by kernel_rfl, .nil, ?_⟩
  refine ci (f := 27) (args := [.pointer (some ⟨γ2 3, 0, none⟩)]) (fn := Try.f27) (c := bdy Try.f27) rfl (fun R15 hR15 => ?_)
  refine ck 11 [(1, 3)] [] fun γ16 => ⟨⟨kt (bdy Try.f27) [1, 1] [], (nb_l22 γ2), [(γ14 0, 30, (nb_c19 γ12)), (γ12 2, 67, nb_c6), (γ4 2, 67, nb_c6), (γ2 3, 49, nb_c4)]⟩, [(1, γ2 3)], [], by kernel_rfl, .nil, ?_⟩
  refine crm hR15 (.bool true) [] [] [true, true, true, true] ?_
  refine ck 10 [] [] fun γ17 => ⟨⟨kt (bdy Try.f10) [1, 0, 1, 0, 1] [], (nb_b24 γ2 γ12 γ14), [(γ14 0, 30, (nb_c19 γ12)), (γ12 2, 67, nb_c6), (γ4 2, 67, nb_c6), (γ2 3, 49, nb_c4)]⟩, [], [], by kernel_rfl, .nil, ?_⟩
  refine crm hR13 (.bool false) [] [] [false, true, true, true] ?_
  refine ck 4 [] [] fun γ18 => ⟨⟨kt (bdy Try.f6) [1, 1, 1, 1, 0, 12] [], (nb_b26 i0 a0 γ2 γ4 γ12), [(γ12 2, 67, nb_c6), (γ4 2, 67, nb_c6), (γ2 3, 49, nb_c4)]⟩, [], [], by kernel_rfl, .nil, ?_⟩
  refine ci (f := 19) (args := [.pointer none]) (fn := Try.f19) (c := bdy Try.f19) rfl (fun R19 hR19 => ?_)
  refine ck 2 [] [] fun γ20 => ⟨⟨kt (bdy Try.f19) [1, 0, 0, 1] [], nb_b29, [(γ12 2, 67, nb_c6), (γ4 2, 67, nb_c6), (γ2 3, 49, nb_c4)]⟩, [], [], by kernel_rfl, .nil, ?_⟩
  refine ci (f := 27) (args := [.pointer none]) (fn := Try.f27) (c := bdy Try.f27) rfl (fun R21 hR21 => ?_)
  refine ck 11 [] [] fun γ22 => ⟨⟨kt (bdy Try.f27) [1, 1] [], nb_l11, [(γ12 2, 67, nb_c6), (γ4 2, 67, nb_c6), (γ2 3, 49, nb_c4)]⟩, [], [], by kernel_rfl, .nil, ?_⟩
  refine crm hR21 (.bool true) [] [] [true, true, true] ?_
  refine ck 9 [] [] fun γ23 => ⟨⟨kt (bdy Try.f19) [1, 0, 1, 0, 1] [], nb_b31, [(γ12 2, 67, nb_c6), (γ4 2, 67, nb_c6), (γ2 3, 49, nb_c4)]⟩, [], [], by kernel_rfl, .nil, ?_⟩
  refine crm hR19 (.bool false) [] [] [true, true, true] ?_
  refine ck 4 [] [] fun γ24 => ⟨⟨kt (bdy Try.f6) [1, 1, 1, 1, 0, 17] [], (nb_b33 i0 a0 γ2 γ4 γ12), [(γ12 2, 67, nb_c6), (γ4 2, 67, nb_c6), (γ2 3, 49, nb_c4)]⟩, [], [], by kernel_rfl, .nil, ?_⟩
  refine ci (f := 19) (args := [.pointer (some ⟨γ2 3, 0, none⟩)]) (fn := Try.f19) (c := bdy Try.f19) rfl (fun R25 hR25 => ?_)
  refine ck 2 [] [] fun γ26 => ⟨⟨kt (bdy Try.f19) [1, 0, 0, 1] [], (nb_b35 γ2), [(γ12 2, 67, nb_c6), (γ4 2, 67, nb_c6), (γ2 3, 49, nb_c4)]⟩, [], [], by kernel_rfl, .nil, ?_⟩
  refine ci (f := 27) (args := [.pointer (some ⟨γ2 3, 0, none⟩)]) (fn := Try.f27) (c := bdy Try.f27) rfl (fun R27 hR27 => ?_)
  refine ck 11 [(1, 2)] [] fun γ28 => ⟨⟨kt (bdy Try.f27) [1, 1] [], (nb_l22 γ2), [(γ12 2, 67, nb_c6), (γ4 2, 67, nb_c6), (γ2 3, 49, nb_c4)]⟩, [(1, γ2 3)], [], by kernel_rfl, .nil, ?_⟩
  refine crm hR27 (.bool true) [] [] [true, true, true] ?_
  refine ck 9 [] [] fun γ29 => ⟨⟨kt (bdy Try.f19) [1, 0, 1, 0, 1] [], (nb_b37 γ2), [(γ12 2, 67, nb_c6), (γ4 2, 67, nb_c6), (γ2 3, 49, nb_c4)]⟩, [], [], by kernel_rfl, .nil, ?_⟩
  refine crm hR25 (.bool false) [] [] [true, true, true] ?_
  refine ck 4 [] [] fun γ30 => ⟨⟨kt (bdy Try.f6) [1, 1, 1, 1, 0, 22] [], (nb_b40 i0 a0 γ2 γ4 γ12), [(γ12 2, 67, nb_c6), (γ4 2, 67, nb_c6), (γ2 3, 49, nb_c4)]⟩, [], [], by kernel_rfl, .nil, ?_⟩
  refine ci (f := 11) (args := [.pointer none]) (fn := Try.f11) (c := bdy Try.f11) rfl (fun R31 hR31 => ?_)
  refine ck 2 [] [] fun γ32 => ⟨⟨kt (bdy Try.f11) [1, 0, 0, 1] [], nb_l41, [(γ12 2, 67, nb_c6), (γ4 2, 67, nb_c6), (γ2 3, 49, nb_c4)]⟩, [], [], by kernel_rfl, .nil, ?_⟩
  refine ci (f := 27) (args := [.pointer none]) (fn := Try.f27) (c := bdy Try.f27) rfl (fun R33 hR33 => ?_)
  refine ck 11 [] [] fun γ34 => ⟨⟨kt (bdy Try.f27) [1, 1] [], nb_l11, [(γ12 2, 67, nb_c6), (γ4 2, 67, nb_c6), (γ2 3, 49, nb_c4)]⟩, [], [], by kernel_rfl, .nil, ?_⟩
  refine crm hR33 (.bool true) [] [] [true, true, true] ?_
  refine ck 1 [] [] fun γ35 => ⟨⟨kt (bdy Try.f11) [1, 0, 1, 0, 1] [], nb_l42, [(γ12 2, 67, nb_c6), (γ4 2, 67, nb_c6), (γ2 3, 49, nb_c4)]⟩, [], [], by kernel_rfl, .nil, ?_⟩
  refine crm hR31 (.int .i64 0) [] [] [true, true, true] ?_
  refine ck 1 [] [] fun γ36 => ⟨⟨kt (bdy Try.f6) [1, 1, 1, 1, 0, 24] [], (nb_b44 i0 a0 γ2 γ4 γ12), [(γ12 2, 67, nb_c6), (γ4 2, 67, nb_c6), (γ2 3, 49, nb_c4)]⟩, [], [], by kernel_rfl, .nil, ?_⟩
  refine ci (f := 11) (args := [.pointer (some ⟨γ2 3, 0, none⟩)]) (fn := Try.f11) (c := bdy Try.f11) rfl (fun R37 hR37 => ?_)
  refine ck 2 [] [] fun γ38 => ⟨⟨kt (bdy Try.f11) [1, 0, 0, 1] [], (nb_l45 γ2), [(γ12 2, 67, nb_c6), (γ4 2, 67, nb_c6), (γ2 3, 49, nb_c4)]⟩, [], [], by kernel_rfl, .nil, ?_⟩
  refine ci (f := 27) (args := [.pointer (some ⟨γ2 3, 0, none⟩)]) (fn := Try.f27) (c := bdy Try.f27) rfl (fun R39 hR39 => ?_)
  refine ck 11 [(1, 2)] [] fun γ40 => ⟨⟨kt (bdy Try.f27) [1, 1] [], (nb_l22 γ2), [(γ12 2, 67, nb_c6), (γ4 2, 67, nb_c6), (γ2 3, 49, nb_c4)]⟩, [(1, γ2 3)], [], by kernel_rfl, .nil, ?_⟩
  refine crm hR39 (.bool true) [] [] [true, true, true] ?_
  refine ck 1 [] [] fun γ41 => ⟨⟨kt (bdy Try.f11) [1, 0, 1, 0, 1] [], (nb_l46 γ2), [(γ12 2, 67, nb_c6), (γ4 2, 67, nb_c6), (γ2 3, 49, nb_c4)]⟩, [], [], by kernel_rfl, .nil, ?_⟩
  refine crm hR37 (.int .i64 0) [] [] [true, true, true] ?_
  refine ck 7 [] [] fun γ42 => ⟨⟨kt (bdy Try.f6) [1, 1, 1, 1, 0, 32] [], (nb_b48 i0 a0 γ2 γ4 γ12), [(γ12 2, 67, nb_c6), (γ4 2, 67, nb_c6), (γ2 3, 49, nb_c4)]⟩, [], [], by kernel_rfl, .nil, ?_⟩
  refine ci (f := 15) (args := [.pointer none, .int .i64 i0, .int .i64 a0]) (fn := Try.f15) (c := bdy Try.f15) rfl (fun R43 hR43 => ?_)
  refine ck 2 [] [] fun γ44 => ⟨⟨kt (bdy Try.f15) [1, 0, 0, 1] [], (nb_b51 i0 a0), [(γ12 2, 67, nb_c6), (γ4 2, 67, nb_c6), (γ2 3, 49, nb_c4)]⟩, [], [], by kernel_rfl, .nil, ?_⟩
  refine ci (f := 27) (args := [.pointer none]) (fn := Try.f27) (c := bdy Try.f27) rfl (fun R45 hR45 => ?_)
  refine ck 11 [] [] fun γ46 => ⟨⟨kt (bdy Try.f27) [1, 1] [], nb_l11, [(γ12 2, 67, nb_c6), (γ4 2, 67, nb_c6), (γ2 3, 49, nb_c4)]⟩, [], [], by kernel_rfl, .nil, ?_⟩
  refine crm hR45 (.bool true) [] [] [true, true, true] ?_
  refine ck 12 [] [] fun γ47 => ⟨⟨kt (bdy Try.f15) [1, 0, 1, 0, 1] [], (nb_b54 i0 a0), [(γ12 2, 67, nb_c6), (γ4 2, 67, nb_c6), (γ2 3, 49, nb_c4)]⟩, [], [], by kernel_rfl, .nil, ?_⟩
  refine crm hR43 (.bool false) [] [] [true, true, true] ?_
  refine ck 6 [] [] fun γ48 => ⟨⟨kt (bdy Try.f6) [1, 1, 1, 1, 0, 39] [], (nb_b57 i0 a0 γ2 γ4 γ12), [(γ12 2, 67, nb_c6), (γ4 2, 67, nb_c6), (γ2 3, 49, nb_c4)]⟩, [], [], by kernel_rfl, .nil, ?_⟩
  refine ci (f := 15) (args := [.pointer (some ⟨γ2 3, 0, none⟩), .int .i64 i0, .int .i64 a0]) (fn := Try.f15) (c := bdy Try.f15) rfl (fun R49 hR49 => ?_)
  refine ck 2 [] [] fun γ50 => ⟨⟨kt (bdy Try.f15) [1, 0, 0, 1] [], (nb_b59 i0 a0 γ2), [(γ12 2, 67, nb_c6), (γ4 2, 67, nb_c6), (γ2 3, 49, nb_c4)]⟩, [], [], by kernel_rfl, .nil, ?_⟩
  refine ci (f := 27) (args := [.pointer (some ⟨γ2 3, 0, none⟩)]) (fn := Try.f27) (c := bdy Try.f27) rfl (fun R51 hR51 => ?_)
  refine ck 11 [(1, 2)] [] fun γ52 => ⟨⟨kt (bdy Try.f27) [1, 1] [], (nb_l22 γ2), [(γ12 2, 67, nb_c6), (γ4 2, 67, nb_c6), (γ2 3, 49, nb_c4)]⟩, [(1, γ2 3)], [], by kernel_rfl, .nil, ?_⟩
  refine crm hR51 (.bool true) [] [] [true, true, true] ?_
  refine ck 12 [] [] fun γ53 => ⟨⟨kt (bdy Try.f15) [1, 0, 1, 0, 1] [], (nb_b61 i0 a0 γ2), [(γ12 2, 67, nb_c6), (γ4 2, 67, nb_c6), (γ2 3, 49, nb_c4)]⟩, [], [], by kernel_rfl, .nil, ?_⟩
  refine crm hR49 (.bool false) [] [] [true, true, true] ?_
  refine ck 5 [] [] fun γ54 => ⟨⟨kt (bdy Try.f6) [1, 1, 1, 1, 0, 45] [], (nb_b63 i0 a0 γ2 γ4 γ12), [(γ12 2, 67, nb_c6), (γ4 2, 67, nb_c6), (γ2 3, 49, nb_c4)]⟩, [], [], by kernel_rfl, .nil, ?_⟩
  refine ci (f := 23) (args := []) (fn := Try.f23) (c := bdy Try.f23) rfl (fun R55 hR55 => ?_)
  refine ck 5 [(2, 1)] [] fun γ56 => ⟨⟨kt (bdy Try.f23) [1, 1] [], (nb_l64 γ56), [(γ56 2, 67, nb_c6), (γ56 0, 30, (nb_c65 γ56)), (γ12 2, 67, nb_c6), (γ4 2, 67, nb_c6), (γ2 3, 49, nb_c4)]⟩, [(2, γ56 0)], [], by kernel_rfl, .nil, ?_⟩
  refine crm hR55 (.agg #[.slice none 0 0, .slice (some ⟨γ56 2, 0, none⟩) 1 1]) [(2, 1)] [(2, γ56 0)] [true, false, true, true, true] ?_
  refine ci (f := 24) (args := [.pointer none, .int .i64 a0, .agg #[.slice none 0 0, .slice (some ⟨γ56 2, 0, none⟩) 1 1]]) (fn := Try.f24) (c := bdy Try.f24) rfl (fun R57 hR57 => ?_)
  refine ck 3 [] [] fun γ58 => ⟨⟨kt (bdy Try.f24) [1, 0, 0, 1] [], (nb_b68 a0 γ56 γ58), [(γ58 0, 30, (nb_c65 γ56)), (γ56 2, 67, nb_c6), (γ12 2, 67, nb_c6), (γ4 2, 67, nb_c6), (γ2 3, 49, nb_c4)]⟩, [], [], by kernel_rfl, .nil, ?_⟩
  refine ci (f := 27) (args := [.pointer none]) (fn := Try.f27) (c := bdy Try.f27) rfl (fun R59 hR59 => ?_)
  refine ck 11 [] [] fun γ60 => ⟨⟨kt (bdy Try.f27) [1, 1] [], nb_l11, [(γ58 0, 30, (nb_c65 γ56)), (γ56 2, 67, nb_c6), (γ12 2, 67, nb_c6), (γ4 2, 67, nb_c6), (γ2 3, 49, nb_c4)]⟩, [], [], by kernel_rfl, .nil, ?_⟩
  refine crm hR59 (.bool true) [] [] [true, true, true, true, true] ?_
  refine ck 1 [] [] fun γ61 => ⟨⟨kt (bdy Try.f24) [1, 0, 1, 0, 1] [], (nb_b70 a0 γ56 γ58), [(γ58 0, 30, (nb_c65 γ56)), (γ56 2, 67, nb_c6), (γ12 2, 67, nb_c6), (γ4 2, 67, nb_c6), (γ2 3, 49, nb_c4)]⟩, [], [], by kernel_rfl, .nil, ?_⟩
  refine crm hR57 (.slice none 0 0) [] [] [false, true, true, true, true] ?_
  refine ck 3 [] [] fun γ62 => ⟨⟨kt (bdy Try.f6) [1, 1, 1, 1, 0, 50] [], (nb_b72 i0 a0 γ2 γ4 γ12 γ56), [(γ56 2, 67, nb_c6), (γ12 2, 67, nb_c6), (γ4 2, 67, nb_c6), (γ2 3, 49, nb_c4)]⟩, [], [], by kernel_rfl, .nil, ?_⟩
  refine ci (f := 23) (args := []) (fn := Try.f23) (c := bdy Try.f23) rfl (fun R63 hR63 => ?_)
  refine ck 5 [(2, 1)] [] fun γ64 => ⟨⟨kt (bdy Try.f23) [1, 1] [], (nb_l73 γ64), [(γ64 2, 67, nb_c6), (γ64 0, 30, (nb_c74 γ64)), (γ56 2, 67, nb_c6), (γ12 2, 67, nb_c6), (γ4 2, 67, nb_c6), (γ2 3, 49, nb_c4)]⟩, [(2, γ64 0)], [], by kernel_rfl, .nil, ?_⟩
  refine crm hR63 (.agg #[.slice none 0 0, .slice (some ⟨γ64 2, 0, none⟩) 1 1]) [(2, 1)] [(2, γ64 0)] [true, false, true, true, true, true] ?_
  refine ci (f := 24) (args := [.pointer (some ⟨γ2 3, 0, none⟩), .int .i64 a0, .agg #[.slice none 0 0, .slice (some ⟨γ64 2, 0, none⟩) 1 1]]) (fn := Try.f24) (c := bdy Try.f24) rfl (fun R65 hR65 => ?_)
  refine ck 3 [] [] fun γ66 => ⟨⟨kt (bdy Try.f24) [1, 0, 0, 1] [], (nb_b76 a0 γ2 γ64 γ66), [(γ66 0, 30, (nb_c74 γ64)), (γ64 2, 67, nb_c6), (γ56 2, 67, nb_c6), (γ12 2, 67, nb_c6), (γ4 2, 67, nb_c6), (γ2 3, 49, nb_c4)]⟩, [], [], by kernel_rfl, .nil, ?_⟩
  refine ci (f := 27) (args := [.pointer (some ⟨γ2 3, 0, none⟩)]) (fn := Try.f27) (c := bdy Try.f27) rfl (fun R67 hR67 => ?_)
  refine ck 11 [(1, 5)] [] fun γ68 => ⟨⟨kt (bdy Try.f27) [1, 1] [], (nb_l22 γ2), [(γ66 0, 30, (nb_c74 γ64)), (γ64 2, 67, nb_c6), (γ56 2, 67, nb_c6), (γ12 2, 67, nb_c6), (γ4 2, 67, nb_c6), (γ2 3, 49, nb_c4)]⟩, [(1, γ2 3)], [], by kernel_rfl, .nil, ?_⟩
  refine crm hR67 (.bool true) [] [] [true, true, true, true, true, true] ?_
  refine ck 1 [] [] fun γ69 => ⟨⟨kt (bdy Try.f24) [1, 0, 1, 0, 1] [], (nb_b78 a0 γ2 γ64 γ66), [(γ66 0, 30, (nb_c74 γ64)), (γ64 2, 67, nb_c6), (γ56 2, 67, nb_c6), (γ12 2, 67, nb_c6), (γ4 2, 67, nb_c6), (γ2 3, 49, nb_c4)]⟩, [], [], by kernel_rfl, .nil, ?_⟩
  refine crm hR65 (.slice none 0 0) [] [] [false, true, true, true, true, true] ?_
  refine ck 5 [] [] fun γ70 => ⟨⟨kt (bdy Try.f6) [1, 1, 1, 1, 0, 57] [], (nb_b81 i0 a0 γ2 γ4 γ12 γ56 γ64), [(γ64 2, 67, nb_c6), (γ56 2, 67, nb_c6), (γ12 2, 67, nb_c6), (γ4 2, 67, nb_c6), (γ2 3, 49, nb_c4)]⟩, [], [], by kernel_rfl, .nil, ?_⟩
  refine ci (f := 23) (args := []) (fn := Try.f23) (c := bdy Try.f23) rfl (fun R71 hR71 => ?_)
  refine ck 5 [(2, 1)] [] fun γ72 => ⟨⟨kt (bdy Try.f23) [1, 1] [], (nb_l82 γ72), [(γ72 2, 67, nb_c6), (γ72 0, 30, (nb_c83 γ72)), (γ64 2, 67, nb_c6), (γ56 2, 67, nb_c6), (γ12 2, 67, nb_c6), (γ4 2, 67, nb_c6), (γ2 3, 49, nb_c4)]⟩, [(2, γ72 0)], [], by kernel_rfl, .nil, ?_⟩
  refine crm hR71 (.agg #[.slice none 0 0, .slice (some ⟨γ72 2, 0, none⟩) 1 1]) [(2, 1)] [(2, γ72 0)] [true, false, true, true, true, true, true] ?_
  refine ci (f := 21) (args := [.pointer none, .int .i64 i0, .int .i64 a0, .agg #[.slice none 0 0, .slice (some ⟨γ72 2, 0, none⟩) 1 1]]) (fn := Try.f21) (c := bdy Try.f21) rfl (fun R73 hR73 => ?_)
  refine ck 4 [(1, 1)] [] fun γ74 => ⟨⟨kt (bdy Try.f21) [1, 0, 0, 1] [], (nb_b86 i0 a0 γ72 γ74), [(γ74 1, 30, (nb_c83 γ72)), (γ74 0, 25, [.pointer none]), (γ72 2, 67, nb_c6), (γ64 2, 67, nb_c6), (γ56 2, 67, nb_c6), (γ12 2, 67, nb_c6), (γ4 2, 67, nb_c6), (γ2 3, 49, nb_c4)]⟩, [(1, γ74 0)], [], by kernel_rfl, .nil, ?_⟩
  refine ci (f := 27) (args := [.pointer none]) (fn := Try.f27) (c := bdy Try.f27) rfl (fun R75 hR75 => ?_)
  refine ck 11 [] [] fun γ76 => ⟨⟨kt (bdy Try.f27) [1, 1] [], nb_l11, [(γ74 1, 30, (nb_c83 γ72)), (γ74 0, 25, [.pointer none]), (γ72 2, 67, nb_c6), (γ64 2, 67, nb_c6), (γ56 2, 67, nb_c6), (γ12 2, 67, nb_c6), (γ4 2, 67, nb_c6), (γ2 3, 49, nb_c4)]⟩, [], [], by kernel_rfl, .nil, ?_⟩
  refine crm hR75 (.bool true) [] [] [true, true, true, true, true, true, true, true] ?_
  refine ck 21 [] [] fun γ77 => ⟨⟨kt (bdy Try.f21) [1, 0, 1, 0, 1] [], (nb_b88 i0 a0 γ72 γ74), [(γ74 1, 30, (nb_c83 γ72)), (γ74 0, 25, [.pointer none]), (γ72 2, 67, nb_c6), (γ64 2, 67, nb_c6), (γ56 2, 67, nb_c6), (γ12 2, 67, nb_c6), (γ4 2, 67, nb_c6), (γ2 3, 49, nb_c4)]⟩, [], [], by kernel_rfl, .nil, ?_⟩
  refine crm hR73 (.slice none 0 0) [] [] [false, false, true, true, true, true, true, true] ?_
  refine ck 5 [] [] fun γ78 => ⟨⟨kt (bdy Try.f6) [1, 1, 1, 1, 0, 64] [], (nb_b90 i0 a0 γ2 γ4 γ12 γ56 γ64 γ72), [(γ72 2, 67, nb_c6), (γ64 2, 67, nb_c6), (γ56 2, 67, nb_c6), (γ12 2, 67, nb_c6), (γ4 2, 67, nb_c6), (γ2 3, 49, nb_c4)]⟩, [], [], by kernel_rfl, .nil, ?_⟩
  refine ci (f := 23) (args := []) (fn := Try.f23) (c := bdy Try.f23) rfl (fun R79 hR79 => ?_)
  refine ck 5 [(2, 1)] [] fun γ80 => ⟨⟨kt (bdy Try.f23) [1, 1] [], (nb_l91 γ80), [(γ80 2, 67, nb_c6), (γ80 0, 30, (nb_c92 γ80)), (γ72 2, 67, nb_c6), (γ64 2, 67, nb_c6), (γ56 2, 67, nb_c6), (γ12 2, 67, nb_c6), (γ4 2, 67, nb_c6), (γ2 3, 49, nb_c4)]⟩, [(2, γ80 0)], [], by kernel_rfl, .nil, ?_⟩
  refine crm hR79 (.agg #[.slice none 0 0, .slice (some ⟨γ80 2, 0, none⟩) 1 1]) [(2, 1)] [(2, γ80 0)] [true, false, true, true, true, true, true, true] ?_
  refine ci (f := 21) (args := [.pointer (some ⟨γ2 3, 0, none⟩), .int .i64 i0, .int .i64 a0, .agg #[.slice none 0 0, .slice (some ⟨γ80 2, 0, none⟩) 1 1]]) (fn := Try.f21) (c := bdy Try.f21) rfl (fun R81 hR81 => ?_)
  refine ck 4 [(1, 1)] [] fun γ82 => ⟨⟨kt (bdy Try.f21) [1, 0, 0, 1] [], (nb_b94 i0 a0 γ2 γ80 γ82), [(γ82 1, 30, (nb_c92 γ80)), (γ82 0, 25, (nb_c95 γ2)), (γ80 2, 67, nb_c6), (γ72 2, 67, nb_c6), (γ64 2, 67, nb_c6), (γ56 2, 67, nb_c6), (γ12 2, 67, nb_c6), (γ4 2, 67, nb_c6), (γ2 3, 49, nb_c4)]⟩, [(1, γ82 0)], [], by kernel_rfl, .nil, ?_⟩
  refine ci (f := 27) (args := [.pointer (some ⟨γ2 3, 0, none⟩)]) (fn := Try.f27) (c := bdy Try.f27) rfl (fun R83 hR83 => ?_)
  refine ck 11 [(1, 8)] [] fun γ84 => ⟨⟨kt (bdy Try.f27) [1, 1] [], (nb_l22 γ2), [(γ82 1, 30, (nb_c92 γ80)), (γ82 0, 25, (nb_c95 γ2)), (γ80 2, 67, nb_c6), (γ72 2, 67, nb_c6), (γ64 2, 67, nb_c6), (γ56 2, 67, nb_c6), (γ12 2, 67, nb_c6), (γ4 2, 67, nb_c6), (γ2 3, 49, nb_c4)]⟩, [(1, γ2 3)], [], by kernel_rfl, .nil, ?_⟩
  refine crm hR83 (.bool true) [] [] [true, true, true, true, true, true, true, true, true] ?_
  refine ck 21 [] [] fun γ85 => ⟨⟨kt (bdy Try.f21) [1, 0, 1, 0, 1] [], (nb_b96 i0 a0 γ2 γ80 γ82), [(γ82 1, 30, (nb_c92 γ80)), (γ82 0, 25, (nb_c95 γ2)), (γ80 2, 67, nb_c6), (γ72 2, 67, nb_c6), (γ64 2, 67, nb_c6), (γ56 2, 67, nb_c6), (γ12 2, 67, nb_c6), (γ4 2, 67, nb_c6), (γ2 3, 49, nb_c4)]⟩, [], [], by kernel_rfl, .nil, ?_⟩
  refine crm hR81 (.slice none 0 0) [] [] [false, false, true, true, true, true, true, true, true] ?_
  refine ck 5 [] [] fun γ86 => ⟨⟨kt (bdy Try.f6) [1, 1, 1, 1, 1] [], (nb_b100 i0 a0 γ2 γ4 γ12 γ56 γ64 γ72 γ80), [(γ80 2, 67, nb_c6), (γ72 2, 67, nb_c6), (γ64 2, 67, nb_c6), (γ56 2, 67, nb_c6), (γ12 2, 67, nb_c6), (γ4 2, 67, nb_c6), (γ2 3, 49, nb_c4)]⟩, [], [], by kernel_rfl, .nil, ?_⟩
  refine rt (.bool true) [] [] (fun W hW => ?_)
  exact ⟨rfl, (hW.old 0 rfl)⟩
end Go.Proofs.Ytglkhjjhjhhonaa.Sr
