/- Free. No condition beside those that each theorem names. -/
import Derived.Test.YtbijkflfphppgaaAwA
import Derived.Test.YtbijkflfphppgaaMachE
namespace Go.Proofs.Ytbijkflfphppgaa.Sr
open Go.RowKit Go.Proofs.YtbijkflfphppgaaM.Mach
set_option linter.unusedVariables false
set_option linter.unusedSimpArgs false
def fe0_c0 (Ac : Option Addr) (kq : Nat) (At : Option Addr) (ct : Nat) (tl : List H12) (cl : List C10) (Ar : Option Addr) (rl : List Int) (cr : Nat) : List Value := [.slice At tl.length ct, .bool true, .slice Ac cl.length kq, .slice Ar rl.length cr]
def fe0_l1 (g : Nat) (cell : Int) : List Value := [.pointer (some ⟨g, 0, none⟩), .int .i64 cell, zz, zz, .bool false, zz, .pointer (some ⟨g, 0, none⟩), .int .i64 cell, zz, zz, zz, zz, zz, zz, zz, zz]
def fe0_l2 : List Value := [zz, zz, zz, zz, zz, zz, zz, zz, zz, zz, zz, zz, zz, zz, zz, zz]
def fe0_l3 : List Value := [zz]
def fe0_b4 (g : Nat) (cell : Int) : List Value := (fe0_l1 g cell) ++ (fe0_l2 ++ (fe0_l3))
def fe0_l5 (g : Nat) (cell : Int) : List Value := [.pointer (some ⟨g, 0, none⟩), .int .i64 cell, zz, zz, .pointer none, .pointer (some ⟨g, 0, none⟩), .bool false, .bool false, .pointer (some ⟨g, 0, none⟩), .pointer (some ⟨g, 0, none⟩), .pointer (some ⟨g, 1, none⟩), .bool true, .bool false, .bool false, .bool false, .int .i64 cell]
def fe0_l6 (g : Nat) (Ac : Option Addr) (kq : Nat) (cl : List C10) : List Value := [.pointer (some ⟨g, 0, none⟩), .pointer (some ⟨g, 0, none⟩), .pointer (some ⟨g, 2, none⟩), .slice Ac cl.length kq, .int .i64 ((cl.length : Nat) : Int), zz, zz, zz, zz, zz, zz, zz, zz, zz, zz]
def fe0_b7 (g : Nat) (Ac : Option Addr) (kq : Nat) (cl : List C10) (cell : Int) : List Value := (fe0_l5 g cell) ++ ((fe0_l6 g Ac kq cl))
def fe0_l8 (cl : List C10) (cell : Int) : List Value := [.int .i64 cell, .int .i64 1, .int .i64 ((cl.length : Nat) : Int), zz, zz, zz, .bool false, .int .i64 1, .int .i64 cell, .bool false, .bool false, zz, zz, zz, .bool false]
def fe0_l9 (g : Nat) (Ac : Option Addr) (kq : Nat) (cl : List C10) : List Value := [.pointer (some ⟨g, 0, none⟩), .pointer (some ⟨g, 0, none⟩), .pointer (some ⟨g, 2, none⟩), .slice Ac cl.length kq, .int .i64 ((cl.length : Nat) : Int), .bool false, .bool true, .bool true, zz, zz, zz, zz, zz, zz, zz]
def fe0_b10 (g : Nat) (Ac : Option Addr) (kq : Nat) (cl : List C10) (cell : Int) : List Value := (fe0_l5 g cell) ++ ((fe0_l9 g Ac kq cl))
def fe0_l11 (g : Nat) (cell : Int) : List Value := [.pointer (some ⟨g, 0, none⟩), .int .i64 cell, zz, zz, .bool false, .pointer none, .pointer (some ⟨g, 0, none⟩), .int .i64 cell, .pointer none, .pointer none, .bool true, .bool true, zz, zz, zz, zz]
def fe0_l12 : List Value := [zz, .bool true, zz, zz, zz, zz, zz, zz, zz, zz, zz, zz, zz, zz, zz, zz]
def fe0_b13 (g : Nat) (cell : Int) : List Value := (fe0_l11 g cell) ++ (fe0_l12 ++ (fe0_l3))
set_option maxHeartbeats 8000000 in
set_option maxRecDepth 100000 in
theorem free_lo {w : World} {g : Nat} {Ac : Option Addr} {kq : Nat} {At : Option Addr} {ct : Nat} {tl : List H12} {cl : List C10} {Ar : Option Addr} {rl : List Int} {cr : Nat} {X : List Asrt} {cell : Int} (h : cell < 1) (hown : HoldR w [blkA (g, 63, (fe0_c0 Ac kq At ct tl cl Ar rl cr)), rowA 78 12 (.slice At tl.length ct) tl.length (tl.flatMap encT78), rowA 43 10 (.slice Ac cl.length kq) cl.length (cl.flatMap encT43), pool X]) : Calls Try.prog 24 #[.pointer (some ⟨g, 0, none⟩), .int .i64 cell] w fun e W => ∃ x : Unit, e = .returned (.bool false) ∧ HoldR W ([blkA (g, 63, (fe0_c0 Ac kq At ct tl cl Ar rl cr)), rowA 78 12 (.slice At tl.length ct) tl.length (tl.flatMap encT78), rowA 43 10 (.slice Ac cl.length kq) cl.length (cl.flatMap encT43), pool X] ++ [oldF w [blkA (g, 63, (fe0_c0 Ac kq At ct tl cl Ar rl cr)), rowA 78 12 (.slice At tl.length ct) tl.length (tl.flatMap encT78), rowA 43 10 (.slice Ac cl.length kq) cl.length (cl.flatMap encT43), pool X]]) := by
  refine enterF (args := [.pointer (some ⟨g, 0, none⟩), .int .i64 cell]) (fn := Try.f24) (L := [(g, 63, (fe0_c0 Ac kq At ct tl cl Ar rl cr))]) (F0 := [rowA 78 12 (.slice At tl.length ct) tl.length (tl.flatMap encT78), rowA 43 10 (.slice Ac cl.length kq) cl.length (cl.flatMap encT43), pool X]) rfl (c := bdy Try.f24) (by kernel_rfl) hown ?_
  refine ck 3 [] [] fun γ1 => ⟨⟨kt (bdy Try.f24) [1, 0, 2] [], (fe0_b4 g cell), [(g, 63, (fe0_c0 Ac kq At ct tl cl Ar rl cr))]⟩, [], [], by kernel_rfl, .nil, ?_⟩
  refine ci (f := 37) (args := [.pointer (some ⟨g, 0, none⟩), .int .i64 cell]) (fn := Try.f37) (c := bdy Try.f37) rfl (fun R2 hR2 => ?_)
  refine ck 17 [(2, 0)] [] fun γ3 => ⟨⟨kt (bdy Try.f37) [1, 0, 0, 16] [], (fe0_b7 g Ac kq cl cell), [(g, 63, (fe0_c0 Ac kq At ct tl cl Ar rl cr))]⟩, [(2, g)], [], by kernel_rfl, .nil, ?_⟩
  refine ci (f := 38) (args := [.int .i64 cell, .int .i64 1, .int .i64 ((cl.length : Nat) : Int)]) (fn := Try.f38) (c := bdy Try.f38) rfl (fun R4 hR4 => ?_)
  refine ck 10 [] [(3, .bool false)] fun γ5 => ⟨⟨kt (bdy Try.f38) [1, 1] [], (fe0_l8 cl cell), [(g, 63, (fe0_c0 Ac kq At ct tl cl Ar rl cr))]⟩, [], [Value.bool (decide ((1 : Int) ≤ cell)) = .bool false], by kernel_rfl, (.cons (cbF (by omega)) .nil), ?_⟩
  refine crm hR4 (.bool false) [] [] [true] ?_
  refine ck 3 [] [] fun γ6 => ⟨⟨kt (bdy Try.f37) [1, 0, 1, 0, 1] [], (fe0_b10 g Ac kq cl cell), [(g, 63, (fe0_c0 Ac kq At ct tl cl Ar rl cr))]⟩, [], [], by kernel_rfl, .nil, ?_⟩
  refine crm hR2 (.pointer none) [] [] [true] ?_
  refine ck 11 [] [] fun γ7 => ⟨⟨kt (bdy Try.f24) [1, 1, 0, 1, 0, 1] [], (fe0_b13 g cell), [(g, 63, (fe0_c0 Ac kq At ct tl cl Ar rl cr))]⟩, [], [], by kernel_rfl, .nil, ?_⟩
  refine rtL (.bool false) [] [] ([(g, 63, (fe0_c0 Ac kq At ct tl cl Ar rl cr))]) (fun W hW => ?_)
  exact ⟨(), rfl, hW.ix [0, 1, 2, 3, 4] (by decide) rfl⟩
def fe1_c0 (Ac : Option Addr) (kq : Nat) (At : Option Addr) (ct : Nat) (tl : List H12) (cl : List C10) (Ar : Option Addr) (rl : List Int) (cr : Nat) : List Value := [.slice At tl.length ct, .bool true, .slice Ac cl.length kq, .slice Ar rl.length cr]
def fe1_l1 (g : Nat) (cell : Int) : List Value := [.pointer (some ⟨g, 0, none⟩), .int .i64 cell, zz, zz, .bool false, zz, .pointer (some ⟨g, 0, none⟩), .int .i64 cell, zz, zz, zz, zz, zz, zz, zz, zz]
def fe1_l2 : List Value := [zz, zz, zz, zz, zz, zz, zz, zz, zz, zz, zz, zz, zz, zz, zz, zz]
def fe1_l3 : List Value := [zz]
def fe1_b4 (g : Nat) (cell : Int) : List Value := (fe1_l1 g cell) ++ (fe1_l2 ++ (fe1_l3))
def fe1_l5 (g : Nat) (cell : Int) : List Value := [.pointer (some ⟨g, 0, none⟩), .int .i64 cell, zz, zz, .pointer none, .pointer (some ⟨g, 0, none⟩), .bool false, .bool false, .pointer (some ⟨g, 0, none⟩), .pointer (some ⟨g, 0, none⟩), .pointer (some ⟨g, 1, none⟩), .bool true, .bool false, .bool false, .bool false, .int .i64 cell]
def fe1_l6 (g : Nat) (Ac : Option Addr) (kq : Nat) (cl : List C10) : List Value := [.pointer (some ⟨g, 0, none⟩), .pointer (some ⟨g, 0, none⟩), .pointer (some ⟨g, 2, none⟩), .slice Ac cl.length kq, .int .i64 ((cl.length : Nat) : Int), zz, zz, zz, zz, zz, zz, zz, zz, zz, zz]
def fe1_b7 (g : Nat) (Ac : Option Addr) (kq : Nat) (cl : List C10) (cell : Int) : List Value := (fe1_l5 g cell) ++ ((fe1_l6 g Ac kq cl))
def fe1_l8 (cl : List C10) (cell : Int) : List Value := [.int .i64 cell, .int .i64 1, .int .i64 ((cl.length : Nat) : Int), zz, zz, zz, .bool false, .int .i64 1, .int .i64 cell, .bool true, .bool true, .int .i64 cell, .int .i64 ((cl.length : Nat) : Int), .bool false, .bool false]
def fe1_l9 (g : Nat) (Ac : Option Addr) (kq : Nat) (cl : List C10) : List Value := [.pointer (some ⟨g, 0, none⟩), .pointer (some ⟨g, 0, none⟩), .pointer (some ⟨g, 2, none⟩), .slice Ac cl.length kq, .int .i64 ((cl.length : Nat) : Int), .bool false, .bool true, .bool true, zz, zz, zz, zz, zz, zz, zz]
def fe1_b10 (g : Nat) (Ac : Option Addr) (kq : Nat) (cl : List C10) (cell : Int) : List Value := (fe1_l5 g cell) ++ ((fe1_l9 g Ac kq cl))
def fe1_l11 (g : Nat) (cell : Int) : List Value := [.pointer (some ⟨g, 0, none⟩), .int .i64 cell, zz, zz, .bool false, .pointer none, .pointer (some ⟨g, 0, none⟩), .int .i64 cell, .pointer none, .pointer none, .bool true, .bool true, zz, zz, zz, zz]
def fe1_l12 : List Value := [zz, .bool true, zz, zz, zz, zz, zz, zz, zz, zz, zz, zz, zz, zz, zz, zz]
def fe1_b13 (g : Nat) (cell : Int) : List Value := (fe1_l11 g cell) ++ (fe1_l12 ++ (fe1_l3))
set_option maxHeartbeats 8000000 in
set_option maxRecDepth 100000 in
theorem free_hi {w : World} {g : Nat} {Ac : Option Addr} {kq : Nat} {At : Option Addr} {ct : Nat} {tl : List H12} {cl : List C10} {Ar : Option Addr} {rl : List Int} {cr : Nat} {X : List Asrt} {cell : Int} (h : 1 ≤ cell ∧ (cl.length : Int) < cell) (hown : HoldR w [blkA (g, 63, (fe1_c0 Ac kq At ct tl cl Ar rl cr)), rowA 78 12 (.slice At tl.length ct) tl.length (tl.flatMap encT78), rowA 43 10 (.slice Ac cl.length kq) cl.length (cl.flatMap encT43), pool X]) : Calls Try.prog 24 #[.pointer (some ⟨g, 0, none⟩), .int .i64 cell] w fun e W => ∃ x : Unit, e = .returned (.bool false) ∧ HoldR W ([blkA (g, 63, (fe1_c0 Ac kq At ct tl cl Ar rl cr)), rowA 78 12 (.slice At tl.length ct) tl.length (tl.flatMap encT78), rowA 43 10 (.slice Ac cl.length kq) cl.length (cl.flatMap encT43), pool X] ++ [oldF w [blkA (g, 63, (fe1_c0 Ac kq At ct tl cl Ar rl cr)), rowA 78 12 (.slice At tl.length ct) tl.length (tl.flatMap encT78), rowA 43 10 (.slice Ac cl.length kq) cl.length (cl.flatMap encT43), pool X]]) := by
  refine enterF (args := [.pointer (some ⟨g, 0, none⟩), .int .i64 cell]) (fn := Try.f24) (L := [(g, 63, (fe1_c0 Ac kq At ct tl cl Ar rl cr))]) (F0 := [rowA 78 12 (.slice At tl.length ct) tl.length (tl.flatMap encT78), rowA 43 10 (.slice Ac cl.length kq) cl.length (cl.flatMap encT43), pool X]) rfl (c := bdy Try.f24) (by kernel_rfl) hown ?_
  refine ck 3 [] [] fun γ1 => ⟨⟨kt (bdy Try.f24) [1, 0, 2] [], (fe1_b4 g cell), [(g, 63, (fe1_c0 Ac kq At ct tl cl Ar rl cr))]⟩, [], [], by kernel_rfl, .nil, ?_⟩
  refine ci (f := 37) (args := [.pointer (some ⟨g, 0, none⟩), .int .i64 cell]) (fn := Try.f37) (c := bdy Try.f37) rfl (fun R2 hR2 => ?_)
  refine ck 17 [(2, 0)] [] fun γ3 => ⟨⟨kt (bdy Try.f37) [1, 0, 0, 16] [], (fe1_b7 g Ac kq cl cell), [(g, 63, (fe1_c0 Ac kq At ct tl cl Ar rl cr))]⟩, [(2, g)], [], by kernel_rfl, .nil, ?_⟩
  refine ci (f := 38) (args := [.int .i64 cell, .int .i64 1, .int .i64 ((cl.length : Nat) : Int)]) (fn := Try.f38) (c := bdy Try.f38) rfl (fun R4 hR4 => ?_)
  refine ck 10 [] [(3, .bool true), (7, .bool false)] fun γ5 => ⟨⟨kt (bdy Try.f38) [1, 1] [], (fe1_l8 cl cell), [(g, 63, (fe1_c0 Ac kq At ct tl cl Ar rl cr))]⟩, [], [Value.bool (decide ((1 : Int) ≤ cell)) = .bool true, Value.bool (decide ((cell : Int) ≤ ((cl.length : Nat) : Int))) = .bool false], by kernel_rfl, (.cons (cbT (by omega)) (.cons (cbF (by omega)) .nil)), ?_⟩
  refine crm hR4 (.bool false) [] [] [true] ?_
  refine ck 3 [] [] fun γ6 => ⟨⟨kt (bdy Try.f37) [1, 0, 1, 0, 1] [], (fe1_b10 g Ac kq cl cell), [(g, 63, (fe1_c0 Ac kq At ct tl cl Ar rl cr))]⟩, [], [], by kernel_rfl, .nil, ?_⟩
  refine crm hR2 (.pointer none) [] [] [true] ?_
  refine ck 11 [] [] fun γ7 => ⟨⟨kt (bdy Try.f24) [1, 1, 0, 1, 0, 1] [], (fe1_b13 g cell), [(g, 63, (fe1_c0 Ac kq At ct tl cl Ar rl cr))]⟩, [], [], by kernel_rfl, .nil, ?_⟩
  refine rtL (.bool false) [] [] ([(g, 63, (fe1_c0 Ac kq At ct tl cl Ar rl cr))]) (fun W hW => ?_)
  exact ⟨(), rfl, hW.ix [0, 1, 2, 3, 4] (by decide) rfl⟩
def ff0_c0 (Ac : Option Addr) (kq : Nat) (At : Option Addr) (ct : Nat) (tl : List H12) (cl : List C10) (Ar : Option Addr) (rl : List Int) (cr : Nat) : List Value := [.slice At tl.length ct, .bool true, .slice Ac cl.length kq, .slice Ar rl.length cr]
def ff0_l1 (g : Nat) (i : Nat) : List Value := [.pointer (some ⟨g, 0, none⟩), .int .i64 ((i + 1 : Nat) : Int), zz, zz, .bool false, zz, .pointer (some ⟨g, 0, none⟩), .int .i64 ((i + 1 : Nat) : Int), zz, zz, zz, zz, zz, zz, zz, zz]
def ff0_l2 : List Value := [zz, zz, zz, zz, zz, zz, zz, zz, zz, zz, zz, zz, zz, zz, zz, zz]
def ff0_l3 : List Value := [zz]
def ff0_b4 (g : Nat) (i : Nat) : List Value := (ff0_l1 g i) ++ (ff0_l2 ++ (ff0_l3))
def ff0_l5 (g : Nat) (i : Nat) : List Value := [.pointer (some ⟨g, 0, none⟩), .int .i64 ((i + 1 : Nat) : Int), zz, zz, .pointer none, .pointer (some ⟨g, 0, none⟩), .bool false, .bool false, .pointer (some ⟨g, 0, none⟩), .pointer (some ⟨g, 0, none⟩), .pointer (some ⟨g, 1, none⟩), .bool true, .bool false, .bool false, .bool false, .int .i64 ((i + 1 : Nat) : Int)]
def ff0_l6 (g : Nat) (Ac : Option Addr) (kq : Nat) (cl : List C10) : List Value := [.pointer (some ⟨g, 0, none⟩), .pointer (some ⟨g, 0, none⟩), .pointer (some ⟨g, 2, none⟩), .slice Ac cl.length kq, .int .i64 ((cl.length : Nat) : Int), zz, zz, zz, zz, zz, zz, zz, zz, zz, zz]
def ff0_b7 (g : Nat) (Ac : Option Addr) (kq : Nat) (cl : List C10) (i : Nat) : List Value := (ff0_l5 g i) ++ ((ff0_l6 g Ac kq cl))
def ff0_l8 (cl : List C10) (i : Nat) : List Value := [.int .i64 ((i + 1 : Nat) : Int), .int .i64 1, .int .i64 ((cl.length : Nat) : Int), zz, zz, zz, .bool true, .int .i64 1, .int .i64 ((i + 1 : Nat) : Int), .bool true, .bool true, .int .i64 ((i + 1 : Nat) : Int), .int .i64 ((cl.length : Nat) : Int), .bool true, .bool true]
def ff0_l9 (g : Nat) (Ac : Option Addr) (kq : Nat) (cl : List C10) (i : Nat) : List Value := [.pointer (some ⟨g, 0, none⟩), .pointer (some ⟨g, 0, none⟩), .pointer (some ⟨g, 2, none⟩), .slice Ac cl.length kq, .int .i64 ((cl.length : Nat) : Int), .bool true, .bool false, .bool false, .pointer (some ⟨g, 0, none⟩), .pointer (some ⟨g, 0, none⟩), .pointer (some ⟨g, 2, none⟩), .slice Ac cl.length kq, .int .i64 ((i + 1 : Nat) : Int), .int .i64 ((i : Nat) : Int), zz]
def ff0_b10 (g : Nat) (Ac : Option Addr) (kq : Nat) (cl : List C10) (i : Nat) : List Value := (ff0_l5 g i) ++ ((ff0_l9 g Ac kq cl i))
def ff0_l11 (g : Nat) (i : Nat) (g1 : Nat) : List Value := [.pointer (some ⟨g, 0, none⟩), .int .i64 ((i + 1 : Nat) : Int), zz, zz, .bool false, .pointer (some ⟨g1, 0 + i * 10, none⟩), .pointer (some ⟨g, 0, none⟩), .int .i64 ((i + 1 : Nat) : Int), .pointer (some ⟨g1, 0 + i * 10, none⟩), .pointer (some ⟨g1, 0 + i * 10, none⟩), .bool false, .bool false, .pointer (some ⟨g1, 0 + i * 10, none⟩), .pointer (some ⟨g1, 0 + i * 10, none⟩), .pointer (some ⟨g1, 0 + i * 10, none⟩), zz]
def ff0_b12 (g : Nat) (i : Nat) (g1 : Nat) : List Value := (ff0_l11 g i g1) ++ (ff0_l2 ++ (ff0_l3))
set_option maxHeartbeats 8000000 in
set_option maxRecDepth 100000 in
theorem free_st {w : World} {g : Nat} {Ac : Option Addr} {kq : Nat} {At : Option Addr} {ct : Nat} {tl : List H12} {cl : List C10} {Ar : Option Addr} {rl : List Int} {cr : Nat} {X : List Asrt} {i : Nat} (hcl : cl.length ≤ 1000) (htl : tl.length ≤ 1000) (hi : i < cl.length) (h : (cl[i]!).1 = 0) (hown : HoldR w [blkA (g, 63, (ff0_c0 Ac kq At ct tl cl Ar rl cr)), rowA 78 12 (.slice At tl.length ct) tl.length (tl.flatMap encT78), rowA 43 10 (.slice Ac cl.length kq) cl.length (cl.flatMap encT43), pool X]) : Calls Try.prog 24 #[.pointer (some ⟨g, 0, none⟩), .int .i64 ((i + 1 : Nat) : Int)] w fun e W => ∃ x : Unit, e = .returned (.bool false) ∧ HoldR W ([blkA (g, 63, (ff0_c0 Ac kq At ct tl cl Ar rl cr)), rowA 78 12 (.slice At tl.length ct) tl.length (tl.flatMap encT78), rowA 43 10 (.slice Ac cl.length kq) cl.length (cl.flatMap encT43), pool X] ++ [oldF w [blkA (g, 63, (ff0_c0 Ac kq At ct tl cl Ar rl cr)), rowA 78 12 (.slice At tl.length ct) tl.length (tl.flatMap encT78), rowA 43 10 (.slice Ac cl.length kq) cl.length (cl.flatMap encT43), pool X]]) := by
  refine enterF (args := [.pointer (some ⟨g, 0, none⟩), .int .i64 ((i + 1 : Nat) : Int)]) (fn := Try.f24) (L := [(g, 63, (ff0_c0 Ac kq At ct tl cl Ar rl cr))]) (F0 := [rowA 78 12 (.slice At tl.length ct) tl.length (tl.flatMap encT78), rowA 43 10 (.slice Ac cl.length kq) cl.length (cl.flatMap encT43), pool X]) rfl (c := bdy Try.f24) (by kernel_rfl) hown ?_
  refine shp 1 rfl fun A' c' e' hc' hz' hl' => ?_
  cases e'
  obtain ⟨g1, hg1⟩ := hz'.resolve_left (by omega)
  clear hl' hc'
  refine ck 3 [] [] fun γ2 => ⟨⟨kt (bdy Try.f24) [1, 0, 2] [], (ff0_b4 g i), [(g, 63, (ff0_c0 Ac kq At ct tl cl Ar rl cr))]⟩, [], [], by kernel_rfl, .nil, ?_⟩
  refine ci (f := 37) (args := [.pointer (some ⟨g, 0, none⟩), .int .i64 ((i + 1 : Nat) : Int)]) (fn := Try.f37) (c := bdy Try.f37) rfl (fun R3 hR3 => ?_)
  refine ck 17 [(2, 0)] [] fun γ4 => ⟨⟨kt (bdy Try.f37) [1, 0, 0, 16] [], (ff0_b7 g Ac kq cl i), [(g, 63, (ff0_c0 Ac kq At ct tl cl Ar rl cr))]⟩, [(2, g)], [], by kernel_rfl, .nil, ?_⟩
  refine ci (f := 38) (args := [.int .i64 ((i + 1 : Nat) : Int), .int .i64 1, .int .i64 ((cl.length : Nat) : Int)]) (fn := Try.f38) (c := bdy Try.f38) rfl (fun R5 hR5 => ?_)
  refine ck 10 [] [(3, .bool true), (7, .bool true)] fun γ6 => ⟨⟨kt (bdy Try.f38) [1, 1] [], (ff0_l8 cl i), [(g, 63, (ff0_c0 Ac kq At ct tl cl Ar rl cr))]⟩, [], [Value.bool (decide ((1 : Int) ≤ ((i + 1 : Nat) : Int))) = .bool true, Value.bool (decide ((((i + 1 : Nat) : Int) : Int) ≤ ((cl.length : Nat) : Int))) = .bool true], by kernel_rfl, (.cons (cbT (by omega)) (.cons (cbT (by omega)) .nil)), ?_⟩
  refine crm hR5 (.bool true) [] [] [true] ?_
  refine ck 8 [(1, 0)] [(7, .int .i64 ((i : Nat) : Int))] fun γ7 => ⟨⟨kt (bdy Try.f37) [1, 1, 0, 6] [], (ff0_b10 g Ac kq cl i), [(g, 63, (ff0_c0 Ac kq At ct tl cl Ar rl cr))]⟩, [(1, g)], [Value.int .i64 (IntKind.wrap .i64 (((i + 1 : Nat) : Int) - 1)) = .int .i64 ((i : Nat) : Int)], by kernel_rfl, (.cons (congrArg (Value.int .i64) (by rw [IntKind.wrap_i64]; omega)) .nil), ?_⟩
  refine ixr (n := cl.length) (sz := 10) (j := ((i : Nat) : Int)) hg1 i (by omega) ?_
  refine ck 1 [] [] fun γ8 => ⟨⟨kt (bdy Try.f37) [1, 1, 1] [], upv (ff0_b10 g Ac kq cl i) [(4, .pointer (some ⟨g1, 0 + i * 10, none⟩)), (30, .pointer (some ⟨g1, 0 + i * 10, none⟩))], [(g, 63, (ff0_c0 Ac kq At ct tl cl Ar rl cr))]⟩, [], [], by kernel_rfl, .nil, ?_⟩
  refine crm hR3 (.pointer (some ⟨g1, 0 + i * 10, none⟩)) [] [] [true] ?_
  refine ck 7 [] [] fun γ9 => ⟨⟨kt (bdy Try.f24) [1, 1, 0, 0, 6] [], (ff0_b12 g i g1), [(g, 63, (ff0_c0 Ac kq At ct tl cl Ar rl cr))]⟩, [], [], by kernel_rfl, .nil, ?_⟩
  refine ldr (n := 1) (row := false) [.int .i64 ((cl[i]!).1)] (fun W hW => ((Rd.atE (own_rd encT43_len (hW.at 1 rfl)) hg1 (by first | omega | (simp only [List.length_set]; omega)))).ld (i := i) (by first | omega | simp) 0 [.int .i64 ((cl[i]!).1)] rfl) ?_
  refine ck 3 [] [(0, .bool true)] fun γ10 => ⟨⟨kt (bdy Try.f24) [1, 1, 0, 1, 0, 1] [], upv (ff0_b12 g i g1) [(15, .int .i64 ((cl[i]!).1)), (16, .bool true), (17, .bool true)], [(g, 63, (ff0_c0 Ac kq At ct tl cl Ar rl cr))]⟩, [], [Value.bool ((((cl[i]!).1) : Int) == 0) = .bool true], by kernel_rfl, (.cons (cbE (by omega)) .nil), ?_⟩
  refine rtL (.bool false) [] [] ([(g, 63, (ff0_c0 Ac kq At ct tl cl Ar rl cr))]) (fun W hW => ?_)
  exact ⟨(), rfl, hW.ix [0, 1, 2, 3, 4] (by decide) rfl⟩
end Go.Proofs.Ytbijkflfphppgaa.Sr
