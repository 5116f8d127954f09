/- Load. No condition beside those that each theorem names. -/
import Derived.Test.YtbijkflfphppgaaAwT
namespace Go.Proofs.Ytbijkflfphppgaa.Sr
open Go.RowKit Go.Proofs.YtbijkflfphppgaaM.Mach
set_option linter.unusedVariables false
set_option linter.unusedSimpArgs false
def lo0_c0 (gc : Nat) (At : Option Addr) (ct : Nat) (tl : List H12) (cl : List C10) (Ar : Option Addr) (nr : Nat) (cr : Nat) : List Value := [.slice At tl.length ct, .bool true, .slice (some ⟨gc, 0, none⟩) cl.length cl.length, .slice Ar nr cr]
def lo0_l1 (g : Nat) (cell : Int) (f : Int) (γ1 : Nat → Nat) : List Value := [.pointer (some ⟨g, 0, none⟩), .int .i64 cell, .int .i64 f, zz, zz, zz, .pointer (some ⟨γ1 0, 0, none⟩), .bool false, zz, .pointer (some ⟨g, 0, none⟩), .int .i64 cell, zz, zz, zz, zz, zz]
def lo0_l2 : List Value := [zz, zz, zz, zz, zz, zz, zz, zz, zz, zz]
def lo0_b3 (g : Nat) (cell : Int) (f : Int) (γ1 : Nat → Nat) : List Value := (lo0_l1 g cell f γ1) ++ (lo0_l2)
def lo0_c4 : List Value := [.int .i64 0, .int .i64 0, .int .i64 0]
def lo0_l5 (g : Nat) (cell : Int) : List Value := [.pointer (some ⟨g, 0, none⟩), .int .i64 cell, zz, zz, .pointer none, .pointer (some ⟨g, 0, none⟩), .bool false, .bool false, .pointer (some ⟨g, 0, none⟩), .pointer (some ⟨g, 0, none⟩), .pointer (some ⟨g, 1, none⟩), .bool true, .bool false, .bool false, .bool false, .int .i64 cell]
def lo0_l6 (g : Nat) (gc : Nat) (cl : List C10) : List Value := [.pointer (some ⟨g, 0, none⟩), .pointer (some ⟨g, 0, none⟩), .pointer (some ⟨g, 2, none⟩), .slice (some ⟨gc, 0, none⟩) cl.length cl.length, .int .i64 ((cl.length : Nat) : Int), zz, zz, zz, zz, zz, zz, zz, zz, zz, zz]
def lo0_b7 (g : Nat) (gc : Nat) (cl : List C10) (cell : Int) : List Value := (lo0_l5 g cell) ++ ((lo0_l6 g gc cl))
def lo0_l8 (cl : List C10) (cell : Int) : List Value := [.int .i64 cell, .int .i64 1, .int .i64 ((cl.length : Nat) : Int), zz, zz, zz, .bool false, .int .i64 1, .int .i64 cell, .bool false, .bool false, zz, zz, zz, .bool false]
def lo0_l9 (g : Nat) (gc : Nat) (cl : List C10) : List Value := [.pointer (some ⟨g, 0, none⟩), .pointer (some ⟨g, 0, none⟩), .pointer (some ⟨g, 2, none⟩), .slice (some ⟨gc, 0, none⟩) cl.length cl.length, .int .i64 ((cl.length : Nat) : Int), .bool false, .bool true, .bool true, zz, zz, zz, zz, zz, zz, zz]
def lo0_b10 (g : Nat) (gc : Nat) (cl : List C10) (cell : Int) : List Value := (lo0_l5 g cell) ++ ((lo0_l9 g gc cl))
def lo0_l11 (g : Nat) (cell : Int) (f : Int) (γ1 : Nat → Nat) : List Value := [.pointer (some ⟨g, 0, none⟩), .int .i64 cell, .int .i64 f, zz, zz, zz, .pointer (some ⟨γ1 0, 0, none⟩), .bool false, .pointer none, .pointer (some ⟨g, 0, none⟩), .int .i64 cell, .pointer none, .pointer none, .bool true, .bool true, zz]
def lo0_l12 : List Value := [zz, zz, .bool true, .agg #[.int .i64 0, .int .i64 0, .int .i64 0], zz, zz, zz, zz, zz, zz]
def lo0_b13 (g : Nat) (cell : Int) (f : Int) (γ1 : Nat → Nat) : List Value := (lo0_l11 g cell f γ1) ++ (lo0_l12)
set_option maxHeartbeats 8000000 in
set_option maxRecDepth 100000 in
theorem load_lo {w : World} {g : Nat} {gc : Nat} {At : Option Addr} {ct : Nat} {tl : List H12} {cl : List C10} {Ar : Option Addr} {nr : Nat} {cr : Nat} {cell : Int} {f : Int} (h : cell < 1) (hown : HoldR w [blkA (g, 63, (lo0_c0 gc At ct tl cl Ar nr cr)), rowA 43 10 (.slice (some ⟨gc, 0, none⟩) cl.length cl.length) cl.length (cl.flatMap encT43)]) : Calls Try.prog 16 #[.pointer (some ⟨g, 0, none⟩), .int .i64 cell, .int .i64 f] w fun e W => ∃ x : Unit, e = .returned (.tuple #[.agg #[.int .i64 0, .int .i64 0, .int .i64 0], .bool false]) ∧ HoldR W ([blkA (g, 63, (lo0_c0 gc At ct tl cl Ar nr cr)), rowA 43 10 (.slice (some ⟨gc, 0, none⟩) cl.length cl.length) cl.length (cl.flatMap encT43)] ++ [oldF w [blkA (g, 63, (lo0_c0 gc At ct tl cl Ar nr cr)), rowA 43 10 (.slice (some ⟨gc, 0, none⟩) cl.length cl.length) cl.length (cl.flatMap encT43)]]) := by
  refine enterF (args := [.pointer (some ⟨g, 0, none⟩), .int .i64 cell, .int .i64 f]) (fn := Try.f16) (L := [(g, 63, (lo0_c0 gc At ct tl cl Ar nr cr))]) (F0 := [rowA 43 10 (.slice (some ⟨gc, 0, none⟩) cl.length cl.length) cl.length (cl.flatMap encT43)]) rfl (c := bdy Try.f16) (by kernel_rfl) hown ?_
  refine ck 4 [] [] fun γ1 => ⟨⟨kt (bdy Try.f16) [1, 0, 2] [], (lo0_b3 g cell f γ1), [(γ1 0, 36, lo0_c4), (g, 63, (lo0_c0 gc At ct tl cl Ar nr cr))]⟩, [], [], by kernel_rfl, .nil, ?_⟩
  refine ci (f := 37) (args := [.pointer (some ⟨g, 0, none⟩), .int .i64 cell]) (fn := Try.f37) (c := bdy Try.f37) rfl (fun R2 hR2 => ?_)
  refine ck 17 [(2, 1)] [] fun γ3 => ⟨⟨kt (bdy Try.f37) [1, 0, 0, 16] [], (lo0_b7 g gc cl cell), [(γ1 0, 36, lo0_c4), (g, 63, (lo0_c0 gc At ct tl cl Ar nr cr))]⟩, [(2, g)], [], by kernel_rfl, .nil, ?_⟩
  refine ci (f := 38) (args := [.int .i64 cell, .int .i64 1, .int .i64 ((cl.length : Nat) : Int)]) (fn := Try.f38) (c := bdy Try.f38) rfl (fun R4 hR4 => ?_)
  refine ck 10 [] [(3, .bool false)] fun γ5 => ⟨⟨kt (bdy Try.f38) [1, 1] [], (lo0_l8 cl cell), [(γ1 0, 36, lo0_c4), (g, 63, (lo0_c0 gc At ct tl cl Ar nr cr))]⟩, [], [Value.bool (decide ((1 : Int) ≤ cell)) = .bool false], by kernel_rfl, (.cons (cbF (by omega)) .nil), ?_⟩
  refine crm hR4 (.bool false) [] [] [true, true] ?_
  refine ck 3 [] [] fun γ6 => ⟨⟨kt (bdy Try.f37) [1, 0, 1, 0, 1] [], (lo0_b10 g gc cl cell), [(γ1 0, 36, lo0_c4), (g, 63, (lo0_c0 gc At ct tl cl Ar nr cr))]⟩, [], [], by kernel_rfl, .nil, ?_⟩
  refine crm hR2 (.pointer none) [] [] [true, true] ?_
  refine ck 11 [(3, 0)] [] fun γ7 => ⟨⟨kt (bdy Try.f16) [1, 1, 0, 1, 0, 1] [], (lo0_b13 g cell f γ1), [(γ1 0, 36, lo0_c4), (g, 63, (lo0_c0 gc At ct tl cl Ar nr cr))]⟩, [(3, γ1 0)], [], by kernel_rfl, .nil, ?_⟩
  refine rtL (.tuple #[.agg #[.int .i64 0, .int .i64 0, .int .i64 0], .bool false]) [(3, 0)] [(3, γ1 0)] ([(γ1 0, 36, lo0_c4), (g, 63, (lo0_c0 gc At ct tl cl Ar nr cr))]) (fun W hW => ?_)
  exact ⟨(), rfl, hW.ix [1, 2, 3] (by decide) rfl⟩
def lo1_c0 (gc : Nat) (At : Option Addr) (ct : Nat) (tl : List H12) (cl : List C10) (Ar : Option Addr) (nr : Nat) (cr : Nat) : List Value := [.slice At tl.length ct, .bool true, .slice (some ⟨gc, 0, none⟩) cl.length cl.length, .slice Ar nr cr]
def lo1_l1 (g : Nat) (cell : Int) (f : Int) (γ1 : Nat → Nat) : List Value := [.pointer (some ⟨g, 0, none⟩), .int .i64 cell, .int .i64 f, zz, zz, zz, .pointer (some ⟨γ1 0, 0, none⟩), .bool false, zz, .pointer (some ⟨g, 0, none⟩), .int .i64 cell, zz, zz, zz, zz, zz]
def lo1_l2 : List Value := [zz, zz, zz, zz, zz, zz, zz, zz, zz, zz]
def lo1_b3 (g : Nat) (cell : Int) (f : Int) (γ1 : Nat → Nat) : List Value := (lo1_l1 g cell f γ1) ++ (lo1_l2)
def lo1_c4 : List Value := [.int .i64 0, .int .i64 0, .int .i64 0]
def lo1_l5 (g : Nat) (cell : Int) : List Value := [.pointer (some ⟨g, 0, none⟩), .int .i64 cell, zz, zz, .pointer none, .pointer (some ⟨g, 0, none⟩), .bool false, .bool false, .pointer (some ⟨g, 0, none⟩), .pointer (some ⟨g, 0, none⟩), .pointer (some ⟨g, 1, none⟩), .bool true, .bool false, .bool false, .bool false, .int .i64 cell]
def lo1_l6 (g : Nat) (gc : Nat) (cl : List C10) : List Value := [.pointer (some ⟨g, 0, none⟩), .pointer (some ⟨g, 0, none⟩), .pointer (some ⟨g, 2, none⟩), .slice (some ⟨gc, 0, none⟩) cl.length cl.length, .int .i64 ((cl.length : Nat) : Int), zz, zz, zz, zz, zz, zz, zz, zz, zz, zz]
def lo1_b7 (g : Nat) (gc : Nat) (cl : List C10) (cell : Int) : List Value := (lo1_l5 g cell) ++ ((lo1_l6 g gc cl))
def lo1_l8 (cl : List C10) (cell : Int) : List Value := [.int .i64 cell, .int .i64 1, .int .i64 ((cl.length : Nat) : Int), zz, zz, zz, .bool false, .int .i64 1, .int .i64 cell, .bool true, .bool true, .int .i64 cell, .int .i64 ((cl.length : Nat) : Int), .bool false, .bool false]
def lo1_l9 (g : Nat) (gc : Nat) (cl : List C10) : List Value := [.pointer (some ⟨g, 0, none⟩), .pointer (some ⟨g, 0, none⟩), .pointer (some ⟨g, 2, none⟩), .slice (some ⟨gc, 0, none⟩) cl.length cl.length, .int .i64 ((cl.length : Nat) : Int), .bool false, .bool true, .bool true, zz, zz, zz, zz, zz, zz, zz]
def lo1_b10 (g : Nat) (gc : Nat) (cl : List C10) (cell : Int) : List Value := (lo1_l5 g cell) ++ ((lo1_l9 g gc cl))
def lo1_l11 (g : Nat) (cell : Int) (f : Int) (γ1 : Nat → Nat) : List Value := [.pointer (some ⟨g, 0, none⟩), .int .i64 cell, .int .i64 f, zz, zz, zz, .pointer (some ⟨γ1 0, 0, none⟩), .bool false, .pointer none, .pointer (some ⟨g, 0, none⟩), .int .i64 cell, .pointer none, .pointer none, .bool true, .bool true, zz]
def lo1_l12 : List Value := [zz, zz, .bool true, .agg #[.int .i64 0, .int .i64 0, .int .i64 0], zz, zz, zz, zz, zz, zz]
def lo1_b13 (g : Nat) (cell : Int) (f : Int) (γ1 : Nat → Nat) : List Value := (lo1_l11 g cell f γ1) ++ (lo1_l12)
set_option maxHeartbeats 8000000 in
set_option maxRecDepth 100000 in
theorem load_hi {w : World} {g : Nat} {gc : Nat} {At : Option Addr} {ct : Nat} {tl : List H12} {cl : List C10} {Ar : Option Addr} {nr : Nat} {cr : Nat} {cell : Int} {f : Int} (h : 1 ≤ cell ∧ (cl.length : Int) < cell) (hown : HoldR w [blkA (g, 63, (lo1_c0 gc At ct tl cl Ar nr cr)), rowA 43 10 (.slice (some ⟨gc, 0, none⟩) cl.length cl.length) cl.length (cl.flatMap encT43)]) : Calls Try.prog 16 #[.pointer (some ⟨g, 0, none⟩), .int .i64 cell, .int .i64 f] w fun e W => ∃ x : Unit, e = .returned (.tuple #[.agg #[.int .i64 0, .int .i64 0, .int .i64 0], .bool false]) ∧ HoldR W ([blkA (g, 63, (lo1_c0 gc At ct tl cl Ar nr cr)), rowA 43 10 (.slice (some ⟨gc, 0, none⟩) cl.length cl.length) cl.length (cl.flatMap encT43)] ++ [oldF w [blkA (g, 63, (lo1_c0 gc At ct tl cl Ar nr cr)), rowA 43 10 (.slice (some ⟨gc, 0, none⟩) cl.length cl.length) cl.length (cl.flatMap encT43)]]) := by
  refine enterF (args := [.pointer (some ⟨g, 0, none⟩), .int .i64 cell, .int .i64 f]) (fn := Try.f16) (L := [(g, 63, (lo1_c0 gc At ct tl cl Ar nr cr))]) (F0 := [rowA 43 10 (.slice (some ⟨gc, 0, none⟩) cl.length cl.length) cl.length (cl.flatMap encT43)]) rfl (c := bdy Try.f16) (by kernel_rfl) hown ?_
  refine ck 4 [] [] fun γ1 => ⟨⟨kt (bdy Try.f16) [1, 0, 2] [], (lo1_b3 g cell f γ1), [(γ1 0, 36, lo1_c4), (g, 63, (lo1_c0 gc At ct tl cl Ar nr cr))]⟩, [], [], by kernel_rfl, .nil, ?_⟩
  refine ci (f := 37) (args := [.pointer (some ⟨g, 0, none⟩), .int .i64 cell]) (fn := Try.f37) (c := bdy Try.f37) rfl (fun R2 hR2 => ?_)
  refine ck 17 [(2, 1)] [] fun γ3 => ⟨⟨kt (bdy Try.f37) [1, 0, 0, 16] [], (lo1_b7 g gc cl cell), [(γ1 0, 36, lo1_c4), (g, 63, (lo1_c0 gc At ct tl cl Ar nr cr))]⟩, [(2, g)], [], by kernel_rfl, .nil, ?_⟩
  refine ci (f := 38) (args := [.int .i64 cell, .int .i64 1, .int .i64 ((cl.length : Nat) : Int)]) (fn := Try.f38) (c := bdy Try.f38) rfl (fun R4 hR4 => ?_)
  refine ck 10 [] [(3, .bool true), (7, .bool false)] fun γ5 => ⟨⟨kt (bdy Try.f38) [1, 1] [], (lo1_l8 cl cell), [(γ1 0, 36, lo1_c4), (g, 63, (lo1_c0 gc At ct tl cl Ar nr cr))]⟩, [], [Value.bool (decide ((1 : Int) ≤ cell)) = .bool true, Value.bool (decide ((cell : Int) ≤ ((cl.length : Nat) : Int))) = .bool false], by kernel_rfl, (.cons (cbT (by omega)) (.cons (cbF (by omega)) .nil)), ?_⟩
  refine crm hR4 (.bool false) [] [] [true, true] ?_
  refine ck 3 [] [] fun γ6 => ⟨⟨kt (bdy Try.f37) [1, 0, 1, 0, 1] [], (lo1_b10 g gc cl cell), [(γ1 0, 36, lo1_c4), (g, 63, (lo1_c0 gc At ct tl cl Ar nr cr))]⟩, [], [], by kernel_rfl, .nil, ?_⟩
  refine crm hR2 (.pointer none) [] [] [true, true] ?_
  refine ck 11 [(3, 0)] [] fun γ7 => ⟨⟨kt (bdy Try.f16) [1, 1, 0, 1, 0, 1] [], (lo1_b13 g cell f γ1), [(γ1 0, 36, lo1_c4), (g, 63, (lo1_c0 gc At ct tl cl Ar nr cr))]⟩, [(3, γ1 0)], [], by kernel_rfl, .nil, ?_⟩
  refine rtL (.tuple #[.agg #[.int .i64 0, .int .i64 0, .int .i64 0], .bool false]) [(3, 0)] [(3, γ1 0)] ([(γ1 0, 36, lo1_c4), (g, 63, (lo1_c0 gc At ct tl cl Ar nr cr))]) (fun W hW => ?_)
  exact ⟨(), rfl, hW.ix [1, 2, 3] (by decide) rfl⟩
def lp0_c0 (gc : Nat) (At : Option Addr) (ct : Nat) (tl : List H12) (cl : List C10) (Ar : Option Addr) (nr : Nat) (cr : Nat) : List Value := [.slice At tl.length ct, .bool true, .slice (some ⟨gc, 0, none⟩) cl.length cl.length, .slice Ar nr cr]
def lp0_l1 (g : Nat) (i : Nat) (f : Int) (γ1 : Nat → Nat) : List Value := [.pointer (some ⟨g, 0, none⟩), .int .i64 ((i + 1 : Nat) : Int), .int .i64 f, zz, zz, zz, .pointer (some ⟨γ1 0, 0, none⟩), .bool false, zz, .pointer (some ⟨g, 0, none⟩), .int .i64 ((i + 1 : Nat) : Int), zz, zz, zz, zz, zz]
def lp0_l2 : List Value := [zz, zz, zz, zz, zz, zz, zz, zz, zz, zz]
def lp0_b3 (g : Nat) (i : Nat) (f : Int) (γ1 : Nat → Nat) : List Value := (lp0_l1 g i f γ1) ++ (lp0_l2)
def lp0_c4 : List Value := [.int .i64 0, .int .i64 0, .int .i64 0]
def lp0_l5 (g : Nat) (i : Nat) : List Value := [.pointer (some ⟨g, 0, none⟩), .int .i64 ((i + 1 : Nat) : Int), zz, zz, .pointer none, .pointer (some ⟨g, 0, none⟩), .bool false, .bool false, .pointer (some ⟨g, 0, none⟩), .pointer (some ⟨g, 0, none⟩), .pointer (some ⟨g, 1, none⟩), .bool true, .bool false, .bool false, .bool false, .int .i64 ((i + 1 : Nat) : Int)]
def lp0_l6 (g : Nat) (gc : Nat) (cl : List C10) : List Value := [.pointer (some ⟨g, 0, none⟩), .pointer (some ⟨g, 0, none⟩), .pointer (some ⟨g, 2, none⟩), .slice (some ⟨gc, 0, none⟩) cl.length cl.length, .int .i64 ((cl.length : Nat) : Int), zz, zz, zz, zz, zz, zz, zz, zz, zz, zz]
def lp0_b7 (g : Nat) (gc : Nat) (cl : List C10) (i : Nat) : List Value := (lp0_l5 g i) ++ ((lp0_l6 g gc cl))
def lp0_l8 (cl : List C10) (i : Nat) : List Value := [.int .i64 ((i + 1 : Nat) : Int), .int .i64 1, .int .i64 ((cl.length : Nat) : Int), zz, zz, zz, .bool true, .int .i64 1, .int .i64 ((i + 1 : Nat) : Int), .bool true, .bool true, .int .i64 ((i + 1 : Nat) : Int), .int .i64 ((cl.length : Nat) : Int), .bool true, .bool true]
def lp0_l9 (g : Nat) (gc : Nat) (i : Nat) : List Value := [.pointer (some ⟨g, 0, none⟩), .int .i64 ((i + 1 : Nat) : Int), zz, zz, .pointer (some ⟨gc, 0 + i * 10, none⟩), .pointer (some ⟨g, 0, none⟩), .bool false, .bool false, .pointer (some ⟨g, 0, none⟩), .pointer (some ⟨g, 0, none⟩), .pointer (some ⟨g, 1, none⟩), .bool true, .bool false, .bool false, .bool false, .int .i64 ((i + 1 : Nat) : Int)]
def lp0_l10 (g : Nat) (gc : Nat) (cl : List C10) (i : Nat) : List Value := [.pointer (some ⟨g, 0, none⟩), .pointer (some ⟨g, 0, none⟩), .pointer (some ⟨g, 2, none⟩), .slice (some ⟨gc, 0, none⟩) cl.length cl.length, .int .i64 ((cl.length : Nat) : Int), .bool true, .bool false, .bool false, .pointer (some ⟨g, 0, none⟩), .pointer (some ⟨g, 0, none⟩), .pointer (some ⟨g, 2, none⟩), .slice (some ⟨gc, 0, none⟩) cl.length cl.length, .int .i64 ((i + 1 : Nat) : Int), .int .i64 ((i : Nat) : Int), .pointer (some ⟨gc, 0 + i * 10, none⟩)]
def lp0_b11 (g : Nat) (gc : Nat) (cl : List C10) (i : Nat) : List Value := (lp0_l9 g gc i) ++ ((lp0_l10 g gc cl i))
def lp0_l12 (g : Nat) (gc : Nat) (i : Nat) (f : Int) (γ1 : Nat → Nat) : List Value := [.pointer (some ⟨g, 0, none⟩), .int .i64 ((i + 1 : Nat) : Int), .int .i64 f, zz, zz, zz, .pointer (some ⟨γ1 0, 0, none⟩), .bool false, .pointer (some ⟨gc, 0 + i * 10, none⟩), .pointer (some ⟨g, 0, none⟩), .int .i64 ((i + 1 : Nat) : Int), .pointer (some ⟨gc, 0 + i * 10, none⟩), .pointer (some ⟨gc, 0 + i * 10, none⟩), .bool false, .bool false, .int .i64 f]
def lp0_b13 (g : Nat) (gc : Nat) (i : Nat) (f : Int) (γ1 : Nat → Nat) : List Value := (lp0_l12 g gc i f γ1) ++ (lp0_l2)
def lp0_l14 (f : Int) : List Value := [.int .i64 f, .int .i64 0, .int .i64 1, zz, zz, zz, .bool false, .int .i64 0, .int .i64 f, .bool false, .bool false, zz, zz, zz, .bool false]
def lp0_l15 : List Value := [.bool false, .bool true, .bool true, .agg #[.int .i64 0, .int .i64 0, .int .i64 0], zz, zz, zz, zz, zz, zz]
def lp0_b16 (g : Nat) (gc : Nat) (i : Nat) (f : Int) (γ1 : Nat → Nat) : List Value := (lp0_l12 g gc i f γ1) ++ (lp0_l15)
set_option maxHeartbeats 8000000 in
set_option maxRecDepth 100000 in
theorem load_f0 {w : World} {g : Nat} {gc : Nat} {At : Option Addr} {ct : Nat} {tl : List H12} {cl : List C10} {Ar : Option Addr} {nr : Nat} {cr : Nat} {i : Nat} {f : Int} (hcl : cl.length ≤ 1000) (hi : i < cl.length) (h : f < 0) (hown : HoldR w [blkA (g, 63, (lp0_c0 gc At ct tl cl Ar nr cr)), rowA 43 10 (.slice (some ⟨gc, 0, none⟩) cl.length cl.length) cl.length (cl.flatMap encT43)]) : Calls Try.prog 16 #[.pointer (some ⟨g, 0, none⟩), .int .i64 ((i + 1 : Nat) : Int), .int .i64 f] w fun e W => ∃ x : Unit, e = .returned (.tuple #[.agg #[.int .i64 0, .int .i64 0, .int .i64 0], .bool false]) ∧ HoldR W ([blkA (g, 63, (lp0_c0 gc At ct tl cl Ar nr cr)), rowA 43 10 (.slice (some ⟨gc, 0, none⟩) cl.length cl.length) cl.length (cl.flatMap encT43)] ++ [oldF w [blkA (g, 63, (lp0_c0 gc At ct tl cl Ar nr cr)), rowA 43 10 (.slice (some ⟨gc, 0, none⟩) cl.length cl.length) cl.length (cl.flatMap encT43)]]) := by
  refine enterF (args := [.pointer (some ⟨g, 0, none⟩), .int .i64 ((i + 1 : Nat) : Int), .int .i64 f]) (fn := Try.f16) (L := [(g, 63, (lp0_c0 gc At ct tl cl Ar nr cr))]) (F0 := [rowA 43 10 (.slice (some ⟨gc, 0, none⟩) cl.length cl.length) cl.length (cl.flatMap encT43)]) rfl (c := bdy Try.f16) (by kernel_rfl) hown ?_
  refine ck 4 [] [] fun γ1 => ⟨⟨kt (bdy Try.f16) [1, 0, 2] [], (lp0_b3 g i f γ1), [(γ1 0, 36, lp0_c4), (g, 63, (lp0_c0 gc At ct tl cl Ar nr cr))]⟩, [], [], by kernel_rfl, .nil, ?_⟩
  refine ci (f := 37) (args := [.pointer (some ⟨g, 0, none⟩), .int .i64 ((i + 1 : Nat) : Int)]) (fn := Try.f37) (c := bdy Try.f37) rfl (fun R2 hR2 => ?_)
  refine ck 17 [(2, 1)] [] fun γ3 => ⟨⟨kt (bdy Try.f37) [1, 0, 0, 16] [], (lp0_b7 g gc cl i), [(γ1 0, 36, lp0_c4), (g, 63, (lp0_c0 gc At ct tl cl Ar nr cr))]⟩, [(2, g)], [], by kernel_rfl, .nil, ?_⟩
  refine ci (f := 38) (args := [.int .i64 ((i + 1 : Nat) : Int), .int .i64 1, .int .i64 ((cl.length : Nat) : Int)]) (fn := Try.f38) (c := bdy Try.f38) rfl (fun R4 hR4 => ?_)
  refine ck 10 [] [(3, .bool true), (7, .bool true)] fun γ5 => ⟨⟨kt (bdy Try.f38) [1, 1] [], (lp0_l8 cl i), [(γ1 0, 36, lp0_c4), (g, 63, (lp0_c0 gc At ct tl cl Ar nr cr))]⟩, [], [Value.bool (decide ((1 : Int) ≤ ((i + 1 : Nat) : Int))) = .bool true, Value.bool (decide ((((i + 1 : Nat) : Int) : Int) ≤ ((cl.length : Nat) : Int))) = .bool true], by kernel_rfl, (.cons (cbT (by omega)) (.cons (cbT (by omega)) .nil)), ?_⟩
  refine crm hR4 (.bool true) [] [] [true, true] ?_
  refine ck 10 [(1, 1)] [(7, .int .i64 ((i : Nat) : Int))] fun γ6 => ⟨⟨kt (bdy Try.f37) [1, 1, 1] [], (lp0_b11 g gc cl i), [(γ1 0, 36, lp0_c4), (g, 63, (lp0_c0 gc At ct tl cl Ar nr cr))]⟩, [(1, g)], [Value.int .i64 (IntKind.wrap .i64 (((i + 1 : Nat) : Int) - 1)) = .int .i64 ((i : Nat) : Int), (0 : Int) ≤ ((i : Nat) : Int) ∧ ((i : Nat) : Int) < ((cl.length : Nat) : Int)], by kernel_rfl, (.cons (congrArg (Value.int .i64) (by rw [IntKind.wrap_i64]; omega)) (.cons ⟨by omega, by omega⟩ .nil)), ?_⟩
  refine crm hR2 (.pointer (some ⟨gc, 0 + i * 10, none⟩)) [] [] [true, true] ?_
  refine ck 5 [] [] fun γ7 => ⟨⟨kt (bdy Try.f16) [1, 1, 0, 0, 4] [], (lp0_b13 g gc i f γ1), [(γ1 0, 36, lp0_c4), (g, 63, (lp0_c0 gc At ct tl cl Ar nr cr))]⟩, [], [], by kernel_rfl, .nil, ?_⟩
  refine ci (f := 38) (args := [.int .i64 f, .int .i64 0, .int .i64 1]) (fn := Try.f38) (c := bdy Try.f38) rfl (fun R8 hR8 => ?_)
  refine ck 10 [] [(3, .bool false)] fun γ9 => ⟨⟨kt (bdy Try.f38) [1, 1] [], (lp0_l14 f), [(γ1 0, 36, lp0_c4), (g, 63, (lp0_c0 gc At ct tl cl Ar nr cr))]⟩, [], [Value.bool (decide ((0 : Int) ≤ f)) = .bool false], by kernel_rfl, (.cons (cbF (by omega)) .nil), ?_⟩
  refine crm hR8 (.bool false) [] [] [true, true] ?_
  refine ck 5 [(3, 0)] [] fun γ10 => ⟨⟨kt (bdy Try.f16) [1, 1, 0, 1, 0, 1] [], (lp0_b16 g gc i f γ1), [(γ1 0, 36, lp0_c4), (g, 63, (lp0_c0 gc At ct tl cl Ar nr cr))]⟩, [(3, γ1 0)], [], by kernel_rfl, .nil, ?_⟩
  refine rtL (.tuple #[.agg #[.int .i64 0, .int .i64 0, .int .i64 0], .bool false]) [(3, 0)] [(3, γ1 0)] ([(γ1 0, 36, lp0_c4), (g, 63, (lp0_c0 gc At ct tl cl Ar nr cr))]) (fun W hW => ?_)
  exact ⟨(), rfl, hW.ix [1, 2, 3] (by decide) rfl⟩
def lp1_c0 (gc : Nat) (At : Option Addr) (ct : Nat) (tl : List H12) (cl : List C10) (Ar : Option Addr) (nr : Nat) (cr : Nat) : List Value := [.slice At tl.length ct, .bool true, .slice (some ⟨gc, 0, none⟩) cl.length cl.length, .slice Ar nr cr]
def lp1_l1 (g : Nat) (i : Nat) (f : Int) (γ1 : Nat → Nat) : List Value := [.pointer (some ⟨g, 0, none⟩), .int .i64 ((i + 1 : Nat) : Int), .int .i64 f, zz, zz, zz, .pointer (some ⟨γ1 0, 0, none⟩), .bool false, zz, .pointer (some ⟨g, 0, none⟩), .int .i64 ((i + 1 : Nat) : Int), zz, zz, zz, zz, zz]
def lp1_l2 : List Value := [zz, zz, zz, zz, zz, zz, zz, zz, zz, zz]
def lp1_b3 (g : Nat) (i : Nat) (f : Int) (γ1 : Nat → Nat) : List Value := (lp1_l1 g i f γ1) ++ (lp1_l2)
def lp1_c4 : List Value := [.int .i64 0, .int .i64 0, .int .i64 0]
def lp1_l5 (g : Nat) (i : Nat) : List Value := [.pointer (some ⟨g, 0, none⟩), .int .i64 ((i + 1 : Nat) : Int), zz, zz, .pointer none, .pointer (some ⟨g, 0, none⟩), .bool false, .bool false, .pointer (some ⟨g, 0, none⟩), .pointer (some ⟨g, 0, none⟩), .pointer (some ⟨g, 1, none⟩), .bool true, .bool false, .bool false, .bool false, .int .i64 ((i + 1 : Nat) : Int)]
def lp1_l6 (g : Nat) (gc : Nat) (cl : List C10) : List Value := [.pointer (some ⟨g, 0, none⟩), .pointer (some ⟨g, 0, none⟩), .pointer (some ⟨g, 2, none⟩), .slice (some ⟨gc, 0, none⟩) cl.length cl.length, .int .i64 ((cl.length : Nat) : Int), zz, zz, zz, zz, zz, zz, zz, zz, zz, zz]
def lp1_b7 (g : Nat) (gc : Nat) (cl : List C10) (i : Nat) : List Value := (lp1_l5 g i) ++ ((lp1_l6 g gc cl))
def lp1_l8 (cl : List C10) (i : Nat) : List Value := [.int .i64 ((i + 1 : Nat) : Int), .int .i64 1, .int .i64 ((cl.length : Nat) : Int), zz, zz, zz, .bool true, .int .i64 1, .int .i64 ((i + 1 : Nat) : Int), .bool true, .bool true, .int .i64 ((i + 1 : Nat) : Int), .int .i64 ((cl.length : Nat) : Int), .bool true, .bool true]
def lp1_l9 (g : Nat) (gc : Nat) (i : Nat) : List Value := [.pointer (some ⟨g, 0, none⟩), .int .i64 ((i + 1 : Nat) : Int), zz, zz, .pointer (some ⟨gc, 0 + i * 10, none⟩), .pointer (some ⟨g, 0, none⟩), .bool false, .bool false, .pointer (some ⟨g, 0, none⟩), .pointer (some ⟨g, 0, none⟩), .pointer (some ⟨g, 1, none⟩), .bool true, .bool false, .bool false, .bool false, .int .i64 ((i + 1 : Nat) : Int)]
def lp1_l10 (g : Nat) (gc : Nat) (cl : List C10) (i : Nat) : List Value := [.pointer (some ⟨g, 0, none⟩), .pointer (some ⟨g, 0, none⟩), .pointer (some ⟨g, 2, none⟩), .slice (some ⟨gc, 0, none⟩) cl.length cl.length, .int .i64 ((cl.length : Nat) : Int), .bool true, .bool false, .bool false, .pointer (some ⟨g, 0, none⟩), .pointer (some ⟨g, 0, none⟩), .pointer (some ⟨g, 2, none⟩), .slice (some ⟨gc, 0, none⟩) cl.length cl.length, .int .i64 ((i + 1 : Nat) : Int), .int .i64 ((i : Nat) : Int), .pointer (some ⟨gc, 0 + i * 10, none⟩)]
def lp1_b11 (g : Nat) (gc : Nat) (cl : List C10) (i : Nat) : List Value := (lp1_l9 g gc i) ++ ((lp1_l10 g gc cl i))
def lp1_l12 (g : Nat) (gc : Nat) (i : Nat) (f : Int) (γ1 : Nat → Nat) : List Value := [.pointer (some ⟨g, 0, none⟩), .int .i64 ((i + 1 : Nat) : Int), .int .i64 f, zz, zz, zz, .pointer (some ⟨γ1 0, 0, none⟩), .bool false, .pointer (some ⟨gc, 0 + i * 10, none⟩), .pointer (some ⟨g, 0, none⟩), .int .i64 ((i + 1 : Nat) : Int), .pointer (some ⟨gc, 0 + i * 10, none⟩), .pointer (some ⟨gc, 0 + i * 10, none⟩), .bool false, .bool false, .int .i64 f]
def lp1_b13 (g : Nat) (gc : Nat) (i : Nat) (f : Int) (γ1 : Nat → Nat) : List Value := (lp1_l12 g gc i f γ1) ++ (lp1_l2)
def lp1_l14 (f : Int) : List Value := [.int .i64 f, .int .i64 0, .int .i64 1, zz, zz, zz, .bool false, .int .i64 0, .int .i64 f, .bool true, .bool true, .int .i64 f, .int .i64 1, .bool false, .bool false]
def lp1_l15 : List Value := [.bool false, .bool true, .bool true, .agg #[.int .i64 0, .int .i64 0, .int .i64 0], zz, zz, zz, zz, zz, zz]
def lp1_b16 (g : Nat) (gc : Nat) (i : Nat) (f : Int) (γ1 : Nat → Nat) : List Value := (lp1_l12 g gc i f γ1) ++ (lp1_l15)
set_option maxHeartbeats 8000000 in
set_option maxRecDepth 100000 in
theorem load_f2 {w : World} {g : Nat} {gc : Nat} {At : Option Addr} {ct : Nat} {tl : List H12} {cl : List C10} {Ar : Option Addr} {nr : Nat} {cr : Nat} {i : Nat} {f : Int} (hcl : cl.length ≤ 1000) (hi : i < cl.length) (h : 1 < f) (hown : HoldR w [blkA (g, 63, (lp1_c0 gc At ct tl cl Ar nr cr)), rowA 43 10 (.slice (some ⟨gc, 0, none⟩) cl.length cl.length) cl.length (cl.flatMap encT43)]) : Calls Try.prog 16 #[.pointer (some ⟨g, 0, none⟩), .int .i64 ((i + 1 : Nat) : Int), .int .i64 f] w fun e W => ∃ x : Unit, e = .returned (.tuple #[.agg #[.int .i64 0, .int .i64 0, .int .i64 0], .bool false]) ∧ HoldR W ([blkA (g, 63, (lp1_c0 gc At ct tl cl Ar nr cr)), rowA 43 10 (.slice (some ⟨gc, 0, none⟩) cl.length cl.length) cl.length (cl.flatMap encT43)] ++ [oldF w [blkA (g, 63, (lp1_c0 gc At ct tl cl Ar nr cr)), rowA 43 10 (.slice (some ⟨gc, 0, none⟩) cl.length cl.length) cl.length (cl.flatMap encT43)]]) := by
  refine enterF (args := [.pointer (some ⟨g, 0, none⟩), .int .i64 ((i + 1 : Nat) : Int), .int .i64 f]) (fn := Try.f16) (L := [(g, 63, (lp1_c0 gc At ct tl cl Ar nr cr))]) (F0 := [rowA 43 10 (.slice (some ⟨gc, 0, none⟩) cl.length cl.length) cl.length (cl.flatMap encT43)]) rfl (c := bdy Try.f16) (by kernel_rfl) hown ?_
  refine ck 4 [] [] fun γ1 => ⟨⟨kt (bdy Try.f16) [1, 0, 2] [], (lp1_b3 g i f γ1), [(γ1 0, 36, lp1_c4), (g, 63, (lp1_c0 gc At ct tl cl Ar nr cr))]⟩, [], [], by kernel_rfl, .nil, ?_⟩
  refine ci (f := 37) (args := [.pointer (some ⟨g, 0, none⟩), .int .i64 ((i + 1 : Nat) : Int)]) (fn := Try.f37) (c := bdy Try.f37) rfl (fun R2 hR2 => ?_)
  refine ck 17 [(2, 1)] [] fun γ3 => ⟨⟨kt (bdy Try.f37) [1, 0, 0, 16] [], (lp1_b7 g gc cl i), [(γ1 0, 36, lp1_c4), (g, 63, (lp1_c0 gc At ct tl cl Ar nr cr))]⟩, [(2, g)], [], by kernel_rfl, .nil, ?_⟩
  refine ci (f := 38) (args := [.int .i64 ((i + 1 : Nat) : Int), .int .i64 1, .int .i64 ((cl.length : Nat) : Int)]) (fn := Try.f38) (c := bdy Try.f38) rfl (fun R4 hR4 => ?_)
  refine ck 10 [] [(3, .bool true), (7, .bool true)] fun γ5 => ⟨⟨kt (bdy Try.f38) [1, 1] [], (lp1_l8 cl i), [(γ1 0, 36, lp1_c4), (g, 63, (lp1_c0 gc At ct tl cl Ar nr cr))]⟩, [], [Value.bool (decide ((1 : Int) ≤ ((i + 1 : Nat) : Int))) = .bool true, Value.bool (decide ((((i + 1 : Nat) : Int) : Int) ≤ ((cl.length : Nat) : Int))) = .bool true], by kernel_rfl, (.cons (cbT (by omega)) (.cons (cbT (by omega)) .nil)), ?_⟩
  refine crm hR4 (.bool true) [] [] [true, true] ?_
  refine ck 10 [(1, 1)] [(7, .int .i64 ((i : Nat) : Int))] fun γ6 => ⟨⟨kt (bdy Try.f37) [1, 1, 1] [], (lp1_b11 g gc cl i), [(γ1 0, 36, lp1_c4), (g, 63, (lp1_c0 gc At ct tl cl Ar nr cr))]⟩, [(1, g)], [Value.int .i64 (IntKind.wrap .i64 (((i + 1 : Nat) : Int) - 1)) = .int .i64 ((i : Nat) : Int), (0 : Int) ≤ ((i : Nat) : Int) ∧ ((i : Nat) : Int) < ((cl.length : Nat) : Int)], by kernel_rfl, (.cons (congrArg (Value.int .i64) (by rw [IntKind.wrap_i64]; omega)) (.cons ⟨by omega, by omega⟩ .nil)), ?_⟩
  refine crm hR2 (.pointer (some ⟨gc, 0 + i * 10, none⟩)) [] [] [true, true] ?_
  refine ck 5 [] [] fun γ7 => ⟨⟨kt (bdy Try.f16) [1, 1, 0, 0, 4] [], (lp1_b13 g gc i f γ1), [(γ1 0, 36, lp1_c4), (g, 63, (lp1_c0 gc At ct tl cl Ar nr cr))]⟩, [], [], by kernel_rfl, .nil, ?_⟩
  refine ci (f := 38) (args := [.int .i64 f, .int .i64 0, .int .i64 1]) (fn := Try.f38) (c := bdy Try.f38) rfl (fun R8 hR8 => ?_)
  refine ck 10 [] [(3, .bool true), (7, .bool false)] fun γ9 => ⟨⟨kt (bdy Try.f38) [1, 1] [], (lp1_l14 f), [(γ1 0, 36, lp1_c4), (g, 63, (lp1_c0 gc At ct tl cl Ar nr cr))]⟩, [], [Value.bool (decide ((0 : Int) ≤ f)) = .bool true, Value.bool (decide ((f : Int) ≤ 1)) = .bool false], by kernel_rfl, (.cons (cbT (by omega)) (.cons (cbF (by omega)) .nil)), ?_⟩
  refine crm hR8 (.bool false) [] [] [true, true] ?_
  refine ck 5 [(3, 0)] [] fun γ10 => ⟨⟨kt (bdy Try.f16) [1, 1, 0, 1, 0, 1] [], (lp1_b16 g gc i f γ1), [(γ1 0, 36, lp1_c4), (g, 63, (lp1_c0 gc At ct tl cl Ar nr cr))]⟩, [(3, γ1 0)], [], by kernel_rfl, .nil, ?_⟩
  refine rtL (.tuple #[.agg #[.int .i64 0, .int .i64 0, .int .i64 0], .bool false]) [(3, 0)] [(3, γ1 0)] ([(γ1 0, 36, lp1_c4), (g, 63, (lp1_c0 gc At ct tl cl Ar nr cr))]) (fun W hW => ?_)
  exact ⟨(), rfl, hW.ix [1, 2, 3] (by decide) rfl⟩
def lq0_c0 (gc : Nat) (At : Option Addr) (ct : Nat) (tl : List H12) (cl : List C10) (Ar : Option Addr) (nr : Nat) (cr : Nat) : List Value := [.slice At tl.length ct, .bool true, .slice (some ⟨gc, 0, none⟩) cl.length cl.length, .slice Ar nr cr]
def lq0_l1 (g : Nat) (i : Nat) (γ1 : Nat → Nat) : List Value := [.pointer (some ⟨g, 0, none⟩), .int .i64 ((i + 1 : Nat) : Int), .int .i64 0, zz, zz, zz, .pointer (some ⟨γ1 0, 0, none⟩), .bool false, zz, .pointer (some ⟨g, 0, none⟩), .int .i64 ((i + 1 : Nat) : Int), zz, zz, zz, zz, zz]
def lq0_l2 : List Value := [zz, zz, zz, zz, zz, zz, zz, zz, zz, zz]
def lq0_b3 (g : Nat) (i : Nat) (γ1 : Nat → Nat) : List Value := (lq0_l1 g i γ1) ++ (lq0_l2)
def lq0_c4 : List Value := [.int .i64 0, .int .i64 0, .int .i64 0]
def lq0_l5 (g : Nat) (i : Nat) : List Value := [.pointer (some ⟨g, 0, none⟩), .int .i64 ((i + 1 : Nat) : Int), zz, zz, .pointer none, .pointer (some ⟨g, 0, none⟩), .bool false, .bool false, .pointer (some ⟨g, 0, none⟩), .pointer (some ⟨g, 0, none⟩), .pointer (some ⟨g, 1, none⟩), .bool true, .bool false, .bool false, .bool false, .int .i64 ((i + 1 : Nat) : Int)]
def lq0_l6 (g : Nat) (gc : Nat) (cl : List C10) : List Value := [.pointer (some ⟨g, 0, none⟩), .pointer (some ⟨g, 0, none⟩), .pointer (some ⟨g, 2, none⟩), .slice (some ⟨gc, 0, none⟩) cl.length cl.length, .int .i64 ((cl.length : Nat) : Int), zz, zz, zz, zz, zz, zz, zz, zz, zz, zz]
def lq0_b7 (g : Nat) (gc : Nat) (cl : List C10) (i : Nat) : List Value := (lq0_l5 g i) ++ ((lq0_l6 g gc cl))
def lq0_l8 (cl : List C10) (i : Nat) : List Value := [.int .i64 ((i + 1 : Nat) : Int), .int .i64 1, .int .i64 ((cl.length : Nat) : Int), zz, zz, zz, .bool true, .int .i64 1, .int .i64 ((i + 1 : Nat) : Int), .bool true, .bool true, .int .i64 ((i + 1 : Nat) : Int), .int .i64 ((cl.length : Nat) : Int), .bool true, .bool true]
def lq0_l9 (g : Nat) (gc : Nat) (i : Nat) : List Value := [.pointer (some ⟨g, 0, none⟩), .int .i64 ((i + 1 : Nat) : Int), zz, zz, .pointer (some ⟨gc, 0 + i * 10, none⟩), .pointer (some ⟨g, 0, none⟩), .bool false, .bool false, .pointer (some ⟨g, 0, none⟩), .pointer (some ⟨g, 0, none⟩), .pointer (some ⟨g, 1, none⟩), .bool true, .bool false, .bool false, .bool false, .int .i64 ((i + 1 : Nat) : Int)]
def lq0_l10 (g : Nat) (gc : Nat) (cl : List C10) (i : Nat) : List Value := [.pointer (some ⟨g, 0, none⟩), .pointer (some ⟨g, 0, none⟩), .pointer (some ⟨g, 2, none⟩), .slice (some ⟨gc, 0, none⟩) cl.length cl.length, .int .i64 ((cl.length : Nat) : Int), .bool true, .bool false, .bool false, .pointer (some ⟨g, 0, none⟩), .pointer (some ⟨g, 0, none⟩), .pointer (some ⟨g, 2, none⟩), .slice (some ⟨gc, 0, none⟩) cl.length cl.length, .int .i64 ((i + 1 : Nat) : Int), .int .i64 ((i : Nat) : Int), .pointer (some ⟨gc, 0 + i * 10, none⟩)]
def lq0_b11 (g : Nat) (gc : Nat) (cl : List C10) (i : Nat) : List Value := (lq0_l9 g gc i) ++ ((lq0_l10 g gc cl i))
def lq0_l12 (g : Nat) (gc : Nat) (i : Nat) (γ1 : Nat → Nat) : List Value := [.pointer (some ⟨g, 0, none⟩), .int .i64 ((i + 1 : Nat) : Int), .int .i64 0, zz, zz, zz, .pointer (some ⟨γ1 0, 0, none⟩), .bool false, .pointer (some ⟨gc, 0 + i * 10, none⟩), .pointer (some ⟨g, 0, none⟩), .int .i64 ((i + 1 : Nat) : Int), .pointer (some ⟨gc, 0 + i * 10, none⟩), .pointer (some ⟨gc, 0 + i * 10, none⟩), .bool false, .bool false, .int .i64 0]
def lq0_b13 (g : Nat) (gc : Nat) (i : Nat) (γ1 : Nat → Nat) : List Value := (lq0_l12 g gc i γ1) ++ (lq0_l2)
def lq0_l14 : List Value := [.int .i64 0, .int .i64 0, .int .i64 1, zz, zz, zz, .bool true, .int .i64 0, .int .i64 0, .bool true, .bool true, .int .i64 0, .int .i64 1, .bool true, .bool true]
def lq0_l15 (gc : Nat) (i : Nat) : List Value := [.bool true, .bool false, .bool false, zz, .pointer (some ⟨gc, 0 + i * 10, none⟩), .int .i64 0, .pointer (some ⟨gc, 0 + i * 10, none⟩), .pointer (some ⟨gc, 0 + i * 10 + 4, none⟩), .pointer (some ⟨gc, 0 + i * 10 + 4, none⟩), zz]
def lq0_b16 (g : Nat) (gc : Nat) (i : Nat) (γ1 : Nat → Nat) : List Value := (lq0_l12 g gc i γ1) ++ ((lq0_l15 gc i))
def lq0_c17 (cl : List C10) (i : Nat) : List Value := [.int .i64 ((cl[i]!).2.2.2.2.1), .int .i64 ((cl[i]!).2.2.2.2.2.1), .int .i64 ((cl[i]!).2.2.2.2.2.2.1)]
set_option maxHeartbeats 8000000 in
set_option maxRecDepth 100000 in
theorem load_k0 {w : World} {g : Nat} {gc : Nat} {At : Option Addr} {ct : Nat} {tl : List H12} {cl : List C10} {Ar : Option Addr} {nr : Nat} {cr : Nat} {i : Nat} (hcl : cl.length ≤ 1000) (hi : i < cl.length) (hown : HoldR w [blkA (g, 63, (lq0_c0 gc At ct tl cl Ar nr cr)), rowA 43 10 (.slice (some ⟨gc, 0, none⟩) cl.length cl.length) cl.length (cl.flatMap encT43)]) : Calls Try.prog 16 #[.pointer (some ⟨g, 0, none⟩), .int .i64 ((i + 1 : Nat) : Int), .int .i64 0] w fun e W => ∃ x : Unit, e = .returned (.tuple #[.agg #[.int .i64 ((cl[i]!).2.2.2.2.1), .int .i64 ((cl[i]!).2.2.2.2.2.1), .int .i64 ((cl[i]!).2.2.2.2.2.2.1)], .bool true]) ∧ HoldR W ([blkA (g, 63, (lq0_c0 gc At ct tl cl Ar nr cr)), rowA 43 10 (.slice (some ⟨gc, 0, none⟩) cl.length cl.length) cl.length (cl.flatMap encT43)] ++ [oldF w [blkA (g, 63, (lq0_c0 gc At ct tl cl Ar nr cr)), rowA 43 10 (.slice (some ⟨gc, 0, none⟩) cl.length cl.length) cl.length (cl.flatMap encT43)]]) := by
  refine enterF (args := [.pointer (some ⟨g, 0, none⟩), .int .i64 ((i + 1 : Nat) : Int), .int .i64 0]) (fn := Try.f16) (L := [(g, 63, (lq0_c0 gc At ct tl cl Ar nr cr))]) (F0 := [rowA 43 10 (.slice (some ⟨gc, 0, none⟩) cl.length cl.length) cl.length (cl.flatMap encT43)]) rfl (c := bdy Try.f16) (by kernel_rfl) hown ?_
  refine ck 4 [] [] fun γ1 => ⟨⟨kt (bdy Try.f16) [1, 0, 2] [], (lq0_b3 g i γ1), [(γ1 0, 36, lq0_c4), (g, 63, (lq0_c0 gc At ct tl cl Ar nr cr))]⟩, [], [], by kernel_rfl, .nil, ?_⟩
  refine ci (f := 37) (args := [.pointer (some ⟨g, 0, none⟩), .int .i64 ((i + 1 : Nat) : Int)]) (fn := Try.f37) (c := bdy Try.f37) rfl (fun R2 hR2 => ?_)
  refine ck 17 [(2, 1)] [] fun γ3 => ⟨⟨kt (bdy Try.f37) [1, 0, 0, 16] [], (lq0_b7 g gc cl i), [(γ1 0, 36, lq0_c4), (g, 63, (lq0_c0 gc At ct tl cl Ar nr cr))]⟩, [(2, g)], [], by kernel_rfl, .nil, ?_⟩
  refine ci (f := 38) (args := [.int .i64 ((i + 1 : Nat) : Int), .int .i64 1, .int .i64 ((cl.length : Nat) : Int)]) (fn := Try.f38) (c := bdy Try.f38) rfl (fun R4 hR4 => ?_)
  refine ck 10 [] [(3, .bool true), (7, .bool true)] fun γ5 => ⟨⟨kt (bdy Try.f38) [1, 1] [], (lq0_l8 cl i), [(γ1 0, 36, lq0_c4), (g, 63, (lq0_c0 gc At ct tl cl Ar nr cr))]⟩, [], [Value.bool (decide ((1 : Int) ≤ ((i + 1 : Nat) : Int))) = .bool true, Value.bool (decide ((((i + 1 : Nat) : Int) : Int) ≤ ((cl.length : Nat) : Int))) = .bool true], by kernel_rfl, (.cons (cbT (by omega)) (.cons (cbT (by omega)) .nil)), ?_⟩
  refine crm hR4 (.bool true) [] [] [true, true] ?_
  refine ck 10 [(1, 1)] [(7, .int .i64 ((i : Nat) : Int))] fun γ6 => ⟨⟨kt (bdy Try.f37) [1, 1, 1] [], (lq0_b11 g gc cl i), [(γ1 0, 36, lq0_c4), (g, 63, (lq0_c0 gc At ct tl cl Ar nr cr))]⟩, [(1, g)], [Value.int .i64 (IntKind.wrap .i64 (((i + 1 : Nat) : Int) - 1)) = .int .i64 ((i : Nat) : Int), (0 : Int) ≤ ((i : Nat) : Int) ∧ ((i : Nat) : Int) < ((cl.length : Nat) : Int)], by kernel_rfl, (.cons (congrArg (Value.int .i64) (by rw [IntKind.wrap_i64]; omega)) (.cons ⟨by omega, by omega⟩ .nil)), ?_⟩
  refine crm hR2 (.pointer (some ⟨gc, 0 + i * 10, none⟩)) [] [] [true, true] ?_
  refine ck 5 [] [] fun γ7 => ⟨⟨kt (bdy Try.f16) [1, 1, 0, 0, 4] [], (lq0_b13 g gc i γ1), [(γ1 0, 36, lq0_c4), (g, 63, (lq0_c0 gc At ct tl cl Ar nr cr))]⟩, [], [], by kernel_rfl, .nil, ?_⟩
  refine ci (f := 38) (args := [.int .i64 0, .int .i64 0, .int .i64 1]) (fn := Try.f38) (c := bdy Try.f38) rfl (fun R8 hR8 => ?_)
  refine ck 10 [] [] fun γ9 => ⟨⟨kt (bdy Try.f38) [1, 1] [], lq0_l14, [(γ1 0, 36, lq0_c4), (g, 63, (lq0_c0 gc At ct tl cl Ar nr cr))]⟩, [], [], by kernel_rfl, .nil, ?_⟩
  refine crm hR8 (.bool true) [] [] [true, true] ?_
  refine ck 7 [] [] fun γ10 => ⟨⟨kt (bdy Try.f16) [1, 1, 1, 0, 5] [], (lq0_b16 g gc i γ1), [(γ1 0, 36, lq0_c4), (g, 63, (lq0_c0 gc At ct tl cl Ar nr cr))]⟩, [], [], by kernel_rfl, .nil, ?_⟩
  refine ldr (n := 3) (row := true) [.int .i64 ((cl[i]!).2.2.2.2.1), .int .i64 ((cl[i]!).2.2.2.2.2.1), .int .i64 ((cl[i]!).2.2.2.2.2.2.1)] (fun W hW => ((Rd.atE (own_rd encT43_len (hW.at 0 rfl)) rfl (by first | omega | (simp only [List.length_set]; omega)))).ld (i := i) (by first | omega | simp) 4 [.int .i64 ((cl[i]!).2.2.2.2.1), .int .i64 ((cl[i]!).2.2.2.2.2.1), .int .i64 ((cl[i]!).2.2.2.2.2.2.1)] rfl) ?_
  refine ck 2 [(3, 0)] [] fun γ11 => ⟨⟨kt (bdy Try.f16) [1, 1, 1, 1] [], upv (lq0_b16 g gc i γ1) [(7, .bool true), (25, .agg #[.int .i64 ((cl[i]!).2.2.2.2.1), .int .i64 ((cl[i]!).2.2.2.2.2.1), .int .i64 ((cl[i]!).2.2.2.2.2.2.1)])], [(γ1 0, 36, (lq0_c17 cl i)), (g, 63, (lq0_c0 gc At ct tl cl Ar nr cr))]⟩, [(3, γ1 0)], [], by kernel_rfl, .nil, ?_⟩
  refine rtL (.tuple #[.agg #[.int .i64 ((cl[i]!).2.2.2.2.1), .int .i64 ((cl[i]!).2.2.2.2.2.1), .int .i64 ((cl[i]!).2.2.2.2.2.2.1)], .bool true]) [(3, 0)] [(3, γ1 0)] ([(γ1 0, 36, (lq0_c17 cl i)), (g, 63, (lq0_c0 gc At ct tl cl Ar nr cr))]) (fun W hW => ?_)
  exact ⟨(), rfl, hW.ix [1, 2, 3] (by decide) rfl⟩
def lq1_c0 (gc : Nat) (At : Option Addr) (ct : Nat) (tl : List H12) (cl : List C10) (Ar : Option Addr) (nr : Nat) (cr : Nat) : List Value := [.slice At tl.length ct, .bool true, .slice (some ⟨gc, 0, none⟩) cl.length cl.length, .slice Ar nr cr]
def lq1_l1 (g : Nat) (i : Nat) (γ1 : Nat → Nat) : List Value := [.pointer (some ⟨g, 0, none⟩), .int .i64 ((i + 1 : Nat) : Int), .int .i64 1, zz, zz, zz, .pointer (some ⟨γ1 0, 0, none⟩), .bool false, zz, .pointer (some ⟨g, 0, none⟩), .int .i64 ((i + 1 : Nat) : Int), zz, zz, zz, zz, zz]
def lq1_l2 : List Value := [zz, zz, zz, zz, zz, zz, zz, zz, zz, zz]
def lq1_b3 (g : Nat) (i : Nat) (γ1 : Nat → Nat) : List Value := (lq1_l1 g i γ1) ++ (lq1_l2)
def lq1_c4 : List Value := [.int .i64 0, .int .i64 0, .int .i64 0]
def lq1_l5 (g : Nat) (i : Nat) : List Value := [.pointer (some ⟨g, 0, none⟩), .int .i64 ((i + 1 : Nat) : Int), zz, zz, .pointer none, .pointer (some ⟨g, 0, none⟩), .bool false, .bool false, .pointer (some ⟨g, 0, none⟩), .pointer (some ⟨g, 0, none⟩), .pointer (some ⟨g, 1, none⟩), .bool true, .bool false, .bool false, .bool false, .int .i64 ((i + 1 : Nat) : Int)]
def lq1_l6 (g : Nat) (gc : Nat) (cl : List C10) : List Value := [.pointer (some ⟨g, 0, none⟩), .pointer (some ⟨g, 0, none⟩), .pointer (some ⟨g, 2, none⟩), .slice (some ⟨gc, 0, none⟩) cl.length cl.length, .int .i64 ((cl.length : Nat) : Int), zz, zz, zz, zz, zz, zz, zz, zz, zz, zz]
def lq1_b7 (g : Nat) (gc : Nat) (cl : List C10) (i : Nat) : List Value := (lq1_l5 g i) ++ ((lq1_l6 g gc cl))
def lq1_l8 (cl : List C10) (i : Nat) : List Value := [.int .i64 ((i + 1 : Nat) : Int), .int .i64 1, .int .i64 ((cl.length : Nat) : Int), zz, zz, zz, .bool true, .int .i64 1, .int .i64 ((i + 1 : Nat) : Int), .bool true, .bool true, .int .i64 ((i + 1 : Nat) : Int), .int .i64 ((cl.length : Nat) : Int), .bool true, .bool true]
def lq1_l9 (g : Nat) (gc : Nat) (i : Nat) : List Value := [.pointer (some ⟨g, 0, none⟩), .int .i64 ((i + 1 : Nat) : Int), zz, zz, .pointer (some ⟨gc, 0 + i * 10, none⟩), .pointer (some ⟨g, 0, none⟩), .bool false, .bool false, .pointer (some ⟨g, 0, none⟩), .pointer (some ⟨g, 0, none⟩), .pointer (some ⟨g, 1, none⟩), .bool true, .bool false, .bool false, .bool false, .int .i64 ((i + 1 : Nat) : Int)]
def lq1_l10 (g : Nat) (gc : Nat) (cl : List C10) (i : Nat) : List Value := [.pointer (some ⟨g, 0, none⟩), .pointer (some ⟨g, 0, none⟩), .pointer (some ⟨g, 2, none⟩), .slice (some ⟨gc, 0, none⟩) cl.length cl.length, .int .i64 ((cl.length : Nat) : Int), .bool true, .bool false, .bool false, .pointer (some ⟨g, 0, none⟩), .pointer (some ⟨g, 0, none⟩), .pointer (some ⟨g, 2, none⟩), .slice (some ⟨gc, 0, none⟩) cl.length cl.length, .int .i64 ((i + 1 : Nat) : Int), .int .i64 ((i : Nat) : Int), .pointer (some ⟨gc, 0 + i * 10, none⟩)]
def lq1_b11 (g : Nat) (gc : Nat) (cl : List C10) (i : Nat) : List Value := (lq1_l9 g gc i) ++ ((lq1_l10 g gc cl i))
def lq1_l12 (g : Nat) (gc : Nat) (i : Nat) (γ1 : Nat → Nat) : List Value := [.pointer (some ⟨g, 0, none⟩), .int .i64 ((i + 1 : Nat) : Int), .int .i64 1, zz, zz, zz, .pointer (some ⟨γ1 0, 0, none⟩), .bool false, .pointer (some ⟨gc, 0 + i * 10, none⟩), .pointer (some ⟨g, 0, none⟩), .int .i64 ((i + 1 : Nat) : Int), .pointer (some ⟨gc, 0 + i * 10, none⟩), .pointer (some ⟨gc, 0 + i * 10, none⟩), .bool false, .bool false, .int .i64 1]
def lq1_b13 (g : Nat) (gc : Nat) (i : Nat) (γ1 : Nat → Nat) : List Value := (lq1_l12 g gc i γ1) ++ (lq1_l2)
def lq1_l14 : List Value := [.int .i64 1, .int .i64 0, .int .i64 1, zz, zz, zz, .bool true, .int .i64 0, .int .i64 1, .bool true, .bool true, .int .i64 1, .int .i64 1, .bool true, .bool true]
def lq1_l15 (gc : Nat) (i : Nat) : List Value := [.bool true, .bool false, .bool false, zz, .pointer (some ⟨gc, 0 + i * 10, none⟩), .int .i64 1, .pointer (some ⟨gc, 0 + i * 10, none⟩), .pointer (some ⟨gc, 0 + i * 10 + 4, none⟩), .pointer (some ⟨gc, 0 + i * 10 + 7, none⟩), zz]
def lq1_b16 (g : Nat) (gc : Nat) (i : Nat) (γ1 : Nat → Nat) : List Value := (lq1_l12 g gc i γ1) ++ ((lq1_l15 gc i))
def lq1_c17 (cl : List C10) (i : Nat) : List Value := [.int .i64 ((cl[i]!).2.2.2.2.2.2.2.1), .int .i64 ((cl[i]!).2.2.2.2.2.2.2.2.1), .int .i64 ((cl[i]!).2.2.2.2.2.2.2.2.2)]
set_option maxHeartbeats 8000000 in
set_option maxRecDepth 100000 in
theorem load_k1 {w : World} {g : Nat} {gc : Nat} {At : Option Addr} {ct : Nat} {tl : List H12} {cl : List C10} {Ar : Option Addr} {nr : Nat} {cr : Nat} {i : Nat} (hcl : cl.length ≤ 1000) (hi : i < cl.length) (hown : HoldR w [blkA (g, 63, (lq1_c0 gc At ct tl cl Ar nr cr)), rowA 43 10 (.slice (some ⟨gc, 0, none⟩) cl.length cl.length) cl.length (cl.flatMap encT43)]) : Calls Try.prog 16 #[.pointer (some ⟨g, 0, none⟩), .int .i64 ((i + 1 : Nat) : Int), .int .i64 1] w fun e W => ∃ x : Unit, e = .returned (.tuple #[.agg #[.int .i64 ((cl[i]!).2.2.2.2.2.2.2.1), .int .i64 ((cl[i]!).2.2.2.2.2.2.2.2.1), .int .i64 ((cl[i]!).2.2.2.2.2.2.2.2.2)], .bool true]) ∧ HoldR W ([blkA (g, 63, (lq1_c0 gc At ct tl cl Ar nr cr)), rowA 43 10 (.slice (some ⟨gc, 0, none⟩) cl.length cl.length) cl.length (cl.flatMap encT43)] ++ [oldF w [blkA (g, 63, (lq1_c0 gc At ct tl cl Ar nr cr)), rowA 43 10 (.slice (some ⟨gc, 0, none⟩) cl.length cl.length) cl.length (cl.flatMap encT43)]]) := by
  refine enterF (args := [.pointer (some ⟨g, 0, none⟩), .int .i64 ((i + 1 : Nat) : Int), .int .i64 1]) (fn := Try.f16) (L := [(g, 63, (lq1_c0 gc At ct tl cl Ar nr cr))]) (F0 := [rowA 43 10 (.slice (some ⟨gc, 0, none⟩) cl.length cl.length) cl.length (cl.flatMap encT43)]) rfl (c := bdy Try.f16) (by kernel_rfl) hown ?_
  refine ck 4 [] [] fun γ1 => ⟨⟨kt (bdy Try.f16) [1, 0, 2] [], (lq1_b3 g i γ1), [(γ1 0, 36, lq1_c4), (g, 63, (lq1_c0 gc At ct tl cl Ar nr cr))]⟩, [], [], by kernel_rfl, .nil, ?_⟩
  refine ci (f := 37) (args := [.pointer (some ⟨g, 0, none⟩), .int .i64 ((i + 1 : Nat) : Int)]) (fn := Try.f37) (c := bdy Try.f37) rfl (fun R2 hR2 => ?_)
  refine ck 17 [(2, 1)] [] fun γ3 => ⟨⟨kt (bdy Try.f37) [1, 0, 0, 16] [], (lq1_b7 g gc cl i), [(γ1 0, 36, lq1_c4), (g, 63, (lq1_c0 gc At ct tl cl Ar nr cr))]⟩, [(2, g)], [], by kernel_rfl, .nil, ?_⟩
  refine ci (f := 38) (args := [.int .i64 ((i + 1 : Nat) : Int), .int .i64 1, .int .i64 ((cl.length : Nat) : Int)]) (fn := Try.f38) (c := bdy Try.f38) rfl (fun R4 hR4 => ?_)
  refine ck 10 [] [(3, .bool true), (7, .bool true)] fun γ5 => ⟨⟨kt (bdy Try.f38) [1, 1] [], (lq1_l8 cl i), [(γ1 0, 36, lq1_c4), (g, 63, (lq1_c0 gc At ct tl cl Ar nr cr))]⟩, [], [Value.bool (decide ((1 : Int) ≤ ((i + 1 : Nat) : Int))) = .bool true, Value.bool (decide ((((i + 1 : Nat) : Int) : Int) ≤ ((cl.length : Nat) : Int))) = .bool true], by kernel_rfl, (.cons (cbT (by omega)) (.cons (cbT (by omega)) .nil)), ?_⟩
  refine crm hR4 (.bool true) [] [] [true, true] ?_
  refine ck 10 [(1, 1)] [(7, .int .i64 ((i : Nat) : Int))] fun γ6 => ⟨⟨kt (bdy Try.f37) [1, 1, 1] [], (lq1_b11 g gc cl i), [(γ1 0, 36, lq1_c4), (g, 63, (lq1_c0 gc At ct tl cl Ar nr cr))]⟩, [(1, g)], [Value.int .i64 (IntKind.wrap .i64 (((i + 1 : Nat) : Int) - 1)) = .int .i64 ((i : Nat) : Int), (0 : Int) ≤ ((i : Nat) : Int) ∧ ((i : Nat) : Int) < ((cl.length : Nat) : Int)], by kernel_rfl, (.cons (congrArg (Value.int .i64) (by rw [IntKind.wrap_i64]; omega)) (.cons ⟨by omega, by omega⟩ .nil)), ?_⟩
  refine crm hR2 (.pointer (some ⟨gc, 0 + i * 10, none⟩)) [] [] [true, true] ?_
  refine ck 5 [] [] fun γ7 => ⟨⟨kt (bdy Try.f16) [1, 1, 0, 0, 4] [], (lq1_b13 g gc i γ1), [(γ1 0, 36, lq1_c4), (g, 63, (lq1_c0 gc At ct tl cl Ar nr cr))]⟩, [], [], by kernel_rfl, .nil, ?_⟩
  refine ci (f := 38) (args := [.int .i64 1, .int .i64 0, .int .i64 1]) (fn := Try.f38) (c := bdy Try.f38) rfl (fun R8 hR8 => ?_)
  refine ck 10 [] [] fun γ9 => ⟨⟨kt (bdy Try.f38) [1, 1] [], lq1_l14, [(γ1 0, 36, lq1_c4), (g, 63, (lq1_c0 gc At ct tl cl Ar nr cr))]⟩, [], [], by kernel_rfl, .nil, ?_⟩
  refine crm hR8 (.bool true) [] [] [true, true] ?_
  refine ck 7 [] [] fun γ10 => ⟨⟨kt (bdy Try.f16) [1, 1, 1, 0, 5] [], (lq1_b16 g gc i γ1), [(γ1 0, 36, lq1_c4), (g, 63, (lq1_c0 gc At ct tl cl Ar nr cr))]⟩, [], [], by kernel_rfl, .nil, ?_⟩
  refine ldr (n := 3) (row := true) [.int .i64 ((cl[i]!).2.2.2.2.2.2.2.1), .int .i64 ((cl[i]!).2.2.2.2.2.2.2.2.1), .int .i64 ((cl[i]!).2.2.2.2.2.2.2.2.2)] (fun W hW => ((Rd.atE (own_rd encT43_len (hW.at 0 rfl)) rfl (by first | omega | (simp only [List.length_set]; omega)))).ld (i := i) (by first | omega | simp) 7 [.int .i64 ((cl[i]!).2.2.2.2.2.2.2.1), .int .i64 ((cl[i]!).2.2.2.2.2.2.2.2.1), .int .i64 ((cl[i]!).2.2.2.2.2.2.2.2.2)] rfl) ?_
  refine ck 2 [(3, 0)] [] fun γ11 => ⟨⟨kt (bdy Try.f16) [1, 1, 1, 1] [], upv (lq1_b16 g gc i γ1) [(7, .bool true), (25, .agg #[.int .i64 ((cl[i]!).2.2.2.2.2.2.2.1), .int .i64 ((cl[i]!).2.2.2.2.2.2.2.2.1), .int .i64 ((cl[i]!).2.2.2.2.2.2.2.2.2)])], [(γ1 0, 36, (lq1_c17 cl i)), (g, 63, (lq1_c0 gc At ct tl cl Ar nr cr))]⟩, [(3, γ1 0)], [], by kernel_rfl, .nil, ?_⟩
  refine rtL (.tuple #[.agg #[.int .i64 ((cl[i]!).2.2.2.2.2.2.2.1), .int .i64 ((cl[i]!).2.2.2.2.2.2.2.2.1), .int .i64 ((cl[i]!).2.2.2.2.2.2.2.2.2)], .bool true]) [(3, 0)] [(3, γ1 0)] ([(γ1 0, 36, (lq1_c17 cl i)), (g, 63, (lq1_c0 gc At ct tl cl Ar nr cr))]) (fun W hW => ?_)
  exact ⟨(), rfl, hW.ix [1, 2, 3] (by decide) rfl⟩
theorem loadn_is {w : World} {g gc n : Nat} {At : Option Addr} {ct : Nat} {tl : List H12} {cl : List C10} {Ar : Option Addr} {nr cr : Nat} (hn : cl.length = n) (hcl : n ≤ 1000) (cell f : Int) (hown : HoldR w (cparts g gc n At ct tl cl Ar nr cr)) : Calls Try.prog 16 #[.pointer (some ⟨g, 0, none⟩), .int .i64 cell, .int .i64 f] w fun e W => ∃ x : Unit, e = .returned (.tuple #[.agg #[.int .i64 (ldF cl cell f).1.1, .int .i64 (ldF cl cell f).1.2.1, .int .i64 (ldF cl cell f).1.2.2], .bool (ldF cl cell f).2]) ∧ HoldR W (cparts g gc n At ct tl cl Ar nr cr ++ [oldF w (cparts g gc n At ct tl cl Ar nr cr)]) := by
  subst hn
  by_cases hc : thr cl cell
  · obtain ⟨i, hi, rfl⟩ : ∃ i : Nat, i < cl.length ∧ cell = ((i + 1 : Nat) : Int) := ⟨(cell - 1).toNat, by unfold thr at hc; omega, by unfold thr at hc; omega⟩
    unfold ldF
    rw [cell_i]
    by_cases h1 : f = 0
    · subst h1
      rw [if_pos ⟨hc, rfl⟩]
      exact load_k0 hcl hi hown
    · by_cases h2 : f = 1
      · subst h2
        rw [if_neg (fun h => h1 h.2), if_pos ⟨hc, rfl⟩]
        exact load_k1 hcl hi hown
      · rw [if_neg (fun h => h1 h.2), if_neg (fun h => h2 h.2)]
        by_cases h3 : f < 0
        · exact load_f0 hcl hi h3 hown
        · exact load_f2 hcl hi (by omega) hown
  · unfold ldF
    rw [if_neg (fun h => hc h.1), if_neg (fun h => hc h.1)]
    by_cases h1 : cell < 1
    · exact load_lo h1 hown
    · exact load_hi ⟨by omega, by unfold thr at hc; omega⟩ hown
end Go.Proofs.Ytbijkflfphppgaa.Sr
