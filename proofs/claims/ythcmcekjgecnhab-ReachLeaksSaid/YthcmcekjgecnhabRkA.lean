/- Keys, one behind the other. No condition beside those that each theorem names. -/
import Derived.Test.YthcmcekjgecnhabReH
namespace Go.Proofs.Ythcmcekjgecnhab.Sr
open Go.RowKit Go.Proofs.YthcmcekjgecnhabM.Mach
set_option linter.unusedVariables false
set_option linter.unusedSimpArgs false
abbrev P3 := Int × Int × Int
def cmpF (a b : Int) : Int := if a < b then -1 else if b < a then 1 else 0
def ltP (x y : P3) : Bool := decide (x.2.1 < y.2.1 ∨ (x.2.1 = y.2.1 ∧ x.2.2 < y.2.2))
def ordF (x y : P3) : Int := if ltP x y then -1 else if ltP y x then 1 else 0
def cmp_raw_0_l0 (a : Int) (b : Int) : List Value := [.int .i64 a, .int .i64 b, zz, zz, .int .i64 0, zz, zz, .int .i64 a, zz, zz, zz, zz, zz, zz, zz, zz]
def cmp_raw_0_l1 : List Value := [zz, zz, zz, zz]
def cmp_raw_0_b2 (a : Int) (b : Int) : List Value := (cmp_raw_0_l0 a b) ++ (cmp_raw_0_l1)
def cmp_raw_0_l3 (a : Int) : List Value := [.int .i64 a, zz, .bool false, .int .i64 a, .int .i64 a, .bool false]
def cmp_raw_0_l4 (a : Int) (b : Int) : List Value := [.int .i64 a, .int .i64 b, zz, zz, .int .i64 0, .bool false, zz, .int .i64 a, .bool false, .int .i64 b, zz, zz, zz, zz, zz, zz]
def cmp_raw_0_b5 (a : Int) (b : Int) : List Value := (cmp_raw_0_l4 a b) ++ (cmp_raw_0_l1)
def cmp_raw_0_l6 (b : Int) : List Value := [.int .i64 b, zz, .bool false, .int .i64 b, .int .i64 b, .bool false]
def cmp_raw_0_l7 (a : Int) (b : Int) : List Value := [.int .i64 a, .int .i64 b, zz, zz, .int .i64 (-1), .bool false, .bool false, .int .i64 a, .bool false, .int .i64 b, .bool false, .bool false, zz, .bool false, .int .i64 a, .int .i64 b]
def cmp_raw_0_l8 : List Value := [.bool true, zz, zz, zz]
def cmp_raw_0_b9 (a : Int) (b : Int) : List Value := (cmp_raw_0_l7 a b) ++ (cmp_raw_0_l8)
def cmp_raw_1_l0 (a : Int) (b : Int) : List Value := [.int .i64 a, .int .i64 b, zz, zz, .int .i64 0, zz, zz, .int .i64 a, zz, zz, zz, zz, zz, zz, zz, zz]
def cmp_raw_1_l1 : List Value := [zz, zz, zz, zz]
def cmp_raw_1_b2 (a : Int) (b : Int) : List Value := (cmp_raw_1_l0 a b) ++ (cmp_raw_1_l1)
def cmp_raw_1_l3 (a : Int) : List Value := [.int .i64 a, zz, .bool false, .int .i64 a, .int .i64 a, .bool false]
def cmp_raw_1_l4 (a : Int) (b : Int) : List Value := [.int .i64 a, .int .i64 b, zz, zz, .int .i64 0, .bool false, zz, .int .i64 a, .bool false, .int .i64 b, zz, zz, zz, zz, zz, zz]
def cmp_raw_1_b5 (a : Int) (b : Int) : List Value := (cmp_raw_1_l4 a b) ++ (cmp_raw_1_l1)
def cmp_raw_1_l6 (b : Int) : List Value := [.int .i64 b, zz, .bool false, .int .i64 b, .int .i64 b, .bool false]
def cmp_raw_1_l7 (a : Int) (b : Int) : List Value := [.int .i64 a, .int .i64 b, zz, zz, .int .i64 1, .bool false, .bool false, .int .i64 a, .bool false, .int .i64 b, .bool false, .bool false, zz, .bool false, .int .i64 a, .int .i64 b]
def cmp_raw_1_l8 (a : Int) (b : Int) : List Value := [.bool false, .int .i64 a, .int .i64 b, .bool true]
def cmp_raw_1_b9 (a : Int) (b : Int) : List Value := (cmp_raw_1_l7 a b) ++ ((cmp_raw_1_l8 a b))
def cmp_raw_2_l0 (a : Int) (b : Int) : List Value := [.int .i64 a, .int .i64 b, zz, zz, .int .i64 0, zz, zz, .int .i64 a, zz, zz, zz, zz, zz, zz, zz, zz]
def cmp_raw_2_l1 : List Value := [zz, zz, zz, zz]
def cmp_raw_2_b2 (a : Int) (b : Int) : List Value := (cmp_raw_2_l0 a b) ++ (cmp_raw_2_l1)
def cmp_raw_2_l3 (a : Int) : List Value := [.int .i64 a, zz, .bool false, .int .i64 a, .int .i64 a, .bool false]
def cmp_raw_2_l4 (a : Int) (b : Int) : List Value := [.int .i64 a, .int .i64 b, zz, zz, .int .i64 0, .bool false, zz, .int .i64 a, .bool false, .int .i64 b, zz, zz, zz, zz, zz, zz]
def cmp_raw_2_b5 (a : Int) (b : Int) : List Value := (cmp_raw_2_l4 a b) ++ (cmp_raw_2_l1)
def cmp_raw_2_l6 (b : Int) : List Value := [.int .i64 b, zz, .bool false, .int .i64 b, .int .i64 b, .bool false]
def cmp_raw_2_l7 (a : Int) (b : Int) : List Value := [.int .i64 a, .int .i64 b, zz, zz, .int .i64 0, .bool false, .bool false, .int .i64 a, .bool false, .int .i64 b, .bool false, .bool false, zz, .bool false, .int .i64 a, .int .i64 b]
def cmp_raw_2_l8 (a : Int) (b : Int) : List Value := [.bool false, .int .i64 a, .int .i64 b, .bool false]
def cmp_raw_2_b9 (a : Int) (b : Int) : List Value := (cmp_raw_2_l7 a b) ++ ((cmp_raw_2_l8 a b))
set_option maxHeartbeats 8000000 in
set_option maxRecDepth 100000 in
theorem cmp_raw (a b : Int) (w : World) : Calls Try.prog 39 #[.int .i64 a, .int .i64 b] w fun e w' => e = .returned (.int .i64 (cmpF a b)) ∧ Below w.heap.size w w' := by
  have hc : a < b ∨ (¬ a < b ∧ b < a) ∨ (¬ a < b ∧ ¬ b < a) := by omega
  rcases hc with hc | hc | hc
  · skip
    refine enter (args := [.int .i64 a, .int .i64 b]) (fn := Try.f39) rfl (c := bdy Try.f39) (by kernel_rfl) ?_
    refine ck 2 [] [] fun γ1 => ⟨⟨kt (bdy Try.f39) [1, 0, 1] [], (cmp_raw_0_b2 a b), []⟩, [], [], by kernel_rfl, .nil, ?_⟩
    refine ci (f := 69) (args := [.int .i64 a]) (fn := Try.f69) (c := bdy Try.f69) rfl (fun R2 hR2 => ?_)
    refine ck 5 [] [(3, .bool false)] fun γ3 => ⟨⟨kt (bdy Try.f69) [1, 1] [], (cmp_raw_0_l3 a), []⟩, [], [Value.bool ((a : Int) != a) = .bool false], by kernel_rfl, (.cons (cnF rfl) .nil), ?_⟩
    refine crm hR2 (.bool false) [] [] [] ?_
    refine ck 2 [] [] fun γ4 => ⟨⟨kt (bdy Try.f39) [1, 1, 0, 1] [], (cmp_raw_0_b5 a b), []⟩, [], [], by kernel_rfl, .nil, ?_⟩
    refine ci (f := 69) (args := [.int .i64 b]) (fn := Try.f69) (c := bdy Try.f69) rfl (fun R5 hR5 => ?_)
    refine ck 5 [] [(3, .bool false)] fun γ6 => ⟨⟨kt (bdy Try.f69) [1, 1] [], (cmp_raw_0_l6 b), []⟩, [], [Value.bool ((b : Int) != b) = .bool false], by kernel_rfl, (.cons (cnF rfl) .nil), ?_⟩
    refine crm hR5 (.bool false) [] [] [] ?_
    refine ck 7 [] [(5, .bool true)] fun γ7 => ⟨⟨kt (bdy Try.f39) [1, 1, 1, 1, 1, 0, 1, 0, 1] [], (cmp_raw_0_b9 a b), []⟩, [], [Value.bool (decide ((a : Int) < b)) = .bool true], by kernel_rfl, (.cons (cbT (by omega)) .nil), ?_⟩
    refine rt (.int .i64 (-1)) [] [] (fun W hW => ?_)
    have hg : cmpF a b = -1 := by unfold cmpF; rw [if_pos (by omega)]
    rw [hg]
    exact ⟨rfl, (hW.old 0 rfl)⟩
  · skip
    refine enter (args := [.int .i64 a, .int .i64 b]) (fn := Try.f39) rfl (c := bdy Try.f39) (by kernel_rfl) ?_
    refine ck 2 [] [] fun γ1 => ⟨⟨kt (bdy Try.f39) [1, 0, 1] [], (cmp_raw_1_b2 a b), []⟩, [], [], by kernel_rfl, .nil, ?_⟩
    refine ci (f := 69) (args := [.int .i64 a]) (fn := Try.f69) (c := bdy Try.f69) rfl (fun R2 hR2 => ?_)
    refine ck 5 [] [(3, .bool false)] fun γ3 => ⟨⟨kt (bdy Try.f69) [1, 1] [], (cmp_raw_1_l3 a), []⟩, [], [Value.bool ((a : Int) != a) = .bool false], by kernel_rfl, (.cons (cnF rfl) .nil), ?_⟩
    refine crm hR2 (.bool false) [] [] [] ?_
    refine ck 2 [] [] fun γ4 => ⟨⟨kt (bdy Try.f39) [1, 1, 0, 1] [], (cmp_raw_1_b5 a b), []⟩, [], [], by kernel_rfl, .nil, ?_⟩
    refine ci (f := 69) (args := [.int .i64 b]) (fn := Try.f69) (c := bdy Try.f69) rfl (fun R5 hR5 => ?_)
    refine ck 5 [] [(3, .bool false)] fun γ6 => ⟨⟨kt (bdy Try.f69) [1, 1] [], (cmp_raw_1_l6 b), []⟩, [], [Value.bool ((b : Int) != b) = .bool false], by kernel_rfl, (.cons (cnF rfl) .nil), ?_⟩
    refine crm hR5 (.bool false) [] [] [] ?_
    refine ck 10 [] [(5, .bool false), (8, .bool true)] fun γ7 => ⟨⟨kt (bdy Try.f39) [1, 1, 1, 1, 1, 1, 0, 1, 0, 1] [], (cmp_raw_1_b9 a b), []⟩, [], [Value.bool (decide ((a : Int) < b)) = .bool false, Value.bool (decide ((a : Int) > b)) = .bool true], by kernel_rfl, (.cons (cbF (by omega)) (.cons (cbT (by omega)) .nil)), ?_⟩
    refine rt (.int .i64 1) [] [] (fun W hW => ?_)
    have hg : cmpF a b = 1 := by unfold cmpF; rw [if_neg (by omega), if_pos (by omega)]
    rw [hg]
    exact ⟨rfl, (hW.old 0 rfl)⟩
  · skip
    refine enter (args := [.int .i64 a, .int .i64 b]) (fn := Try.f39) rfl (c := bdy Try.f39) (by kernel_rfl) ?_
    refine ck 2 [] [] fun γ1 => ⟨⟨kt (bdy Try.f39) [1, 0, 1] [], (cmp_raw_2_b2 a b), []⟩, [], [], by kernel_rfl, .nil, ?_⟩
    refine ci (f := 69) (args := [.int .i64 a]) (fn := Try.f69) (c := bdy Try.f69) rfl (fun R2 hR2 => ?_)
    refine ck 5 [] [(3, .bool false)] fun γ3 => ⟨⟨kt (bdy Try.f69) [1, 1] [], (cmp_raw_2_l3 a), []⟩, [], [Value.bool ((a : Int) != a) = .bool false], by kernel_rfl, (.cons (cnF rfl) .nil), ?_⟩
    refine crm hR2 (.bool false) [] [] [] ?_
    refine ck 2 [] [] fun γ4 => ⟨⟨kt (bdy Try.f39) [1, 1, 0, 1] [], (cmp_raw_2_b5 a b), []⟩, [], [], by kernel_rfl, .nil, ?_⟩
    refine ci (f := 69) (args := [.int .i64 b]) (fn := Try.f69) (c := bdy Try.f69) rfl (fun R5 hR5 => ?_)
    refine ck 5 [] [(3, .bool false)] fun γ6 => ⟨⟨kt (bdy Try.f69) [1, 1] [], (cmp_raw_2_l6 b), []⟩, [], [Value.bool ((b : Int) != b) = .bool false], by kernel_rfl, (.cons (cnF rfl) .nil), ?_⟩
    refine crm hR5 (.bool false) [] [] [] ?_
    refine ck 10 [] [(5, .bool false), (8, .bool false)] fun γ7 => ⟨⟨kt (bdy Try.f39) [1, 1, 1, 1, 1, 1, 1, 1] [], (cmp_raw_2_b9 a b), []⟩, [], [Value.bool (decide ((a : Int) < b)) = .bool false, Value.bool (decide ((a : Int) > b)) = .bool false], by kernel_rfl, (.cons (cbF (by omega)) (.cons (cbF (by omega)) .nil)), ?_⟩
    refine rt (.int .i64 0) [] [] (fun W hW => ?_)
    have hg : cmpF a b = 0 := by unfold cmpF; rw [if_neg (by omega), if_neg (by omega)]
    rw [hg]
    exact ⟨rfl, (hW.old 0 rfl)⟩
theorem cmp_is {a b r : Int} (h : cmpF a b = r) (w : World) : Calls Try.prog 39 #[.int .i64 a, .int .i64 b] w fun e w' => e = .returned (.int .i64 r) ∧ Below w.heap.size w w' := by
  subst h
  exact cmp_raw a b w
theorem cmp_lt {a b : Int} (h : a < b) : cmpF a b = -1 := if_pos h
theorem cmp_gt {a b : Int} (h : b < a) : cmpF a b = 1 := by
  unfold cmpF
  rw [if_neg (by omega), if_pos h]
theorem cmp_eq {a b : Int} (h : a = b) : cmpF a b = 0 := by
  unfold cmpF
  rw [if_neg (by omega), if_neg (by omega)]
def lsll_l0 (x0 : Int) (x1 : Int) (x2 : Int) (y0 : Int) (y1 : Int) (y2 : Int) (γ1 : Nat → Nat) : List Value := [.agg #[.int .i64 x0, .int .i64 x1, .int .i64 x2], .agg #[.int .i64 y0, .int .i64 y1, .int .i64 y2], .pointer (some ⟨γ1 0, 0, none⟩), .pointer (some ⟨γ1 1, 0, none⟩), .int .i64 0, zz, zz, zz, zz, zz, zz, zz, zz, zz, zz, zz]
def lsll_l1 : List Value := [zz]
def lsll_b2 (x0 : Int) (x1 : Int) (x2 : Int) (y0 : Int) (y1 : Int) (y2 : Int) (γ1 : Nat → Nat) : List Value := (lsll_l0 x0 x1 x2 y0 y1 y2 γ1) ++ (lsll_l1)
def lsll_c3 (y0 : Int) (y1 : Int) (y2 : Int) : List Value := [.int .i64 y0, .int .i64 y1, .int .i64 y2]
def lsll_c4 (x0 : Int) (x1 : Int) (x2 : Int) : List Value := [.int .i64 x0, .int .i64 x1, .int .i64 x2]
def lsll_c5 : List Value := [.int .i64 (-1), .int .i64 (-1)]
def lsll_l6 (g2 : Nat) : List Value := [.slice (some ⟨g2, 0, none⟩) 2 2, zz, .int .i64 0, .int .i64 0, zz, zz, .slice (some ⟨g2, 0, none⟩) 2 2, .int .i64 2, .int .i64 0, zz, zz, zz, zz, zz, zz, zz]
def lsll_l7 : List Value := [zz, zz]
def lsll_b8 (g2 : Nat) : List Value := (lsll_l6 g2) ++ (lsll_l7)
def lsll_l9 (x0 : Int) (x1 : Int) (x2 : Int) (y0 : Int) (y1 : Int) (y2 : Int) (γ1 : Nat → Nat) (g2 : Nat) : List Value := [.agg #[.int .i64 x0, .int .i64 x1, .int .i64 x2], .agg #[.int .i64 y0, .int .i64 y1, .int .i64 y2], .pointer (some ⟨γ1 0, 0, none⟩), .pointer (some ⟨γ1 1, 0, none⟩), .int .i64 (-1), .pointer (some ⟨γ1 0, 1, none⟩), .int .i64 x1, .pointer (some ⟨γ1 1, 1, none⟩), .int .i64 y1, .int .i64 (-1), .pointer (some ⟨γ1 0, 2, none⟩), .int .i64 x2, .pointer (some ⟨γ1 1, 2, none⟩), .int .i64 y2, .int .i64 (-1), .slice (some ⟨g2, 0, none⟩) 2 2]
def lsll_l10 : List Value := [.int .i64 (-1)]
def lsll_b11 (x0 : Int) (x1 : Int) (x2 : Int) (y0 : Int) (y1 : Int) (y2 : Int) (γ1 : Nat → Nat) (g2 : Nat) : List Value := (lsll_l9 x0 x1 x2 y0 y1 y2 γ1 g2) ++ (lsll_l10)
def lsle_l0 (x0 : Int) (x1 : Int) (x2 : Int) (y0 : Int) (y1 : Int) (y2 : Int) (γ1 : Nat → Nat) : List Value := [.agg #[.int .i64 x0, .int .i64 x1, .int .i64 x2], .agg #[.int .i64 y0, .int .i64 y1, .int .i64 y2], .pointer (some ⟨γ1 0, 0, none⟩), .pointer (some ⟨γ1 1, 0, none⟩), .int .i64 0, zz, zz, zz, zz, zz, zz, zz, zz, zz, zz, zz]
def lsle_l1 : List Value := [zz]
def lsle_b2 (x0 : Int) (x1 : Int) (x2 : Int) (y0 : Int) (y1 : Int) (y2 : Int) (γ1 : Nat → Nat) : List Value := (lsle_l0 x0 x1 x2 y0 y1 y2 γ1) ++ (lsle_l1)
def lsle_c3 (y0 : Int) (y1 : Int) (y2 : Int) : List Value := [.int .i64 y0, .int .i64 y1, .int .i64 y2]
def lsle_c4 (x0 : Int) (x1 : Int) (x2 : Int) : List Value := [.int .i64 x0, .int .i64 x1, .int .i64 x2]
def lsle_c5 : List Value := [.int .i64 (-1), .int .i64 0]
def lsle_l6 (g2 : Nat) : List Value := [.slice (some ⟨g2, 0, none⟩) 2 2, zz, .int .i64 0, .int .i64 0, zz, zz, .slice (some ⟨g2, 0, none⟩) 2 2, .int .i64 2, .int .i64 0, zz, zz, zz, zz, zz, zz, zz]
def lsle_l7 : List Value := [zz, zz]
def lsle_b8 (g2 : Nat) : List Value := (lsle_l6 g2) ++ (lsle_l7)
def lsle_l9 (x0 : Int) (x1 : Int) (x2 : Int) (y0 : Int) (y1 : Int) (y2 : Int) (γ1 : Nat → Nat) (g2 : Nat) : List Value := [.agg #[.int .i64 x0, .int .i64 x1, .int .i64 x2], .agg #[.int .i64 y0, .int .i64 y1, .int .i64 y2], .pointer (some ⟨γ1 0, 0, none⟩), .pointer (some ⟨γ1 1, 0, none⟩), .int .i64 (-1), .pointer (some ⟨γ1 0, 1, none⟩), .int .i64 x1, .pointer (some ⟨γ1 1, 1, none⟩), .int .i64 y1, .int .i64 (-1), .pointer (some ⟨γ1 0, 2, none⟩), .int .i64 x2, .pointer (some ⟨γ1 1, 2, none⟩), .int .i64 y2, .int .i64 0, .slice (some ⟨g2, 0, none⟩) 2 2]
def lsle_l10 : List Value := [.int .i64 (-1)]
def lsle_b11 (x0 : Int) (x1 : Int) (x2 : Int) (y0 : Int) (y1 : Int) (y2 : Int) (γ1 : Nat → Nat) (g2 : Nat) : List Value := (lsle_l9 x0 x1 x2 y0 y1 y2 γ1 g2) ++ (lsle_l10)
def lslg_l0 (x0 : Int) (x1 : Int) (x2 : Int) (y0 : Int) (y1 : Int) (y2 : Int) (γ1 : Nat → Nat) : List Value := [.agg #[.int .i64 x0, .int .i64 x1, .int .i64 x2], .agg #[.int .i64 y0, .int .i64 y1, .int .i64 y2], .pointer (some ⟨γ1 0, 0, none⟩), .pointer (some ⟨γ1 1, 0, none⟩), .int .i64 0, zz, zz, zz, zz, zz, zz, zz, zz, zz, zz, zz]
def lslg_l1 : List Value := [zz]
def lslg_b2 (x0 : Int) (x1 : Int) (x2 : Int) (y0 : Int) (y1 : Int) (y2 : Int) (γ1 : Nat → Nat) : List Value := (lslg_l0 x0 x1 x2 y0 y1 y2 γ1) ++ (lslg_l1)
def lslg_c3 (y0 : Int) (y1 : Int) (y2 : Int) : List Value := [.int .i64 y0, .int .i64 y1, .int .i64 y2]
def lslg_c4 (x0 : Int) (x1 : Int) (x2 : Int) : List Value := [.int .i64 x0, .int .i64 x1, .int .i64 x2]
def lslg_c5 : List Value := [.int .i64 (-1), .int .i64 1]
def lslg_l6 (g2 : Nat) : List Value := [.slice (some ⟨g2, 0, none⟩) 2 2, zz, .int .i64 0, .int .i64 0, zz, zz, .slice (some ⟨g2, 0, none⟩) 2 2, .int .i64 2, .int .i64 0, zz, zz, zz, zz, zz, zz, zz]
def lslg_l7 : List Value := [zz, zz]
def lslg_b8 (g2 : Nat) : List Value := (lslg_l6 g2) ++ (lslg_l7)
def lslg_l9 (x0 : Int) (x1 : Int) (x2 : Int) (y0 : Int) (y1 : Int) (y2 : Int) (γ1 : Nat → Nat) (g2 : Nat) : List Value := [.agg #[.int .i64 x0, .int .i64 x1, .int .i64 x2], .agg #[.int .i64 y0, .int .i64 y1, .int .i64 y2], .pointer (some ⟨γ1 0, 0, none⟩), .pointer (some ⟨γ1 1, 0, none⟩), .int .i64 (-1), .pointer (some ⟨γ1 0, 1, none⟩), .int .i64 x1, .pointer (some ⟨γ1 1, 1, none⟩), .int .i64 y1, .int .i64 (-1), .pointer (some ⟨γ1 0, 2, none⟩), .int .i64 x2, .pointer (some ⟨γ1 1, 2, none⟩), .int .i64 y2, .int .i64 1, .slice (some ⟨g2, 0, none⟩) 2 2]
def lslg_l10 : List Value := [.int .i64 (-1)]
def lslg_b11 (x0 : Int) (x1 : Int) (x2 : Int) (y0 : Int) (y1 : Int) (y2 : Int) (γ1 : Nat → Nat) (g2 : Nat) : List Value := (lslg_l9 x0 x1 x2 y0 y1 y2 γ1 g2) ++ (lslg_l10)
def lsel_l0 (x0 : Int) (x1 : Int) (x2 : Int) (y0 : Int) (y1 : Int) (y2 : Int) (γ1 : Nat → Nat) : List Value := [.agg #[.int .i64 x0, .int .i64 x1, .int .i64 x2], .agg #[.int .i64 y0, .int .i64 y1, .int .i64 y2], .pointer (some ⟨γ1 0, 0, none⟩), .pointer (some ⟨γ1 1, 0, none⟩), .int .i64 0, zz, zz, zz, zz, zz, zz, zz, zz, zz, zz, zz]
def lsel_l1 : List Value := [zz]
def lsel_b2 (x0 : Int) (x1 : Int) (x2 : Int) (y0 : Int) (y1 : Int) (y2 : Int) (γ1 : Nat → Nat) : List Value := (lsel_l0 x0 x1 x2 y0 y1 y2 γ1) ++ (lsel_l1)
def lsel_c3 (y0 : Int) (y1 : Int) (y2 : Int) : List Value := [.int .i64 y0, .int .i64 y1, .int .i64 y2]
def lsel_c4 (x0 : Int) (x1 : Int) (x2 : Int) : List Value := [.int .i64 x0, .int .i64 x1, .int .i64 x2]
def lsel_c5 : List Value := [.int .i64 0, .int .i64 (-1)]
def lsel_l6 (g2 : Nat) : List Value := [.slice (some ⟨g2, 0, none⟩) 2 2, zz, .int .i64 0, .int .i64 0, zz, zz, .slice (some ⟨g2, 0, none⟩) 2 2, .int .i64 2, .int .i64 0, zz, zz, zz, zz, zz, zz, zz]
def lsel_l7 : List Value := [zz, zz]
def lsel_b8 (g2 : Nat) : List Value := (lsel_l6 g2) ++ (lsel_l7)
def lsel_l9 (x0 : Int) (x1 : Int) (x2 : Int) (y0 : Int) (y1 : Int) (y2 : Int) (γ1 : Nat → Nat) (g2 : Nat) : List Value := [.agg #[.int .i64 x0, .int .i64 x1, .int .i64 x2], .agg #[.int .i64 y0, .int .i64 y1, .int .i64 y2], .pointer (some ⟨γ1 0, 0, none⟩), .pointer (some ⟨γ1 1, 0, none⟩), .int .i64 (-1), .pointer (some ⟨γ1 0, 1, none⟩), .int .i64 x1, .pointer (some ⟨γ1 1, 1, none⟩), .int .i64 y1, .int .i64 0, .pointer (some ⟨γ1 0, 2, none⟩), .int .i64 x2, .pointer (some ⟨γ1 1, 2, none⟩), .int .i64 y2, .int .i64 (-1), .slice (some ⟨g2, 0, none⟩) 2 2]
def lsel_l10 : List Value := [.int .i64 (-1)]
def lsel_b11 (x0 : Int) (x1 : Int) (x2 : Int) (y0 : Int) (y1 : Int) (y2 : Int) (γ1 : Nat → Nat) (g2 : Nat) : List Value := (lsel_l9 x0 x1 x2 y0 y1 y2 γ1 g2) ++ (lsel_l10)
def lsee_l0 (x0 : Int) (x1 : Int) (x2 : Int) (y0 : Int) (y1 : Int) (y2 : Int) (γ1 : Nat → Nat) : List Value := [.agg #[.int .i64 x0, .int .i64 x1, .int .i64 x2], .agg #[.int .i64 y0, .int .i64 y1, .int .i64 y2], .pointer (some ⟨γ1 0, 0, none⟩), .pointer (some ⟨γ1 1, 0, none⟩), .int .i64 0, zz, zz, zz, zz, zz, zz, zz, zz, zz, zz, zz]
def lsee_l1 : List Value := [zz]
def lsee_b2 (x0 : Int) (x1 : Int) (x2 : Int) (y0 : Int) (y1 : Int) (y2 : Int) (γ1 : Nat → Nat) : List Value := (lsee_l0 x0 x1 x2 y0 y1 y2 γ1) ++ (lsee_l1)
def lsee_c3 (y0 : Int) (y1 : Int) (y2 : Int) : List Value := [.int .i64 y0, .int .i64 y1, .int .i64 y2]
def lsee_c4 (x0 : Int) (x1 : Int) (x2 : Int) : List Value := [.int .i64 x0, .int .i64 x1, .int .i64 x2]
def lsee_l5 (g2 : Nat) : List Value := [.slice (some ⟨g2, 0, none⟩) 2 2, zz, .int .i64 0, .int .i64 0, zz, zz, .slice (some ⟨g2, 0, none⟩) 2 2, .int .i64 2, .int .i64 0, zz, zz, zz, zz, zz, zz, zz]
def lsee_l6 : List Value := [zz, zz]
def lsee_b7 (g2 : Nat) : List Value := (lsee_l5 g2) ++ (lsee_l6)
def lsee_l8 (x0 : Int) (x1 : Int) (x2 : Int) (y0 : Int) (y1 : Int) (y2 : Int) (γ1 : Nat → Nat) (g2 : Nat) : List Value := [.agg #[.int .i64 x0, .int .i64 x1, .int .i64 x2], .agg #[.int .i64 y0, .int .i64 y1, .int .i64 y2], .pointer (some ⟨γ1 0, 0, none⟩), .pointer (some ⟨γ1 1, 0, none⟩), .int .i64 0, .pointer (some ⟨γ1 0, 1, none⟩), .int .i64 x1, .pointer (some ⟨γ1 1, 1, none⟩), .int .i64 y1, .int .i64 0, .pointer (some ⟨γ1 0, 2, none⟩), .int .i64 x2, .pointer (some ⟨γ1 1, 2, none⟩), .int .i64 y2, .int .i64 0, .slice (some ⟨g2, 0, none⟩) 2 2]
def lsee_l9 : List Value := [.int .i64 0]
def lsee_b10 (x0 : Int) (x1 : Int) (x2 : Int) (y0 : Int) (y1 : Int) (y2 : Int) (γ1 : Nat → Nat) (g2 : Nat) : List Value := (lsee_l8 x0 x1 x2 y0 y1 y2 γ1 g2) ++ (lsee_l9)
def lseg_l0 (x0 : Int) (x1 : Int) (x2 : Int) (y0 : Int) (y1 : Int) (y2 : Int) (γ1 : Nat → Nat) : List Value := [.agg #[.int .i64 x0, .int .i64 x1, .int .i64 x2], .agg #[.int .i64 y0, .int .i64 y1, .int .i64 y2], .pointer (some ⟨γ1 0, 0, none⟩), .pointer (some ⟨γ1 1, 0, none⟩), .int .i64 0, zz, zz, zz, zz, zz, zz, zz, zz, zz, zz, zz]
def lseg_l1 : List Value := [zz]
def lseg_b2 (x0 : Int) (x1 : Int) (x2 : Int) (y0 : Int) (y1 : Int) (y2 : Int) (γ1 : Nat → Nat) : List Value := (lseg_l0 x0 x1 x2 y0 y1 y2 γ1) ++ (lseg_l1)
def lseg_c3 (y0 : Int) (y1 : Int) (y2 : Int) : List Value := [.int .i64 y0, .int .i64 y1, .int .i64 y2]
def lseg_c4 (x0 : Int) (x1 : Int) (x2 : Int) : List Value := [.int .i64 x0, .int .i64 x1, .int .i64 x2]
def lseg_l5 (g2 : Nat) : List Value := [.slice (some ⟨g2, 0, none⟩) 2 2, zz, .int .i64 0, .int .i64 0, zz, zz, .slice (some ⟨g2, 0, none⟩) 2 2, .int .i64 2, .int .i64 0, zz, zz, zz, zz, zz, zz, zz]
def lseg_l6 : List Value := [zz, zz]
def lseg_b7 (g2 : Nat) : List Value := (lseg_l5 g2) ++ (lseg_l6)
def lseg_l8 (x0 : Int) (x1 : Int) (x2 : Int) (y0 : Int) (y1 : Int) (y2 : Int) (γ1 : Nat → Nat) (g2 : Nat) : List Value := [.agg #[.int .i64 x0, .int .i64 x1, .int .i64 x2], .agg #[.int .i64 y0, .int .i64 y1, .int .i64 y2], .pointer (some ⟨γ1 0, 0, none⟩), .pointer (some ⟨γ1 1, 0, none⟩), .int .i64 1, .pointer (some ⟨γ1 0, 1, none⟩), .int .i64 x1, .pointer (some ⟨γ1 1, 1, none⟩), .int .i64 y1, .int .i64 0, .pointer (some ⟨γ1 0, 2, none⟩), .int .i64 x2, .pointer (some ⟨γ1 1, 2, none⟩), .int .i64 y2, .int .i64 1, .slice (some ⟨g2, 0, none⟩) 2 2]
def lseg_l9 : List Value := [.int .i64 1]
def lseg_b10 (x0 : Int) (x1 : Int) (x2 : Int) (y0 : Int) (y1 : Int) (y2 : Int) (γ1 : Nat → Nat) (g2 : Nat) : List Value := (lseg_l8 x0 x1 x2 y0 y1 y2 γ1 g2) ++ (lseg_l9)
def lsgl_l0 (x0 : Int) (x1 : Int) (x2 : Int) (y0 : Int) (y1 : Int) (y2 : Int) (γ1 : Nat → Nat) : List Value := [.agg #[.int .i64 x0, .int .i64 x1, .int .i64 x2], .agg #[.int .i64 y0, .int .i64 y1, .int .i64 y2], .pointer (some ⟨γ1 0, 0, none⟩), .pointer (some ⟨γ1 1, 0, none⟩), .int .i64 0, zz, zz, zz, zz, zz, zz, zz, zz, zz, zz, zz]
def lsgl_l1 : List Value := [zz]
def lsgl_b2 (x0 : Int) (x1 : Int) (x2 : Int) (y0 : Int) (y1 : Int) (y2 : Int) (γ1 : Nat → Nat) : List Value := (lsgl_l0 x0 x1 x2 y0 y1 y2 γ1) ++ (lsgl_l1)
def lsgl_c3 (y0 : Int) (y1 : Int) (y2 : Int) : List Value := [.int .i64 y0, .int .i64 y1, .int .i64 y2]
def lsgl_c4 (x0 : Int) (x1 : Int) (x2 : Int) : List Value := [.int .i64 x0, .int .i64 x1, .int .i64 x2]
def lsgl_c5 : List Value := [.int .i64 1, .int .i64 (-1)]
def lsgl_l6 (g2 : Nat) : List Value := [.slice (some ⟨g2, 0, none⟩) 2 2, zz, .int .i64 0, .int .i64 0, zz, zz, .slice (some ⟨g2, 0, none⟩) 2 2, .int .i64 2, .int .i64 0, zz, zz, zz, zz, zz, zz, zz]
def lsgl_l7 : List Value := [zz, zz]
def lsgl_b8 (g2 : Nat) : List Value := (lsgl_l6 g2) ++ (lsgl_l7)
def lsgl_l9 (x0 : Int) (x1 : Int) (x2 : Int) (y0 : Int) (y1 : Int) (y2 : Int) (γ1 : Nat → Nat) (g2 : Nat) : List Value := [.agg #[.int .i64 x0, .int .i64 x1, .int .i64 x2], .agg #[.int .i64 y0, .int .i64 y1, .int .i64 y2], .pointer (some ⟨γ1 0, 0, none⟩), .pointer (some ⟨γ1 1, 0, none⟩), .int .i64 1, .pointer (some ⟨γ1 0, 1, none⟩), .int .i64 x1, .pointer (some ⟨γ1 1, 1, none⟩), .int .i64 y1, .int .i64 1, .pointer (some ⟨γ1 0, 2, none⟩), .int .i64 x2, .pointer (some ⟨γ1 1, 2, none⟩), .int .i64 y2, .int .i64 (-1), .slice (some ⟨g2, 0, none⟩) 2 2]
def lsgl_l10 : List Value := [.int .i64 1]
def lsgl_b11 (x0 : Int) (x1 : Int) (x2 : Int) (y0 : Int) (y1 : Int) (y2 : Int) (γ1 : Nat → Nat) (g2 : Nat) : List Value := (lsgl_l9 x0 x1 x2 y0 y1 y2 γ1 g2) ++ (lsgl_l10)
def lsge_l0 (x0 : Int) (x1 : Int) (x2 : Int) (y0 : Int) (y1 : Int) (y2 : Int) (γ1 : Nat → Nat) : List Value := [.agg #[.int .i64 x0, .int .i64 x1, .int .i64 x2], .agg #[.int .i64 y0, .int .i64 y1, .int .i64 y2], .pointer (some ⟨γ1 0, 0, none⟩), .pointer (some ⟨γ1 1, 0, none⟩), .int .i64 0, zz, zz, zz, zz, zz, zz, zz, zz, zz, zz, zz]
def lsge_l1 : List Value := [zz]
def lsge_b2 (x0 : Int) (x1 : Int) (x2 : Int) (y0 : Int) (y1 : Int) (y2 : Int) (γ1 : Nat → Nat) : List Value := (lsge_l0 x0 x1 x2 y0 y1 y2 γ1) ++ (lsge_l1)
def lsge_c3 (y0 : Int) (y1 : Int) (y2 : Int) : List Value := [.int .i64 y0, .int .i64 y1, .int .i64 y2]
def lsge_c4 (x0 : Int) (x1 : Int) (x2 : Int) : List Value := [.int .i64 x0, .int .i64 x1, .int .i64 x2]
def lsge_l5 (g2 : Nat) : List Value := [.slice (some ⟨g2, 0, none⟩) 2 2, zz, .int .i64 0, .int .i64 0, zz, zz, .slice (some ⟨g2, 0, none⟩) 2 2, .int .i64 2, .int .i64 0, zz, zz, zz, zz, zz, zz, zz]
def lsge_l6 : List Value := [zz, zz]
def lsge_b7 (g2 : Nat) : List Value := (lsge_l5 g2) ++ (lsge_l6)
def lsge_l8 (x0 : Int) (x1 : Int) (x2 : Int) (y0 : Int) (y1 : Int) (y2 : Int) (γ1 : Nat → Nat) (g2 : Nat) : List Value := [.agg #[.int .i64 x0, .int .i64 x1, .int .i64 x2], .agg #[.int .i64 y0, .int .i64 y1, .int .i64 y2], .pointer (some ⟨γ1 0, 0, none⟩), .pointer (some ⟨γ1 1, 0, none⟩), .int .i64 1, .pointer (some ⟨γ1 0, 1, none⟩), .int .i64 x1, .pointer (some ⟨γ1 1, 1, none⟩), .int .i64 y1, .int .i64 1, .pointer (some ⟨γ1 0, 2, none⟩), .int .i64 x2, .pointer (some ⟨γ1 1, 2, none⟩), .int .i64 y2, .int .i64 0, .slice (some ⟨g2, 0, none⟩) 2 2]
def lsge_l9 : List Value := [.int .i64 1]
def lsge_b10 (x0 : Int) (x1 : Int) (x2 : Int) (y0 : Int) (y1 : Int) (y2 : Int) (γ1 : Nat → Nat) (g2 : Nat) : List Value := (lsge_l8 x0 x1 x2 y0 y1 y2 γ1 g2) ++ (lsge_l9)
def lsgg_l0 (x0 : Int) (x1 : Int) (x2 : Int) (y0 : Int) (y1 : Int) (y2 : Int) (γ1 : Nat → Nat) : List Value := [.agg #[.int .i64 x0, .int .i64 x1, .int .i64 x2], .agg #[.int .i64 y0, .int .i64 y1, .int .i64 y2], .pointer (some ⟨γ1 0, 0, none⟩), .pointer (some ⟨γ1 1, 0, none⟩), .int .i64 0, zz, zz, zz, zz, zz, zz, zz, zz, zz, zz, zz]
def lsgg_l1 : List Value := [zz]
def lsgg_b2 (x0 : Int) (x1 : Int) (x2 : Int) (y0 : Int) (y1 : Int) (y2 : Int) (γ1 : Nat → Nat) : List Value := (lsgg_l0 x0 x1 x2 y0 y1 y2 γ1) ++ (lsgg_l1)
def lsgg_c3 (y0 : Int) (y1 : Int) (y2 : Int) : List Value := [.int .i64 y0, .int .i64 y1, .int .i64 y2]
def lsgg_c4 (x0 : Int) (x1 : Int) (x2 : Int) : List Value := [.int .i64 x0, .int .i64 x1, .int .i64 x2]
def lsgg_l5 (g2 : Nat) : List Value := [.slice (some ⟨g2, 0, none⟩) 2 2, zz, .int .i64 0, .int .i64 0, zz, zz, .slice (some ⟨g2, 0, none⟩) 2 2, .int .i64 2, .int .i64 0, zz, zz, zz, zz, zz, zz, zz]
def lsgg_l6 : List Value := [zz, zz]
def lsgg_b7 (g2 : Nat) : List Value := (lsgg_l5 g2) ++ (lsgg_l6)
def lsgg_l8 (x0 : Int) (x1 : Int) (x2 : Int) (y0 : Int) (y1 : Int) (y2 : Int) (γ1 : Nat → Nat) (g2 : Nat) : List Value := [.agg #[.int .i64 x0, .int .i64 x1, .int .i64 x2], .agg #[.int .i64 y0, .int .i64 y1, .int .i64 y2], .pointer (some ⟨γ1 0, 0, none⟩), .pointer (some ⟨γ1 1, 0, none⟩), .int .i64 1, .pointer (some ⟨γ1 0, 1, none⟩), .int .i64 x1, .pointer (some ⟨γ1 1, 1, none⟩), .int .i64 y1, .int .i64 1, .pointer (some ⟨γ1 0, 2, none⟩), .int .i64 x2, .pointer (some ⟨γ1 1, 2, none⟩), .int .i64 y2, .int .i64 1, .slice (some ⟨g2, 0, none⟩) 2 2]
def lsgg_l9 : List Value := [.int .i64 1]
def lsgg_b10 (x0 : Int) (x1 : Int) (x2 : Int) (y0 : Int) (y1 : Int) (y2 : Int) (γ1 : Nat → Nat) (g2 : Nat) : List Value := (lsgg_l8 x0 x1 x2 y0 y1 y2 γ1 g2) ++ (lsgg_l9)
set_option maxHeartbeats 8000000 in
set_option maxRecDepth 100000 in
theorem order_is (x0 x1 x2 y0 y1 y2 : Int) (w : World) : Calls Try.prog 37 #[.agg #[.int .i64 x0, .int .i64 x1, .int .i64 x2], .agg #[.int .i64 y0, .int .i64 y1, .int .i64 y2]] w fun e w' => e = .returned (.int .i64 (ordF (x0, x1, x2) (y0, y1, y2))) ∧ Below w.heap.size w w' := by
  rcases Int.lt_trichotomy x1 y1 with h1 | h1 | h1 <;> rcases Int.lt_trichotomy x2 y2 with h2 | h2 | h2
  · skip
    refine enter (args := [.agg #[.int .i64 x0, .int .i64 x1, .int .i64 x2], .agg #[.int .i64 y0, .int .i64 y1, .int .i64 y2]]) (fn := Try.f37) rfl (c := bdy Try.f37) (by kernel_rfl) ?_
    refine ck 3 [] [] fun γ1 => ⟨⟨kt (bdy Try.f37) [1, 0] [], (lsll_b2 x0 x1 x2 y0 y1 y2 γ1), [(γ1 1, 71, (lsll_c3 y0 y1 y2)), (γ1 0, 71, (lsll_c4 x0 x1 x2))]⟩, [], [], by kernel_rfl, .nil, ?_⟩
    refine dr [] [] .nil ?_
    refine df [0, 1, 2, 3, 5, 6, 7, 8] [(1, 1), (1, 0), (1, 1), (1, 0)] [] [(1, γ1 0), (1, γ1 1), (1, γ1 0), (1, γ1 1)] [] .nil ?_
    refine dp 4 (fun W hW => cmp_is (r := (-1)) (cmp_lt h1) W) ?_
    refine dp 9 (fun W hW => cmp_is (r := (-1)) (cmp_lt h2) W) ?_
    refine dn 10 (v := fun g2 => .slice (some ⟨g2, 0, none⟩) 2 2) (b := fun g2 => (g2, 3, lsll_c5)) (fun g L => by kernel_rfl) fun g2 => ?_
    refine dcl 11 [] (f := 38) (args := [.slice (some ⟨g2, 0, none⟩) 2 2]) (fn := Try.f38) (c := bdy Try.f38) rfl (fun R3 hR3 => ?_)
    refine ck 5 [] [] fun γ4 => ⟨⟨kt (bdy Try.f38) [1, 1, 0, 1, 0] [], (lsll_b8 g2), [(g2, 3, lsll_c5), (γ1 1, 71, (lsll_c3 y0 y1 y2)), (γ1 0, 71, (lsll_c4 x0 x1 x2))]⟩, [], [], by kernel_rfl, .nil, ?_⟩
    refine lu 5 (fun I5 hI5 => ?_)
    refine ck 9 [(1, 0)] [] fun γ6 => ⟨⟨ktl [1, 1, 0, 0, 1, 1, 0, 1] (I5 5) (kt (bdy Try.f38) [1, 1, 0, 1, 0] []), upv (lsll_b8 g2) [(2, .int .i64 (-1)), (5, .int .i64 (-1)), (9, .bool true), (10, .pointer (some ⟨g2, 0, none⟩)), (11, .int .i64 (-1)), (12, .int .i64 (-1)), (13, .int .i64 0), (14, .bool true), (15, .int .i64 (-1))], [(g2, 3, lsll_c5), (γ1 1, 71, (lsll_c3 y0 y1 y2)), (γ1 0, 71, (lsll_c4 x0 x1 x2))]⟩, [(1, g2)], [(0 : Int) ≤ 0 ∧ 0 < ((2 : Nat) : Int)], by kernel_rfl, (.cons ⟨by omega, by omega⟩ .nil), ?_⟩
    refine dclr hR3 (.int .i64 (-1)) [] [] [true, true, true] .nil ?_
    refine df [12] [] [] [] [] .nil ?_
    refine de (fs := (kt (bdy Try.f37) [1, 0] []).tail) ?_
    refine st0 (fs := (kt (bdy Try.f37) [1, 0] []).tail) ((lsll_b11 x0 x1 x2 y0 y1 y2 γ1 g2)) [(g2, 3, lsll_c5), (γ1 1, 71, (lsll_c3 y0 y1 y2)), (γ1 0, 71, (lsll_c4 x0 x1 x2))] ?_
    refine rt (.int .i64 (-1)) [] [] (fun W hW => ?_)
    have hg : ordF (x0, x1, x2) (y0, y1, y2) = (-1) := by
      unfold ordF ltP
      simp only [decide_eq_true_eq]
      split <;> (try split) <;> omega
    rw [hg]
    exact ⟨rfl, (hW.old 0 rfl)⟩
  · skip
    refine enter (args := [.agg #[.int .i64 x0, .int .i64 x1, .int .i64 x2], .agg #[.int .i64 y0, .int .i64 y1, .int .i64 y2]]) (fn := Try.f37) rfl (c := bdy Try.f37) (by kernel_rfl) ?_
    refine ck 3 [] [] fun γ1 => ⟨⟨kt (bdy Try.f37) [1, 0] [], (lsle_b2 x0 x1 x2 y0 y1 y2 γ1), [(γ1 1, 71, (lsle_c3 y0 y1 y2)), (γ1 0, 71, (lsle_c4 x0 x1 x2))]⟩, [], [], by kernel_rfl, .nil, ?_⟩
    refine dr [] [] .nil ?_
    refine df [0, 1, 2, 3, 5, 6, 7, 8] [(1, 1), (1, 0), (1, 1), (1, 0)] [] [(1, γ1 0), (1, γ1 1), (1, γ1 0), (1, γ1 1)] [] .nil ?_
    refine dp 4 (fun W hW => cmp_is (r := (-1)) (cmp_lt h1) W) ?_
    refine dp 9 (fun W hW => cmp_is (r := 0) (cmp_eq h2) W) ?_
    refine dn 10 (v := fun g2 => .slice (some ⟨g2, 0, none⟩) 2 2) (b := fun g2 => (g2, 3, lsle_c5)) (fun g L => by kernel_rfl) fun g2 => ?_
    refine dcl 11 [] (f := 38) (args := [.slice (some ⟨g2, 0, none⟩) 2 2]) (fn := Try.f38) (c := bdy Try.f38) rfl (fun R3 hR3 => ?_)
    refine ck 5 [] [] fun γ4 => ⟨⟨kt (bdy Try.f38) [1, 1, 0, 1, 0] [], (lsle_b8 g2), [(g2, 3, lsle_c5), (γ1 1, 71, (lsle_c3 y0 y1 y2)), (γ1 0, 71, (lsle_c4 x0 x1 x2))]⟩, [], [], by kernel_rfl, .nil, ?_⟩
    refine lu 5 (fun I5 hI5 => ?_)
    refine ck 9 [(1, 0)] [] fun γ6 => ⟨⟨ktl [1, 1, 0, 0, 1, 1, 0, 1] (I5 5) (kt (bdy Try.f38) [1, 1, 0, 1, 0] []), upv (lsle_b8 g2) [(2, .int .i64 (-1)), (5, .int .i64 (-1)), (9, .bool true), (10, .pointer (some ⟨g2, 0, none⟩)), (11, .int .i64 (-1)), (12, .int .i64 (-1)), (13, .int .i64 0), (14, .bool true), (15, .int .i64 (-1))], [(g2, 3, lsle_c5), (γ1 1, 71, (lsle_c3 y0 y1 y2)), (γ1 0, 71, (lsle_c4 x0 x1 x2))]⟩, [(1, g2)], [(0 : Int) ≤ 0 ∧ 0 < ((2 : Nat) : Int)], by kernel_rfl, (.cons ⟨by omega, by omega⟩ .nil), ?_⟩
    refine dclr hR3 (.int .i64 (-1)) [] [] [true, true, true] .nil ?_
    refine df [12] [] [] [] [] .nil ?_
    refine de (fs := (kt (bdy Try.f37) [1, 0] []).tail) ?_
    refine st0 (fs := (kt (bdy Try.f37) [1, 0] []).tail) ((lsle_b11 x0 x1 x2 y0 y1 y2 γ1 g2)) [(g2, 3, lsle_c5), (γ1 1, 71, (lsle_c3 y0 y1 y2)), (γ1 0, 71, (lsle_c4 x0 x1 x2))] ?_
    refine rt (.int .i64 (-1)) [] [] (fun W hW => ?_)
    have hg : ordF (x0, x1, x2) (y0, y1, y2) = (-1) := by
      unfold ordF ltP
      simp only [decide_eq_true_eq]
      split <;> (try split) <;> omega
    rw [hg]
    exact ⟨rfl, (hW.old 0 rfl)⟩
  · skip
    refine enter (args := [.agg #[.int .i64 x0, .int .i64 x1, .int .i64 x2], .agg #[.int .i64 y0, .int .i64 y1, .int .i64 y2]]) (fn := Try.f37) rfl (c := bdy Try.f37) (by kernel_rfl) ?_
    refine ck 3 [] [] fun γ1 => ⟨⟨kt (bdy Try.f37) [1, 0] [], (lslg_b2 x0 x1 x2 y0 y1 y2 γ1), [(γ1 1, 71, (lslg_c3 y0 y1 y2)), (γ1 0, 71, (lslg_c4 x0 x1 x2))]⟩, [], [], by kernel_rfl, .nil, ?_⟩
    refine dr [] [] .nil ?_
    refine df [0, 1, 2, 3, 5, 6, 7, 8] [(1, 1), (1, 0), (1, 1), (1, 0)] [] [(1, γ1 0), (1, γ1 1), (1, γ1 0), (1, γ1 1)] [] .nil ?_
    refine dp 4 (fun W hW => cmp_is (r := (-1)) (cmp_lt h1) W) ?_
    refine dp 9 (fun W hW => cmp_is (r := 1) (cmp_gt h2) W) ?_
    refine dn 10 (v := fun g2 => .slice (some ⟨g2, 0, none⟩) 2 2) (b := fun g2 => (g2, 3, lslg_c5)) (fun g L => by kernel_rfl) fun g2 => ?_
    refine dcl 11 [] (f := 38) (args := [.slice (some ⟨g2, 0, none⟩) 2 2]) (fn := Try.f38) (c := bdy Try.f38) rfl (fun R3 hR3 => ?_)
    refine ck 5 [] [] fun γ4 => ⟨⟨kt (bdy Try.f38) [1, 1, 0, 1, 0] [], (lslg_b8 g2), [(g2, 3, lslg_c5), (γ1 1, 71, (lslg_c3 y0 y1 y2)), (γ1 0, 71, (lslg_c4 x0 x1 x2))]⟩, [], [], by kernel_rfl, .nil, ?_⟩
    refine lu 5 (fun I5 hI5 => ?_)
    refine ck 9 [(1, 0)] [] fun γ6 => ⟨⟨ktl [1, 1, 0, 0, 1, 1, 0, 1] (I5 5) (kt (bdy Try.f38) [1, 1, 0, 1, 0] []), upv (lslg_b8 g2) [(2, .int .i64 (-1)), (5, .int .i64 (-1)), (9, .bool true), (10, .pointer (some ⟨g2, 0, none⟩)), (11, .int .i64 (-1)), (12, .int .i64 (-1)), (13, .int .i64 0), (14, .bool true), (15, .int .i64 (-1))], [(g2, 3, lslg_c5), (γ1 1, 71, (lslg_c3 y0 y1 y2)), (γ1 0, 71, (lslg_c4 x0 x1 x2))]⟩, [(1, g2)], [(0 : Int) ≤ 0 ∧ 0 < ((2 : Nat) : Int)], by kernel_rfl, (.cons ⟨by omega, by omega⟩ .nil), ?_⟩
    refine dclr hR3 (.int .i64 (-1)) [] [] [true, true, true] .nil ?_
    refine df [12] [] [] [] [] .nil ?_
    refine de (fs := (kt (bdy Try.f37) [1, 0] []).tail) ?_
    refine st0 (fs := (kt (bdy Try.f37) [1, 0] []).tail) ((lslg_b11 x0 x1 x2 y0 y1 y2 γ1 g2)) [(g2, 3, lslg_c5), (γ1 1, 71, (lslg_c3 y0 y1 y2)), (γ1 0, 71, (lslg_c4 x0 x1 x2))] ?_
    refine rt (.int .i64 (-1)) [] [] (fun W hW => ?_)
    have hg : ordF (x0, x1, x2) (y0, y1, y2) = (-1) := by
      unfold ordF ltP
      simp only [decide_eq_true_eq]
      split <;> (try split) <;> omega
    rw [hg]
    exact ⟨rfl, (hW.old 0 rfl)⟩
  · skip
    refine enter (args := [.agg #[.int .i64 x0, .int .i64 x1, .int .i64 x2], .agg #[.int .i64 y0, .int .i64 y1, .int .i64 y2]]) (fn := Try.f37) rfl (c := bdy Try.f37) (by kernel_rfl) ?_
    refine ck 3 [] [] fun γ1 => ⟨⟨kt (bdy Try.f37) [1, 0] [], (lsel_b2 x0 x1 x2 y0 y1 y2 γ1), [(γ1 1, 71, (lsel_c3 y0 y1 y2)), (γ1 0, 71, (lsel_c4 x0 x1 x2))]⟩, [], [], by kernel_rfl, .nil, ?_⟩
    refine dr [] [] .nil ?_
    refine df [0, 1, 2, 3, 5, 6, 7, 8] [(1, 1), (1, 0), (1, 1), (1, 0)] [] [(1, γ1 0), (1, γ1 1), (1, γ1 0), (1, γ1 1)] [] .nil ?_
    refine dp 4 (fun W hW => cmp_is (r := 0) (cmp_eq h1) W) ?_
    refine dp 9 (fun W hW => cmp_is (r := (-1)) (cmp_lt h2) W) ?_
    refine dn 10 (v := fun g2 => .slice (some ⟨g2, 0, none⟩) 2 2) (b := fun g2 => (g2, 3, lsel_c5)) (fun g L => by kernel_rfl) fun g2 => ?_
    refine dcl 11 [] (f := 38) (args := [.slice (some ⟨g2, 0, none⟩) 2 2]) (fn := Try.f38) (c := bdy Try.f38) rfl (fun R3 hR3 => ?_)
    refine ck 5 [] [] fun γ4 => ⟨⟨kt (bdy Try.f38) [1, 1, 0, 1, 0] [], (lsel_b8 g2), [(g2, 3, lsel_c5), (γ1 1, 71, (lsel_c3 y0 y1 y2)), (γ1 0, 71, (lsel_c4 x0 x1 x2))]⟩, [], [], by kernel_rfl, .nil, ?_⟩
    refine lu 5 (fun I5 hI5 => ?_)
    refine ck 9 [(1, 0)] [] fun γ6 => ⟨⟨ktp (I5 5) (kt (bdy Try.f38) [1, 1, 0, 1, 0] []), upv (lsel_b8 g2) [(5, .int .i64 0), (8, .int .i64 1), (9, .bool true), (10, .pointer (some ⟨g2, 0, none⟩)), (11, .int .i64 0), (12, .int .i64 0), (13, .int .i64 0), (14, .bool false), (16, .int .i64 1)], [(g2, 3, lsel_c5), (γ1 1, 71, (lsel_c3 y0 y1 y2)), (γ1 0, 71, (lsel_c4 x0 x1 x2))]⟩, [(1, g2)], [(0 : Int) ≤ 0 ∧ 0 < ((2 : Nat) : Int)], by kernel_rfl, (.cons ⟨by omega, by omega⟩ .nil), ?_⟩
    refine lv hI5 4 ?_
    refine ck 9 [(1, 0)] [] fun γ7 => ⟨⟨ktl [1, 1, 0, 0, 1, 1, 0, 1] (I5 4) (kt (bdy Try.f38) [1, 1, 0, 1, 0] []), upv (lsel_b8 g2) [(2, .int .i64 (-1)), (5, .int .i64 (-1)), (8, .int .i64 1), (9, .bool true), (10, .pointer (some ⟨g2, 1, none⟩)), (11, .int .i64 (-1)), (12, .int .i64 (-1)), (13, .int .i64 0), (14, .bool true), (15, .int .i64 (-1)), (16, .int .i64 1)], [(g2, 3, lsel_c5), (γ1 1, 71, (lsel_c3 y0 y1 y2)), (γ1 0, 71, (lsel_c4 x0 x1 x2))]⟩, [(1, g2)], [(0 : Int) ≤ 1 ∧ 1 < ((2 : Nat) : Int)], by kernel_rfl, (.cons ⟨by omega, by omega⟩ .nil), ?_⟩
    refine dclr hR3 (.int .i64 (-1)) [] [] [true, true, true] .nil ?_
    refine df [12] [] [] [] [] .nil ?_
    refine de (fs := (kt (bdy Try.f37) [1, 0] []).tail) ?_
    refine st0 (fs := (kt (bdy Try.f37) [1, 0] []).tail) ((lsel_b11 x0 x1 x2 y0 y1 y2 γ1 g2)) [(g2, 3, lsel_c5), (γ1 1, 71, (lsel_c3 y0 y1 y2)), (γ1 0, 71, (lsel_c4 x0 x1 x2))] ?_
    refine rt (.int .i64 (-1)) [] [] (fun W hW => ?_)
    have hg : ordF (x0, x1, x2) (y0, y1, y2) = (-1) := by
      unfold ordF ltP
      simp only [decide_eq_true_eq]
      split <;> (try split) <;> omega
    rw [hg]
    exact ⟨rfl, (hW.old 0 rfl)⟩
  · skip
    refine enter (args := [.agg #[.int .i64 x0, .int .i64 x1, .int .i64 x2], .agg #[.int .i64 y0, .int .i64 y1, .int .i64 y2]]) (fn := Try.f37) rfl (c := bdy Try.f37) (by kernel_rfl) ?_
    refine ck 3 [] [] fun γ1 => ⟨⟨kt (bdy Try.f37) [1, 0] [], (lsee_b2 x0 x1 x2 y0 y1 y2 γ1), [(γ1 1, 71, (lsee_c3 y0 y1 y2)), (γ1 0, 71, (lsee_c4 x0 x1 x2))]⟩, [], [], by kernel_rfl, .nil, ?_⟩
    refine dr [] [] .nil ?_
    refine df [0, 1, 2, 3, 5, 6, 7, 8] [(1, 1), (1, 0), (1, 1), (1, 0)] [] [(1, γ1 0), (1, γ1 1), (1, γ1 0), (1, γ1 1)] [] .nil ?_
    refine dp 4 (fun W hW => cmp_is (r := 0) (cmp_eq h1) W) ?_
    refine dp 9 (fun W hW => cmp_is (r := 0) (cmp_eq h2) W) ?_
    refine dn 10 (v := fun g2 => .slice (some ⟨g2, 0, none⟩) 2 2) (b := fun g2 => (g2, 3, [.int .i64 0, .int .i64 0])) (fun g L => by kernel_rfl) fun g2 => ?_
    refine dcl 11 [] (f := 38) (args := [.slice (some ⟨g2, 0, none⟩) 2 2]) (fn := Try.f38) (c := bdy Try.f38) rfl (fun R3 hR3 => ?_)
    refine ck 5 [] [] fun γ4 => ⟨⟨kt (bdy Try.f38) [1, 1, 0, 1, 0] [], (lsee_b7 g2), [(g2, 3, [.int .i64 0, .int .i64 0]), (γ1 1, 71, (lsee_c3 y0 y1 y2)), (γ1 0, 71, (lsee_c4 x0 x1 x2))]⟩, [], [], by kernel_rfl, .nil, ?_⟩
    refine lu 5 (fun I5 hI5 => ?_)
    refine ck 9 [(1, 0)] [] fun γ6 => ⟨⟨ktp (I5 5) (kt (bdy Try.f38) [1, 1, 0, 1, 0] []), upv (lsee_b7 g2) [(5, .int .i64 0), (8, .int .i64 1), (9, .bool true), (10, .pointer (some ⟨g2, 0, none⟩)), (11, .int .i64 0), (12, .int .i64 0), (13, .int .i64 0), (14, .bool false), (16, .int .i64 1)], [(g2, 3, [.int .i64 0, .int .i64 0]), (γ1 1, 71, (lsee_c3 y0 y1 y2)), (γ1 0, 71, (lsee_c4 x0 x1 x2))]⟩, [(1, g2)], [(0 : Int) ≤ 0 ∧ 0 < ((2 : Nat) : Int)], by kernel_rfl, (.cons ⟨by omega, by omega⟩ .nil), ?_⟩
    refine lv hI5 4 ?_
    refine ck 9 [(1, 0)] [] fun γ7 => ⟨⟨ktp (I5 4) (kt (bdy Try.f38) [1, 1, 0, 1, 0] []), upv (lsee_b7 g2) [(5, .int .i64 0), (8, .int .i64 2), (9, .bool true), (10, .pointer (some ⟨g2, 1, none⟩)), (11, .int .i64 0), (12, .int .i64 0), (13, .int .i64 0), (14, .bool false), (16, .int .i64 2)], [(g2, 3, [.int .i64 0, .int .i64 0]), (γ1 1, 71, (lsee_c3 y0 y1 y2)), (γ1 0, 71, (lsee_c4 x0 x1 x2))]⟩, [(1, g2)], [(0 : Int) ≤ 1 ∧ 1 < ((2 : Nat) : Int)], by kernel_rfl, (.cons ⟨by omega, by omega⟩ .nil), ?_⟩
    refine lv hI5 3 ?_
    refine ck 3 [] [] fun γ8 => ⟨⟨kt (bdy Try.f38) [1, 1, 1, 1] [], upv (lsee_b7 g2) [(5, .int .i64 0), (8, .int .i64 2), (9, .bool false), (10, .pointer (some ⟨g2, 1, none⟩)), (11, .int .i64 0), (12, .int .i64 0), (13, .int .i64 0), (14, .bool false), (16, .int .i64 2), (17, .int .i64 0)], [(g2, 3, [.int .i64 0, .int .i64 0]), (γ1 1, 71, (lsee_c3 y0 y1 y2)), (γ1 0, 71, (lsee_c4 x0 x1 x2))]⟩, [], [], by kernel_rfl, .nil, ?_⟩
    refine dclr hR3 (.int .i64 0) [] [] [true, true, true] .nil ?_
    refine df [12] [] [] [] [] .nil ?_
    refine de (fs := (kt (bdy Try.f37) [1, 0] []).tail) ?_
    refine st0 (fs := (kt (bdy Try.f37) [1, 0] []).tail) ((lsee_b10 x0 x1 x2 y0 y1 y2 γ1 g2)) [(g2, 3, [.int .i64 0, .int .i64 0]), (γ1 1, 71, (lsee_c3 y0 y1 y2)), (γ1 0, 71, (lsee_c4 x0 x1 x2))] ?_
    refine rt (.int .i64 0) [] [] (fun W hW => ?_)
    have hg : ordF (x0, x1, x2) (y0, y1, y2) = 0 := by
      unfold ordF ltP
      simp only [decide_eq_true_eq]
      split <;> (try split) <;> omega
    rw [hg]
    exact ⟨rfl, (hW.old 0 rfl)⟩
  · skip
    refine enter (args := [.agg #[.int .i64 x0, .int .i64 x1, .int .i64 x2], .agg #[.int .i64 y0, .int .i64 y1, .int .i64 y2]]) (fn := Try.f37) rfl (c := bdy Try.f37) (by kernel_rfl) ?_
    refine ck 3 [] [] fun γ1 => ⟨⟨kt (bdy Try.f37) [1, 0] [], (lseg_b2 x0 x1 x2 y0 y1 y2 γ1), [(γ1 1, 71, (lseg_c3 y0 y1 y2)), (γ1 0, 71, (lseg_c4 x0 x1 x2))]⟩, [], [], by kernel_rfl, .nil, ?_⟩
    refine dr [] [] .nil ?_
    refine df [0, 1, 2, 3, 5, 6, 7, 8] [(1, 1), (1, 0), (1, 1), (1, 0)] [] [(1, γ1 0), (1, γ1 1), (1, γ1 0), (1, γ1 1)] [] .nil ?_
    refine dp 4 (fun W hW => cmp_is (r := 0) (cmp_eq h1) W) ?_
    refine dp 9 (fun W hW => cmp_is (r := 1) (cmp_gt h2) W) ?_
    refine dn 10 (v := fun g2 => .slice (some ⟨g2, 0, none⟩) 2 2) (b := fun g2 => (g2, 3, [.int .i64 0, .int .i64 1])) (fun g L => by kernel_rfl) fun g2 => ?_
    refine dcl 11 [] (f := 38) (args := [.slice (some ⟨g2, 0, none⟩) 2 2]) (fn := Try.f38) (c := bdy Try.f38) rfl (fun R3 hR3 => ?_)
    refine ck 5 [] [] fun γ4 => ⟨⟨kt (bdy Try.f38) [1, 1, 0, 1, 0] [], (lseg_b7 g2), [(g2, 3, [.int .i64 0, .int .i64 1]), (γ1 1, 71, (lseg_c3 y0 y1 y2)), (γ1 0, 71, (lseg_c4 x0 x1 x2))]⟩, [], [], by kernel_rfl, .nil, ?_⟩
    refine lu 5 (fun I5 hI5 => ?_)
    refine ck 9 [(1, 0)] [] fun γ6 => ⟨⟨ktp (I5 5) (kt (bdy Try.f38) [1, 1, 0, 1, 0] []), upv (lseg_b7 g2) [(5, .int .i64 0), (8, .int .i64 1), (9, .bool true), (10, .pointer (some ⟨g2, 0, none⟩)), (11, .int .i64 0), (12, .int .i64 0), (13, .int .i64 0), (14, .bool false), (16, .int .i64 1)], [(g2, 3, [.int .i64 0, .int .i64 1]), (γ1 1, 71, (lseg_c3 y0 y1 y2)), (γ1 0, 71, (lseg_c4 x0 x1 x2))]⟩, [(1, g2)], [(0 : Int) ≤ 0 ∧ 0 < ((2 : Nat) : Int)], by kernel_rfl, (.cons ⟨by omega, by omega⟩ .nil), ?_⟩
    refine lv hI5 4 ?_
    refine ck 9 [(1, 0)] [] fun γ7 => ⟨⟨ktl [1, 1, 0, 0, 1, 1, 0, 1] (I5 4) (kt (bdy Try.f38) [1, 1, 0, 1, 0] []), upv (lseg_b7 g2) [(2, .int .i64 1), (5, .int .i64 1), (8, .int .i64 1), (9, .bool true), (10, .pointer (some ⟨g2, 1, none⟩)), (11, .int .i64 1), (12, .int .i64 1), (13, .int .i64 0), (14, .bool true), (15, .int .i64 1), (16, .int .i64 1)], [(g2, 3, [.int .i64 0, .int .i64 1]), (γ1 1, 71, (lseg_c3 y0 y1 y2)), (γ1 0, 71, (lseg_c4 x0 x1 x2))]⟩, [(1, g2)], [(0 : Int) ≤ 1 ∧ 1 < ((2 : Nat) : Int)], by kernel_rfl, (.cons ⟨by omega, by omega⟩ .nil), ?_⟩
    refine dclr hR3 (.int .i64 1) [] [] [true, true, true] .nil ?_
    refine df [12] [] [] [] [] .nil ?_
    refine de (fs := (kt (bdy Try.f37) [1, 0] []).tail) ?_
    refine st0 (fs := (kt (bdy Try.f37) [1, 0] []).tail) ((lseg_b10 x0 x1 x2 y0 y1 y2 γ1 g2)) [(g2, 3, [.int .i64 0, .int .i64 1]), (γ1 1, 71, (lseg_c3 y0 y1 y2)), (γ1 0, 71, (lseg_c4 x0 x1 x2))] ?_
    refine rt (.int .i64 1) [] [] (fun W hW => ?_)
    have hg : ordF (x0, x1, x2) (y0, y1, y2) = 1 := by
      unfold ordF ltP
      simp only [decide_eq_true_eq]
      split <;> (try split) <;> omega
    rw [hg]
    exact ⟨rfl, (hW.old 0 rfl)⟩
  · skip
    refine enter (args := [.agg #[.int .i64 x0, .int .i64 x1, .int .i64 x2], .agg #[.int .i64 y0, .int .i64 y1, .int .i64 y2]]) (fn := Try.f37) rfl (c := bdy Try.f37) (by kernel_rfl) ?_
    refine ck 3 [] [] fun γ1 => ⟨⟨kt (bdy Try.f37) [1, 0] [], (lsgl_b2 x0 x1 x2 y0 y1 y2 γ1), [(γ1 1, 71, (lsgl_c3 y0 y1 y2)), (γ1 0, 71, (lsgl_c4 x0 x1 x2))]⟩, [], [], by kernel_rfl, .nil, ?_⟩
    refine dr [] [] .nil ?_
    refine df [0, 1, 2, 3, 5, 6, 7, 8] [(1, 1), (1, 0), (1, 1), (1, 0)] [] [(1, γ1 0), (1, γ1 1), (1, γ1 0), (1, γ1 1)] [] .nil ?_
    refine dp 4 (fun W hW => cmp_is (r := 1) (cmp_gt h1) W) ?_
    refine dp 9 (fun W hW => cmp_is (r := (-1)) (cmp_lt h2) W) ?_
    refine dn 10 (v := fun g2 => .slice (some ⟨g2, 0, none⟩) 2 2) (b := fun g2 => (g2, 3, lsgl_c5)) (fun g L => by kernel_rfl) fun g2 => ?_
    refine dcl 11 [] (f := 38) (args := [.slice (some ⟨g2, 0, none⟩) 2 2]) (fn := Try.f38) (c := bdy Try.f38) rfl (fun R3 hR3 => ?_)
    refine ck 5 [] [] fun γ4 => ⟨⟨kt (bdy Try.f38) [1, 1, 0, 1, 0] [], (lsgl_b8 g2), [(g2, 3, lsgl_c5), (γ1 1, 71, (lsgl_c3 y0 y1 y2)), (γ1 0, 71, (lsgl_c4 x0 x1 x2))]⟩, [], [], by kernel_rfl, .nil, ?_⟩
    refine lu 5 (fun I5 hI5 => ?_)
    refine ck 9 [(1, 0)] [] fun γ6 => ⟨⟨ktl [1, 1, 0, 0, 1, 1, 0, 1] (I5 5) (kt (bdy Try.f38) [1, 1, 0, 1, 0] []), upv (lsgl_b8 g2) [(2, .int .i64 1), (5, .int .i64 1), (9, .bool true), (10, .pointer (some ⟨g2, 0, none⟩)), (11, .int .i64 1), (12, .int .i64 1), (13, .int .i64 0), (14, .bool true), (15, .int .i64 1)], [(g2, 3, lsgl_c5), (γ1 1, 71, (lsgl_c3 y0 y1 y2)), (γ1 0, 71, (lsgl_c4 x0 x1 x2))]⟩, [(1, g2)], [(0 : Int) ≤ 0 ∧ 0 < ((2 : Nat) : Int)], by kernel_rfl, (.cons ⟨by omega, by omega⟩ .nil), ?_⟩
    refine dclr hR3 (.int .i64 1) [] [] [true, true, true] .nil ?_
    refine df [12] [] [] [] [] .nil ?_
    refine de (fs := (kt (bdy Try.f37) [1, 0] []).tail) ?_
    refine st0 (fs := (kt (bdy Try.f37) [1, 0] []).tail) ((lsgl_b11 x0 x1 x2 y0 y1 y2 γ1 g2)) [(g2, 3, lsgl_c5), (γ1 1, 71, (lsgl_c3 y0 y1 y2)), (γ1 0, 71, (lsgl_c4 x0 x1 x2))] ?_
    refine rt (.int .i64 1) [] [] (fun W hW => ?_)
    have hg : ordF (x0, x1, x2) (y0, y1, y2) = 1 := by
      unfold ordF ltP
      simp only [decide_eq_true_eq]
      split <;> (try split) <;> omega
    rw [hg]
    exact ⟨rfl, (hW.old 0 rfl)⟩
  · skip
    refine enter (args := [.agg #[.int .i64 x0, .int .i64 x1, .int .i64 x2], .agg #[.int .i64 y0, .int .i64 y1, .int .i64 y2]]) (fn := Try.f37) rfl (c := bdy Try.f37) (by kernel_rfl) ?_
    refine ck 3 [] [] fun γ1 => ⟨⟨kt (bdy Try.f37) [1, 0] [], (lsge_b2 x0 x1 x2 y0 y1 y2 γ1), [(γ1 1, 71, (lsge_c3 y0 y1 y2)), (γ1 0, 71, (lsge_c4 x0 x1 x2))]⟩, [], [], by kernel_rfl, .nil, ?_⟩
    refine dr [] [] .nil ?_
    refine df [0, 1, 2, 3, 5, 6, 7, 8] [(1, 1), (1, 0), (1, 1), (1, 0)] [] [(1, γ1 0), (1, γ1 1), (1, γ1 0), (1, γ1 1)] [] .nil ?_
    refine dp 4 (fun W hW => cmp_is (r := 1) (cmp_gt h1) W) ?_
    refine dp 9 (fun W hW => cmp_is (r := 0) (cmp_eq h2) W) ?_
    refine dn 10 (v := fun g2 => .slice (some ⟨g2, 0, none⟩) 2 2) (b := fun g2 => (g2, 3, [.int .i64 1, .int .i64 0])) (fun g L => by kernel_rfl) fun g2 => ?_
    refine dcl 11 [] (f := 38) (args := [.slice (some ⟨g2, 0, none⟩) 2 2]) (fn := Try.f38) (c := bdy Try.f38) rfl (fun R3 hR3 => ?_)
    refine ck 5 [] [] fun γ4 => ⟨⟨kt (bdy Try.f38) [1, 1, 0, 1, 0] [], (lsge_b7 g2), [(g2, 3, [.int .i64 1, .int .i64 0]), (γ1 1, 71, (lsge_c3 y0 y1 y2)), (γ1 0, 71, (lsge_c4 x0 x1 x2))]⟩, [], [], by kernel_rfl, .nil, ?_⟩
    refine lu 5 (fun I5 hI5 => ?_)
    refine ck 9 [(1, 0)] [] fun γ6 => ⟨⟨ktl [1, 1, 0, 0, 1, 1, 0, 1] (I5 5) (kt (bdy Try.f38) [1, 1, 0, 1, 0] []), upv (lsge_b7 g2) [(2, .int .i64 1), (5, .int .i64 1), (9, .bool true), (10, .pointer (some ⟨g2, 0, none⟩)), (11, .int .i64 1), (12, .int .i64 1), (13, .int .i64 0), (14, .bool true), (15, .int .i64 1)], [(g2, 3, [.int .i64 1, .int .i64 0]), (γ1 1, 71, (lsge_c3 y0 y1 y2)), (γ1 0, 71, (lsge_c4 x0 x1 x2))]⟩, [(1, g2)], [(0 : Int) ≤ 0 ∧ 0 < ((2 : Nat) : Int)], by kernel_rfl, (.cons ⟨by omega, by omega⟩ .nil), ?_⟩
    refine dclr hR3 (.int .i64 1) [] [] [true, true, true] .nil ?_
    refine df [12] [] [] [] [] .nil ?_
    refine de (fs := (kt (bdy Try.f37) [1, 0] []).tail) ?_
    refine st0 (fs := (kt (bdy Try.f37) [1, 0] []).tail) ((lsge_b10 x0 x1 x2 y0 y1 y2 γ1 g2)) [(g2, 3, [.int .i64 1, .int .i64 0]), (γ1 1, 71, (lsge_c3 y0 y1 y2)), (γ1 0, 71, (lsge_c4 x0 x1 x2))] ?_
    refine rt (.int .i64 1) [] [] (fun W hW => ?_)
    have hg : ordF (x0, x1, x2) (y0, y1, y2) = 1 := by
      unfold ordF ltP
      simp only [decide_eq_true_eq]
      split <;> (try split) <;> omega
    rw [hg]
    exact ⟨rfl, (hW.old 0 rfl)⟩
  · skip
    refine enter (args := [.agg #[.int .i64 x0, .int .i64 x1, .int .i64 x2], .agg #[.int .i64 y0, .int .i64 y1, .int .i64 y2]]) (fn := Try.f37) rfl (c := bdy Try.f37) (by kernel_rfl) ?_
    refine ck 3 [] [] fun γ1 => ⟨⟨kt (bdy Try.f37) [1, 0] [], (lsgg_b2 x0 x1 x2 y0 y1 y2 γ1), [(γ1 1, 71, (lsgg_c3 y0 y1 y2)), (γ1 0, 71, (lsgg_c4 x0 x1 x2))]⟩, [], [], by kernel_rfl, .nil, ?_⟩
    refine dr [] [] .nil ?_
    refine df [0, 1, 2, 3, 5, 6, 7, 8] [(1, 1), (1, 0), (1, 1), (1, 0)] [] [(1, γ1 0), (1, γ1 1), (1, γ1 0), (1, γ1 1)] [] .nil ?_
    refine dp 4 (fun W hW => cmp_is (r := 1) (cmp_gt h1) W) ?_
    refine dp 9 (fun W hW => cmp_is (r := 1) (cmp_gt h2) W) ?_
    refine dn 10 (v := fun g2 => .slice (some ⟨g2, 0, none⟩) 2 2) (b := fun g2 => (g2, 3, [.int .i64 1, .int .i64 1])) (fun g L => by kernel_rfl) fun g2 => ?_
    refine dcl 11 [] (f := 38) (args := [.slice (some ⟨g2, 0, none⟩) 2 2]) (fn := Try.f38) (c := bdy Try.f38) rfl (fun R3 hR3 => ?_)
    refine ck 5 [] [] fun γ4 => ⟨⟨kt (bdy Try.f38) [1, 1, 0, 1, 0] [], (lsgg_b7 g2), [(g2, 3, [.int .i64 1, .int .i64 1]), (γ1 1, 71, (lsgg_c3 y0 y1 y2)), (γ1 0, 71, (lsgg_c4 x0 x1 x2))]⟩, [], [], by kernel_rfl, .nil, ?_⟩
    refine lu 5 (fun I5 hI5 => ?_)
    refine ck 9 [(1, 0)] [] fun γ6 => ⟨⟨ktl [1, 1, 0, 0, 1, 1, 0, 1] (I5 5) (kt (bdy Try.f38) [1, 1, 0, 1, 0] []), upv (lsgg_b7 g2) [(2, .int .i64 1), (5, .int .i64 1), (9, .bool true), (10, .pointer (some ⟨g2, 0, none⟩)), (11, .int .i64 1), (12, .int .i64 1), (13, .int .i64 0), (14, .bool true), (15, .int .i64 1)], [(g2, 3, [.int .i64 1, .int .i64 1]), (γ1 1, 71, (lsgg_c3 y0 y1 y2)), (γ1 0, 71, (lsgg_c4 x0 x1 x2))]⟩, [(1, g2)], [(0 : Int) ≤ 0 ∧ 0 < ((2 : Nat) : Int)], by kernel_rfl, (.cons ⟨by omega, by omega⟩ .nil), ?_⟩
    refine dclr hR3 (.int .i64 1) [] [] [true, true, true] .nil ?_
    refine df [12] [] [] [] [] .nil ?_
    refine de (fs := (kt (bdy Try.f37) [1, 0] []).tail) ?_
    refine st0 (fs := (kt (bdy Try.f37) [1, 0] []).tail) ((lsgg_b10 x0 x1 x2 y0 y1 y2 γ1 g2)) [(g2, 3, [.int .i64 1, .int .i64 1]), (γ1 1, 71, (lsgg_c3 y0 y1 y2)), (γ1 0, 71, (lsgg_c4 x0 x1 x2))] ?_
    refine rt (.int .i64 1) [] [] (fun W hW => ?_)
    have hg : ordF (x0, x1, x2) (y0, y1, y2) = 1 := by
      unfold ordF ltP
      simp only [decide_eq_true_eq]
      split <;> (try split) <;> omega
    rw [hg]
    exact ⟨rfl, (hW.old 0 rfl)⟩
theorem mem_get {x : P3} {xs : List P3} {i : Nat} (h : i < xs.length) (e : xs[i]! = x) : x ∈ xs := by
  rw [getElem!_pos xs i h] at e
  exact e ▸ List.getElem_mem h
theorem get_mem {xs : List P3} {i : Nat} (h : i < xs.length) : xs[i]! ∈ xs := mem_get h rfl
theorem lt_irr (x : P3) : ltP x x = false := by
  unfold ltP
  exact decide_eq_false (by omega)
theorem lt_asym {x y : P3} (h : ltP x y = true) : ltP y x = false := by
  unfold ltP at *
  have h := of_decide_eq_true h
  exact decide_eq_false (by omega)
theorem lt_ntrans {x y z : P3} (h1 : ltP x y = false) (h2 : ltP y z = false) : ltP x z = false := by
  unfold ltP at *
  have h1 := of_decide_eq_false h1
  have h2 := of_decide_eq_false h2
  exact decide_eq_false (by omega)
theorem lt_conn {x y : P3} (hk : x.1 = y.1) (h1 : ltP x y = false) (h2 : ltP y x = false) : x = y := by
  unfold ltP at *
  have h1 := of_decide_eq_false h1
  have h2 := of_decide_eq_false h2
  exact Prod.ext (by omega) (Prod.ext (by omega) (by omega))
structure SO (k0 ks : List P3) (i : Nat) : Prop where
  perm : k0.Perm ks
  srt : ∀ p q, p < q → q < i → q < ks.length → ltP ks[q]! ks[p]! = false
structure SI (k0 ks : List P3) (i j : Nat) : Prop where
  perm : k0.Perm ks
  le : j ≤ i
  lt : i < ks.length
  a : ∀ p q, p < q → q ≤ i → p ≠ j → q ≠ j → ltP ks[q]! ks[p]! = false
  b : ∀ q, j < q → q ≤ i → ltP ks[q]! ks[j]! = false
theorem si_start {k0 ks : List P3} {i : Nat} (h : SO k0 ks i) (hi : i < ks.length) : SI k0 ks i i :=
  ⟨h.perm, Nat.le_refl _, hi, fun p q hpq hq hp hqi => h.srt p q hpq (by omega) (by omega), fun q hq hq2 => by omega⟩
def swp (ks : List P3) (j : Nat) : List P3 := (ks.set j ks[j - 1]!).set (j - 1) ks[j]!
theorem swp_len (ks : List P3) (j : Nat) : (swp ks j).length = ks.length := by simp [swp]
theorem swp_get {ks : List P3} {j : Nat} (hj : 0 < j) (hl : j < ks.length) (q : Nat) : (swp ks j)[q]! = if q = j then ks[j - 1]! else if q = j - 1 then ks[j]! else ks[q]! := by
  by_cases hq : q < ks.length
  · rw [getElem!_pos (swp ks j) q (by rw [swp_len]; exact hq)]
    simp only [swp, List.getElem_set]
    split
    · rename_i e
      rw [if_neg (by omega), if_pos e.symm]
    · rename_i e
      split
      · rename_i e2
        rw [if_pos e2.symm]
      · rename_i e2
        rw [if_neg (fun h => e2 h.symm), if_neg (fun h => e h.symm), getElem!_pos ks q hq]
  · rw [getElem!_neg (swp ks j) q (by rw [swp_len]; exact hq), if_neg (by omega), if_neg (by omega), getElem!_neg ks q hq]
theorem swp_perm {ks : List P3} {j : Nat} (hj : 0 < j) (hl : j < ks.length) : ks.Perm (swp ks j) := by
  unfold swp
  rw [getElem!_pos ks (j - 1) (by omega), getElem!_pos ks j hl]
  exact (List.set_set_perm (i := j) (j := j - 1) hl (by omega)).symm
theorem si_step {k0 ks : List P3} {i j : Nat} (h : SI k0 ks i j) (hj : 0 < j) (hlt : ltP ks[j]! ks[j - 1]! = true) : SI k0 (swp ks j) i (j - 1) := by
  have hjl : j < ks.length := Nat.lt_of_le_of_lt h.le h.lt
  refine ⟨h.perm.trans (swp_perm hj hjl), by have := h.le; omega, by rw [swp_len]; exact h.lt, fun p q hpq hq hp hqj => ?_, fun q hq hqi => ?_⟩
  · rw [swp_get hj hjl, swp_get hj hjl]
    by_cases e1 : q = j
    · subst e1
      rw [if_pos rfl, if_neg (by omega), if_neg hp]
      exact h.a p (q - 1) (by omega) (by omega) (by omega) (by omega)
    · rw [if_neg e1, if_neg hqj]
      by_cases e2 : p = j
      · subst e2
        rw [if_pos rfl]
        exact h.a (p - 1) q (by omega) hq (by omega) e1
      · rw [if_neg e2, if_neg hp]
        exact h.a p q hpq hq e2 e1
  · rw [swp_get hj hjl, swp_get hj hjl, if_neg (show ¬ j - 1 = j by omega), if_pos rfl]
    by_cases e1 : q = j
    · rw [if_pos e1]
      exact lt_asym hlt
    · rw [if_neg e1, if_neg (by omega)]
      exact h.b q (by omega) hqi
theorem si_end {k0 ks : List P3} {i j : Nat} (h : SI k0 ks i j) (hj : j = 0 ∨ ltP ks[j]! ks[j - 1]! = false) : SO k0 ks (i + 1) := by
  refine ⟨h.perm, fun p q hpq hq hql => ?_⟩
  by_cases e1 : q = j
  · subst e1
    rcases hj with hj | hj
    · omega
    · by_cases e2 : p = q - 1
      · rw [e2]
        exact hj
      · exact lt_ntrans hj (h.a p (q - 1) (by omega) (by omega) (by omega) (by omega))
  · by_cases e2 : p = j
    · subst e2
      exact h.b q hpq (by omega)
    · exact h.a p q hpq (by omega) e2 e1
/-- Neighbours that are alike become one. -/
def ddup : List P3 → List P3
  | [] => []
  | [x] => [x]
  | x :: y :: l => if x = y then ddup (y :: l) else x :: ddup (y :: l)
theorem ddup_mem : ∀ (l : List P3) (z : P3), z ∈ ddup l ↔ z ∈ l
  | [], z => by simp [ddup]
  | [x], z => by simp [ddup]
  | x :: y :: l, z => by
    unfold ddup
    split
    · rename_i e
      subst e
      rw [ddup_mem (x :: l) z]
      simp
    · rw [List.mem_cons, ddup_mem (y :: l) z, List.mem_cons (a := z) (b := x)]
theorem ddup_head : ∀ (x : P3) (l : List P3), ∃ r, ddup (x :: l) = x :: r
  | x, [] => ⟨[], rfl⟩
  | x, y :: l => by
    unfold ddup
    split
    · rename_i e
      subst e
      exact ddup_head x l
    · exact ⟨_, rfl⟩
abbrev Ris (l : List P3) : Prop := l.Pairwise fun x y => ltP x y = true
theorem ddup_ris : ∀ (l : List P3), (∀ z ∈ l, z.1 = 6) → (l.Pairwise fun x y => ltP y x = false) → Ris (ddup l)
  | [], _, _ => List.Pairwise.nil
  | [x], _, _ => List.pairwise_singleton _ _
  | x :: y :: l, hk, h => by
    have h1 := List.pairwise_cons.1 h
    unfold ddup
    split
    · exact ddup_ris (y :: l) (fun z hz => hk z (List.mem_cons_of_mem _ hz)) h1.2
    · rename_i hne
      refine List.pairwise_cons.2 ⟨fun z hz => ?_, ddup_ris (y :: l) (fun z hz => hk z (List.mem_cons_of_mem _ hz)) h1.2⟩
      have hz' := (ddup_mem (y :: l) z).1 hz
      have h2 := h1.1 z hz'
      cases h3 : ltP x z with
      | true => rfl
      | false =>
        have e := lt_conn ((hk x List.mem_cons_self).trans (hk z (List.mem_cons_of_mem _ hz')).symm) h3 h2
        subst e
        rcases List.mem_cons.1 hz' with e | hm
        · exact absurd e hne
        · have h4 := (List.pairwise_cons.1 h1.2).1 x hm
          have h5 := h1.1 y List.mem_cons_self
          exact absurd (lt_conn ((hk x List.mem_cons_self).trans (hk y (List.mem_cons_of_mem _ List.mem_cons_self)).symm) h4 h5) hne
theorem lt_trans {x y z : P3} (h1 : ltP x y = true) (h2 : ltP y z = true) : ltP x z = true := by
  unfold ltP at *
  have h1 := of_decide_eq_true h1
  have h2 := of_decide_eq_true h2
  exact decide_eq_true (by omega)
theorem ris_uniq : ∀ (a b : List P3), Ris a → Ris b → (∀ z, z ∈ a ↔ z ∈ b) → a = b
  | [], [], _, _, _ => rfl
  | [], y :: b, _, _, h => absurd ((h y).2 List.mem_cons_self) (by simp)
  | x :: a, [], _, _, h => absurd ((h x).1 List.mem_cons_self) (by simp)
  | x :: a, y :: b, ha, hb, h => by
    have ha1 := List.pairwise_cons.1 ha
    have hb1 := List.pairwise_cons.1 hb
    have e : x = y := by
      rcases List.mem_cons.1 ((h x).1 List.mem_cons_self) with e | hm
      · exact e
      · rcases List.mem_cons.1 ((h y).2 List.mem_cons_self) with e | hm2
        · exact e.symm
        · have h1 := lt_asym (hb1.1 x hm)
          rw [ha1.1 y hm2] at h1
          cases h1
    subst e
    have e2 : a = b := by
      refine ris_uniq a b ha1.2 hb1.2 fun z => ⟨fun hz => ?_, fun hz => ?_⟩
      · rcases List.mem_cons.1 ((h z).1 (List.mem_cons_of_mem _ hz)) with e | hm
        · subst e
          have h1 := ha1.1 z hz
          rw [lt_irr] at h1
          cases h1
        · exact hm
      · rcases List.mem_cons.1 ((h z).2 (List.mem_cons_of_mem _ hz)) with e | hm
        · subst e
          have h1 := hb1.1 z hz
          rw [lt_irr] at h1
          cases h1
        · exact hm
    rw [e2]
theorem ddup_snoc : ∀ (l : List P3) (x y : P3), ddup (l ++ [x, y]) = if x = y then ddup (l ++ [x]) else ddup (l ++ [x]) ++ [y]
  | [], x, y => by
    by_cases h : x = y
    · subst h
      simp [ddup]
    · simp [ddup, h]
  | [a], x, y => by
    have h := ddup_snoc [] x y
    simp only [List.nil_append, List.cons_append] at h ⊢
    unfold ddup
    rw [h]
    by_cases h1 : a = x <;> by_cases h2 : x = y <;> simp [h1, h2, ddup]
  | a :: b :: l, x, y => by
    have h := ddup_snoc (b :: l) x y
    simp only [List.cons_append] at h ⊢
    unfold ddup
    rw [h]
    by_cases h1 : a = b <;> by_cases h2 : x = y <;> simp [h1, h2]
theorem ddup_len : ∀ l : List P3, (ddup l).length ≤ l.length
  | [] => Nat.le_refl _
  | [x] => Nat.le_refl _
  | x :: y :: l => by
    unfold ddup
    have h := ddup_len (y :: l)
    split
    · simp only [List.length_cons] at *
      omega
    · simp only [List.length_cons] at *
      omega
/-- What slices.Compact leaves: the places, each once, and zeros. -/
def cpd (ks : List P3) : List P3 := ddup ks ++ List.replicate (ks.length - (ddup ks).length) (0, 0, 0)
theorem cpd_len (ks : List P3) : (cpd ks).length = ks.length := by
  have h := ddup_len ks
  simp only [cpd, List.length_append, List.length_replicate]
  omega
theorem cpd_id {ks : List P3} (h : ddup ks = ks) : cpd ks = ks := by
  unfold cpd
  rw [h, Nat.sub_self]
  simp
theorem cpd_take (ks : List P3) : (cpd ks).take (ddup ks).length = ddup ks := by
  unfold cpd
  exact List.take_left
theorem take_one {ks : List P3} {p : Nat} (h : p < ks.length) : ks.take (p + 1) = ks.take p ++ [ks[p]!] := by
  rw [List.take_succ_eq_append_getElem h, getElem!_pos ks p h]
theorem take_two {ks : List P3} {p : Nat} (h : p + 1 < ks.length) : ks.take (p + 2) = ks.take p ++ [ks[p]!, ks[p + 1]!] := by
  rw [show p + 2 = (p + 1) + 1 from rfl, take_one h, take_one (by omega), List.append_assoc]
  rfl
theorem ddup_step {ks : List P3} {p : Nat} (h : p + 1 < ks.length) : ddup (ks.take (p + 2)) = if ks[p]! = ks[p + 1]! then ddup (ks.take (p + 1)) else ddup (ks.take (p + 1)) ++ [ks[p + 1]!] := by
  rw [take_two h, take_one (by omega), ddup_snoc]
theorem co_start (ks : List P3) : ddup (ks.take 1) = ks.take 1 := by
  cases ks with
  | nil => rfl
  | cons x l => rfl
theorem co_step {ks : List P3} {p : Nat} (h0 : ddup (ks.take (p + 1)) = ks.take (p + 1)) (h : p + 1 < ks.length) (hne : ¬ ks[p + 1]! = ks[p]!) : ddup (ks.take (p + 1 + 1)) = ks.take (p + 1 + 1) := by
  have h3 := ddup_step h
  rw [if_neg (fun e => hne e.symm), h0] at h3
  rw [take_one h]
  rw [take_one h] at h3
  exact h3
theorem co_end {ks : List P3} {k : Nat} (h0 : ddup (ks.take k) = ks.take k) (h : ks.length ≤ k) : ddup ks = ks := by
  rwa [List.take_of_length_le h] at h0
structure CI (ks cur : List P3) (k1 m k : Nat) : Prop where
  len : k = (ddup (ks.take (k1 + m))).length
  lt : k < k1 + m
  le : k1 + m ≤ ks.length
  cur : cur = ddup (ks.take (k1 + m)) ++ ks.drop k
theorem ci_start {ks : List P3} {p : Nat} (h0 : ddup (ks.take (p + 1)) = ks.take (p + 1)) (h2 : p + 1 < ks.length) (he : ks[p + 1]! = ks[p]!) : CI ks ks (p + 1) 1 (p + 1) := by
  have h3 := ddup_step h2
  rw [if_pos he.symm, h0] at h3
  refine ⟨?_, by omega, by omega, ?_⟩
  · show p + 1 = (ddup (ks.take (p + 2))).length
    rw [h3, List.length_take]
    omega
  · show ks = ddup (ks.take (p + 2)) ++ ks.drop (p + 1)
    rw [h3, List.take_append_drop]
theorem CI.clen {ks cur : List P3} {k1 m k : Nat} (h : CI ks cur k1 m k) : cur.length = ks.length := by
  have h1 := h.len
  have h2 := h.lt
  have h3 := h.le
  rw [h.cur, List.length_append, List.length_drop]
  omega
theorem CI.get {ks cur : List P3} {k1 m k i : Nat} (h : CI ks cur k1 m k) (hi : k ≤ i) (hl : i < ks.length) : cur[i]! = ks[i]! := by
  have h1 := h.len
  have h4 : i < cur.length := by rw [h.clen]; exact hl
  have h5 : cur[i]? = ks[i]? := by
    rw [h.cur, List.getElem?_append_right (by omega), List.getElem?_drop]
    congr 1
    omega
  rw [getElem!_pos cur i h4, getElem!_pos ks i hl]
  rw [List.getElem?_eq_getElem h4, List.getElem?_eq_getElem hl] at h5
  exact Option.some.inj h5
theorem CI.dget {ks cur : List P3} {k1 m k i : Nat} (h : CI ks cur k1 m k) (hi : k ≤ k1 + i) (hl : k1 + i < ks.length) : (cur.drop k1)[i]! = ks[k1 + i]! := by
  rw [← h.get hi hl]
  have h6 := h.clen
  rw [getElem!_pos cur (k1 + i) (by omega), getElem!_pos (cur.drop k1) i (by rw [List.length_drop]; omega), List.getElem_drop]
theorem CI.step {ks cur : List P3} {k1 m k : Nat} (h : CI ks cur k1 (m + 1) k) (hl : k1 + (m + 1) < ks.length) : (cur.drop k1)[m + 1]! = ks[k1 + (m + 1)]! ∧ (cur.drop k1)[m]! = ks[k1 + m]! := by
  have h2 := h.lt
  exact ⟨h.dget (by omega) hl, h.dget (by omega) (by omega)⟩
theorem CI.eq {ks cur : List P3} {k1 m k : Nat} (h : CI ks cur k1 (m + 1) k) (hl : k1 + (m + 1) < ks.length) (he : (cur.drop k1)[m + 1]! = (cur.drop k1)[m]!) : CI ks cur k1 (m + 1 + 1) k := by
  have h0 := h.step hl
  rw [h0.1, h0.2] at he
  have h3 : ddup (ks.take (k1 + (m + 1 + 1))) = _ := ddup_step (ks := ks) (p := k1 + m) hl
  rw [if_pos (show ks[k1 + m]! = ks[k1 + m + 1]! from he.symm)] at h3
  refine ⟨h3 ▸ h.len, by have := h.lt; omega, by omega, ?_⟩
  rw [h3]
  exact h.cur
theorem CI.ne {ks cur : List P3} {k1 m k : Nat} (h : CI ks cur k1 (m + 1) k) (hl : k1 + (m + 1) < ks.length) (hne : ¬ (cur.drop k1)[m + 1]! = (cur.drop k1)[m]!) : CI ks (cur.set k (cur.drop k1)[m + 1]!) k1 (m + 1 + 1) (k + 1) := by
  have h0 := h.step hl
  rw [h0.1, h0.2] at hne
  have h3 : ddup (ks.take (k1 + (m + 1 + 1))) = _ := ddup_step (ks := ks) (p := k1 + m) hl
  rw [if_neg (show ¬ ks[k1 + m]! = ks[k1 + m + 1]! from fun e => hne e.symm)] at h3
  have h4 : k = (ddup (ks.take (k1 + m + 1))).length := h.len
  have h5 := h.lt
  refine ⟨?_, by omega, by omega, ?_⟩
  · rw [h3, List.length_append, ← h4]
    rfl
  · rw [h3, h0.1]
    have h6 : cur = ddup (ks.take (k1 + m + 1)) ++ ks.drop k := h.cur
    have h7 : ks.drop k = ks[k]! :: ks.drop (k + 1) := by
      rw [List.drop_eq_getElem_cons (by omega : k < ks.length), getElem!_pos ks k (by omega)]
    rw [h6, h7, List.append_assoc]
    generalize ddup (ks.take (k1 + m + 1)) = D at h4
    subst h4
    have h8 : k1 + (m + 1) = k1 + m + 1 := rfl
    rw [h8]
    simp
theorem CI.fin {ks cur : List P3} {k1 m k : Nat} (h : CI ks cur k1 m k) (he : ks.length ≤ k1 + m) : k = (ddup ks).length ∧ k < ks.length ∧ cur.take k ++ List.replicate (ks.length - k) (0, 0, 0) = cpd ks := by
  have e : k1 + m = ks.length := Nat.le_antisymm h.le he
  have h1 := h.len
  have h2 := h.cur
  rw [List.take_of_length_le he] at h1 h2
  refine ⟨h1, by have := h.lt; omega, ?_⟩
  rw [h2]
  unfold cpd
  rw [← h1]
  congr 1
  rw [h1]
  exact List.take_left
theorem ddup_short {ks : List P3} (h : ks.length < 2) : ddup ks = ks := by
  match ks, h with
  | [], _ => rfl
  | [x], _ => rfl
/-- A place put into its place. -/
def insB (x : P3) : List P3 → List P3
  | [] => [x]
  | y :: l => if ltP x y then x :: y :: l else y :: insB x l
theorem insB_mem (x : P3) : ∀ (l : List P3) (z : P3), z ∈ insB x l ↔ z = x ∨ z ∈ l
  | [], z => by simp [insB]
  | y :: l, z => by
    unfold insB
    split
    · simp
    · rw [List.mem_cons, insB_mem x l z, List.mem_cons]
      constructor
      · rintro (h | h | h)
        · exact .inr (.inl h)
        · exact .inl h
        · exact .inr (.inr h)
      · rintro (h | h | h)
        · exact .inr (.inl h)
        · exact .inl h
        · exact .inr (.inr h)
theorem insB_len (x : P3) : ∀ l : List P3, (insB x l).length = l.length + 1
  | [] => rfl
  | y :: l => by
    unfold insB
    split
    · rfl
    · rw [List.length_cons, insB_len x l, List.length_cons]
theorem insB_ris {x : P3} (h6 : x.1 = 6) : ∀ (l : List P3), (∀ z ∈ l, z.1 = 6) → Ris l → x ∉ l → Ris (insB x l)
  | [], _, _, _ => List.pairwise_singleton _ _
  | y :: l, hk, h, hx => by
    have h1 := List.pairwise_cons.1 h
    unfold insB
    split
    · rename_i hlt
      exact List.pairwise_cons.2 ⟨fun z hz => by
        rcases List.mem_cons.1 hz with rfl | hz
        · exact hlt
        · exact lt_trans hlt (h1.1 z hz), h⟩
    · rename_i hlt
      have hyx : ltP y x = true := by
        cases h9 : ltP y x with
        | true => rfl
        | false =>
          have h8 : ltP x y = false := by
            cases h7 : ltP x y with
            | true => exact absurd h7 hlt
            | false => rfl
          exact absurd (lt_conn (h6.trans (hk y List.mem_cons_self).symm) h8 h9) fun e => hx (e ▸ List.mem_cons_self)
      refine List.pairwise_cons.2 ⟨fun z hz => ?_, insB_ris h6 l (fun z hz => hk z (List.mem_cons_of_mem _ hz)) h1.2 fun hm => hx (List.mem_cons_of_mem _ hm)⟩
      rcases (insB_mem x l z).1 hz with rfl | hz
      · exact hyx
      · exact h1.1 z hz
/-- The places that rise, each once. -/
def nrmG (out : List P3) : List P3 → List P3
  | [] => out
  | x :: l => nrmG (if x ∈ out then out else insB x out) l
def nrmF (l : List P3) : List P3 := nrmG [] l
theorem insB_six {x : P3} (h6 : x.1 = 6) {l : List P3} (hk : ∀ z ∈ l, z.1 = 6) : ∀ z ∈ insB x l, z.1 = 6 := by
  intro z hz
  rcases (insB_mem x l z).1 hz with rfl | h
  · exact h6
  · exact hk z h
theorem nrmG_spec : ∀ (l out : List P3), (∀ z ∈ l, z.1 = 6) → (∀ z ∈ out, z.1 = 6) → Ris out → Ris (nrmG out l) ∧ ∀ z, z ∈ nrmG out l ↔ z ∈ out ∨ z ∈ l
  | [], out, _, _, h => ⟨h, fun z => by simp [nrmG]⟩
  | x :: l, out, hl, ho, h => by
    have hx6 := hl x List.mem_cons_self
    have hl6 : ∀ z ∈ l, z.1 = 6 := fun z hz => hl z (List.mem_cons_of_mem _ hz)
    unfold nrmG
    split
    · rename_i hm
      have h2 := nrmG_spec l out hl6 ho h
      refine ⟨h2.1, fun z => (h2.2 z).trans ?_⟩
      rw [List.mem_cons]
      constructor
      · rintro (h3 | h3)
        · exact .inl h3
        · exact .inr (.inr h3)
      · rintro (h3 | rfl | h3)
        · exact .inl h3
        · exact .inl hm
        · exact .inr h3
    · rename_i hm
      have h2 := nrmG_spec l (insB x out) hl6 (insB_six hx6 ho) (insB_ris hx6 out ho h hm)
      refine ⟨h2.1, fun z => (h2.2 z).trans ?_⟩
      rw [List.mem_cons, insB_mem]
      constructor
      · rintro ((h3 | h3) | h3)
        · exact .inr (.inl h3)
        · exact .inl h3
        · exact .inr (.inr h3)
      · rintro (h3 | h3 | h3)
        · exact .inl (.inr h3)
        · exact .inl (.inl h3)
        · exact .inr h3
theorem nrm_ris {l : List P3} (h6 : ∀ z ∈ l, z.1 = 6) : Ris (nrmF l) := (nrmG_spec l [] h6 (fun z hz => by cases hz) List.Pairwise.nil).1
theorem nrm_mem {l : List P3} (h6 : ∀ z ∈ l, z.1 = 6) (z : P3) : z ∈ nrmF l ↔ z ∈ l := by
  have h := (nrmG_spec l [] h6 (fun z hz => by cases hz) List.Pairwise.nil).2 z
  simpa [nrmF] using h
theorem nrmG_len : ∀ (l out : List P3), (nrmG out l).length ≤ out.length + l.length
  | [], out => Nat.le_refl _
  | x :: l, out => by
    unfold nrmG
    split
    · have h := nrmG_len l out
      simp only [List.length_cons]
      omega
    · have h := nrmG_len l (insB x out)
      rw [insB_len] at h
      simp only [List.length_cons]
      omega
theorem nrm_len (l : List P3) : (nrmF l).length ≤ l.length := by
  have h := nrmG_len l []
  simpa [nrmF] using h
theorem sorted_pw {ks : List P3} {n : Nat} (hl : ks.length = n) (h : ∀ p q, p < q → q < n → ltP ks[q]! ks[p]! = false) : ks.Pairwise fun x y => ltP y x = false := by
  rw [List.pairwise_iff_getElem]
  intro i j hi hj hij
  have h2 := h i j hij (by omega)
  rwa [getElem!_pos ks j hj, getElem!_pos ks i hi] at h2
theorem nrm_uniq {a ks : List P3} (h6 : ∀ z ∈ a, z.1 = 6) (hp : a.Perm ks) (hs : ks.Pairwise fun x y => ltP y x = false) : ddup ks = nrmF a :=
  ris_uniq _ _ (ddup_ris ks (fun z hz => h6 z (hp.mem_iff.2 hz)) hs) (nrm_ris h6) fun z => by rw [ddup_mem, nrm_mem h6, hp.mem_iff]
def adK (x : P3) (out : List P3) : List P3 := if x ∈ out then out else insB x out
theorem nrm_snoc (l : List P3) (x : P3) : nrmF (l ++ [x]) = adK x (nrmF l) := by
  have key : ∀ (a out : List P3) (x : P3), nrmG out (a ++ [x]) = if x ∈ nrmG out a then nrmG out a else insB x (nrmG out a) := by
    intro a
    induction a with
    | nil => intro out x; rfl
    | cons y a ih => intro out x; exact ih _ _
  exact key l [] x
theorem adK_len (x : P3) (out : List P3) : (adK x out).length ≤ out.length + 1 := by
  unfold adK
  split
  · omega
  · rw [insB_len]
    omega
/-- The plain row in the making: a key is put, or not yet. -/
def IK (x : P3) (out next : List P3) (k : Nat) (put : Bool) : Prop :=
  k ≤ out.length ∧ (put = false ∧ next = out.take k ∧ x ∉ out.take k ∧ insB x out = out.take k ++ insB x (out.drop k) ∨ put = true ∧ next ++ out.drop k = adK x out)
theorem ik_start (x : P3) (out : List P3) : IK x out [] 0 false := ⟨Nat.zero_le _, .inl ⟨rfl, rfl, (fun h => by cases h), rfl⟩⟩
theorem ik_put {x : P3} {out next : List P3} {k : Nat} (h : IK x out next k true) (hk : k < out.length) : IK x out (next ++ [out[k]!]) (k + 1) true := by
  rcases h with ⟨_, h | ⟨_, h⟩⟩
  · cases h.1
  · refine ⟨hk, .inr ⟨rfl, ?_⟩⟩
    rw [List.drop_eq_getElem_cons hk] at h
    rw [getElem!_pos out k hk, List.append_assoc]
    exact h
theorem ik_not {x : P3} {out next : List P3} {k : Nat} (h : IK x out next k false) (hk : k < out.length) (hlt : ltP x out[k]! = false) (hne : ¬ out[k]! = x) : IK x out (next ++ [out[k]!]) (k + 1) false := by
  rcases h with ⟨_, ⟨_, h1, h3, h2⟩ | h⟩
  · have h4 := take_one hk
    refine ⟨hk, .inl ⟨rfl, by rw [h1, h4], ?_, ?_⟩⟩
    · rw [h4, List.mem_append, List.mem_singleton]
      rintro (h5 | h5)
      · exact h3 h5
      · exact hne h5.symm
    · rw [h2, List.drop_eq_getElem_cons hk, h4, List.append_assoc]
      rw [getElem!_pos out k hk] at hlt ⊢
      simp [insB, hlt]
  · cases h.1
theorem ik_eq {x : P3} {out next : List P3} {k : Nat} (h : IK x out next k false) (hk : k < out.length) (he : out[k]! = x) : IK x out (next ++ [out[k]!]) (k + 1) true := by
  rcases h with ⟨_, ⟨_, h1, _, _⟩ | h⟩
  · refine ⟨hk, .inr ⟨rfl, ?_⟩⟩
    have hm : x ∈ out := by
      rw [getElem!_pos out k hk] at he
      exact he ▸ List.getElem_mem hk
    unfold adK
    rw [if_pos hm, h1, ← take_one hk, List.take_append_drop]
  · cases h.1
theorem ik_now {x : P3} {out next : List P3} {k : Nat} (hr : Ris out) (h : IK x out next k false) (hk : k < out.length) (hlt : ltP x out[k]! = true) : IK x out (next ++ [x] ++ [out[k]!]) (k + 1) true := by
  rcases h with ⟨_, ⟨_, h1, h3, h2⟩ | h⟩
  · refine ⟨hk, .inr ⟨rfl, ?_⟩⟩
    rw [getElem!_pos out k hk] at hlt ⊢
    have hm : x ∉ out := by
      intro hx
      rw [← List.take_append_drop k out] at hx
      rcases List.mem_append.1 hx with hx | hx
      · exact h3 hx
      · rw [List.drop_eq_getElem_cons hk] at hx
        rcases List.mem_cons.1 hx with hx | hx
        · rw [← hx, lt_irr] at hlt
          cases hlt
        · have h7 : Ris (out.drop k) := List.Pairwise.sublist (List.drop_sublist k out) hr
          rw [List.drop_eq_getElem_cons hk] at h7
          have h8 := (List.pairwise_cons.1 h7).1 x hx
          rw [lt_asym hlt] at h8
          cases h8
    unfold adK
    rw [if_neg hm, h2, List.drop_eq_getElem_cons hk, h1]
    simp [insB, hlt]
  · cases h.1
theorem ik_end {x : P3} {out next : List P3} {k : Nat} {put : Bool} (h : IK x out next k put) (hk : out.length ≤ k) : (put = false → next ++ [x] = adK x out) ∧ (put = true → next = adK x out) := by
  rcases h with ⟨_, ⟨h0, h1, h3, h2⟩ | ⟨h0, h1⟩⟩
  · rw [List.take_of_length_le hk] at h1 h2 h3
    rw [List.drop_eq_nil_of_le hk] at h2
    refine ⟨fun _ => ?_, fun h => ?_⟩
    · unfold adK
      rw [if_neg h3, h1, h2]
      rfl
    · rw [h0] at h
      cases h
  · rw [List.drop_eq_nil_of_le hk, List.append_nil] at h1
    refine ⟨fun h => ?_, fun _ => h1⟩
    rw [h0] at h
    cases h
theorem ik_len {x : P3} {out next : List P3} {k : Nat} {put : Bool} (h : IK x out next k put) : next.length ≤ k + 1 := by
  rcases h with ⟨h9, ⟨_, h1, _⟩ | ⟨_, h1⟩⟩
  · rw [h1, List.length_take]
    omega
  · have h2 := congrArg List.length h1
    have h3 := adK_len x out
    rw [List.length_append, List.length_drop] at h2
    omega
/-- The leaks of the first cells. -/
def keysL (cl : List C10) (b : List Bool) : Nat → List P3
  | 0 => []
  | i + 1 => if b[i]! = false ∧ (cl[i]!).1 = 1 then keysL cl b i ++ [(6, (cl[i]!).2.2.1, (cl[i]!).2.2.2.1)] else keysL cl b i
theorem keysL_six (cl : List C10) (b : List Bool) : ∀ i, ∀ z ∈ keysL cl b i, z.1 = 6
  | 0, z, h => by cases h
  | i + 1, z, h => by
    unfold keysL at h
    split at h
    · rcases List.mem_append.1 h with h | h
      · exact keysL_six cl b i z h
      · rw [List.mem_singleton.1 h]
    · exact keysL_six cl b i z h
theorem keysL_len (cl : List C10) (b : List Bool) : ∀ i, (keysL cl b i).length ≤ i
  | 0 => Nat.le_refl _
  | i + 1 => by
    have h := keysL_len cl b i
    unfold keysL
    split
    · rw [List.length_append, List.length_singleton]
      omega
    · omega
theorem keysL_yes {cl : List C10} {b : List Bool} {i : Nat} (h1 : b[i]! = false) (h2 : (cl[i]!).1 = 1) : keysL cl b (i + 1) = keysL cl b i ++ [(6, (cl[i]!).2.2.1, (cl[i]!).2.2.2.1)] := if_pos ⟨h1, h2⟩
theorem keysL_not {cl : List C10} {b : List Bool} {i : Nat} (h : ¬ (b[i]! = false ∧ (cl[i]!).1 = 1)) : keysL cl b (i + 1) = keysL cl b i := if_neg h
end Go.Proofs.Ythcmcekjgecnhab.Sr
