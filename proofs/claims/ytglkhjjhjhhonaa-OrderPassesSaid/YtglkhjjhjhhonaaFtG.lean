/- Places, one behind the other. No condition beside those that each theorem names. -/
import Derived.Test.YtglkhjjhjhhonaaFtE
namespace Go.Proofs.Ytglkhjjhjhhonaa.Sr
open Go.RowKit Go.Proofs.YtglkhjjhjhhonaaM.Mach
set_option linter.unusedVariables false
set_option linter.unusedSimpArgs false
def cmpF (a b : Int) : Int := if a < b then -1 else if b < a then 1 else 0
def ltP (x y : P3) : Bool := decide (x.1 < y.1 ∨ (x.1 = y.1 ∧ (x.2.1 < y.2.1 ∨ (x.2.1 = y.2.1 ∧ x.2.2 < y.2.2))))
def ordF (x y : P3) : Int := if ltP x y then -1 else if ltP y x then 1 else 0
def cmp_raw_0_l0 (a : Int) (b : Int) : List Value := [.int .i64 a, .int .i64 b, zz, zz, .int .i64 0, zz, zz, .int .i64 a, zz, zz, zz, zz, zz, zz, zz, zz]
def cmp_raw_0_l1 : List Value := [zz, zz, zz, zz]
def cmp_raw_0_b2 (a : Int) (b : Int) : List Value := (cmp_raw_0_l0 a b) ++ (cmp_raw_0_l1)
def cmp_raw_0_l3 (a : Int) : List Value := [.int .i64 a, zz, .bool false, .int .i64 a, .int .i64 a, .bool false]
def cmp_raw_0_l4 (a : Int) (b : Int) : List Value := [.int .i64 a, .int .i64 b, zz, zz, .int .i64 0, .bool false, zz, .int .i64 a, .bool false, .int .i64 b, zz, zz, zz, zz, zz, zz]
def cmp_raw_0_b5 (a : Int) (b : Int) : List Value := (cmp_raw_0_l4 a b) ++ (cmp_raw_0_l1)
def cmp_raw_0_l6 (b : Int) : List Value := [.int .i64 b, zz, .bool false, .int .i64 b, .int .i64 b, .bool false]
def cmp_raw_0_l7 (a : Int) (b : Int) : List Value := [.int .i64 a, .int .i64 b, zz, zz, .int .i64 (-1), .bool false, .bool false, .int .i64 a, .bool false, .int .i64 b, .bool false, .bool false, zz, .bool false, .int .i64 a, .int .i64 b]
def cmp_raw_0_l8 : List Value := [.bool true, zz, zz, zz]
def cmp_raw_0_b9 (a : Int) (b : Int) : List Value := (cmp_raw_0_l7 a b) ++ (cmp_raw_0_l8)
def cmp_raw_1_l0 (a : Int) (b : Int) : List Value := [.int .i64 a, .int .i64 b, zz, zz, .int .i64 0, zz, zz, .int .i64 a, zz, zz, zz, zz, zz, zz, zz, zz]
def cmp_raw_1_l1 : List Value := [zz, zz, zz, zz]
def cmp_raw_1_b2 (a : Int) (b : Int) : List Value := (cmp_raw_1_l0 a b) ++ (cmp_raw_1_l1)
def cmp_raw_1_l3 (a : Int) : List Value := [.int .i64 a, zz, .bool false, .int .i64 a, .int .i64 a, .bool false]
def cmp_raw_1_l4 (a : Int) (b : Int) : List Value := [.int .i64 a, .int .i64 b, zz, zz, .int .i64 0, .bool false, zz, .int .i64 a, .bool false, .int .i64 b, zz, zz, zz, zz, zz, zz]
def cmp_raw_1_b5 (a : Int) (b : Int) : List Value := (cmp_raw_1_l4 a b) ++ (cmp_raw_1_l1)
def cmp_raw_1_l6 (b : Int) : List Value := [.int .i64 b, zz, .bool false, .int .i64 b, .int .i64 b, .bool false]
def cmp_raw_1_l7 (a : Int) (b : Int) : List Value := [.int .i64 a, .int .i64 b, zz, zz, .int .i64 1, .bool false, .bool false, .int .i64 a, .bool false, .int .i64 b, .bool false, .bool false, zz, .bool false, .int .i64 a, .int .i64 b]
def cmp_raw_1_l8 (a : Int) (b : Int) : List Value := [.bool false, .int .i64 a, .int .i64 b, .bool true]
def cmp_raw_1_b9 (a : Int) (b : Int) : List Value := (cmp_raw_1_l7 a b) ++ ((cmp_raw_1_l8 a b))
def cmp_raw_2_l0 (a : Int) (b : Int) : List Value := [.int .i64 a, .int .i64 b, zz, zz, .int .i64 0, zz, zz, .int .i64 a, zz, zz, zz, zz, zz, zz, zz, zz]
def cmp_raw_2_l1 : List Value := [zz, zz, zz, zz]
def cmp_raw_2_b2 (a : Int) (b : Int) : List Value := (cmp_raw_2_l0 a b) ++ (cmp_raw_2_l1)
def cmp_raw_2_l3 (a : Int) : List Value := [.int .i64 a, zz, .bool false, .int .i64 a, .int .i64 a, .bool false]
def cmp_raw_2_l4 (a : Int) (b : Int) : List Value := [.int .i64 a, .int .i64 b, zz, zz, .int .i64 0, .bool false, zz, .int .i64 a, .bool false, .int .i64 b, zz, zz, zz, zz, zz, zz]
def cmp_raw_2_b5 (a : Int) (b : Int) : List Value := (cmp_raw_2_l4 a b) ++ (cmp_raw_2_l1)
def cmp_raw_2_l6 (b : Int) : List Value := [.int .i64 b, zz, .bool false, .int .i64 b, .int .i64 b, .bool false]
def cmp_raw_2_l7 (a : Int) (b : Int) : List Value := [.int .i64 a, .int .i64 b, zz, zz, .int .i64 0, .bool false, .bool false, .int .i64 a, .bool false, .int .i64 b, .bool false, .bool false, zz, .bool false, .int .i64 a, .int .i64 b]
def cmp_raw_2_l8 (a : Int) (b : Int) : List Value := [.bool false, .int .i64 a, .int .i64 b, .bool false]
def cmp_raw_2_b9 (a : Int) (b : Int) : List Value := (cmp_raw_2_l7 a b) ++ ((cmp_raw_2_l8 a b))
set_option maxHeartbeats 8000000 in
set_option maxRecDepth 100000 in
theorem cmp_raw (a b : Int) (w : World) : Calls Try.prog 86 #[.int .i64 a, .int .i64 b] w fun e w' => e = .returned (.int .i64 (cmpF a b)) ∧ Below w.heap.size w w' := by
  have hc : a < b ∨ (¬ a < b ∧ b < a) ∨ (¬ a < b ∧ ¬ b < a) := by omega
  rcases hc with hc | hc | hc
  · skip
    refine enter (args := [.int .i64 a, .int .i64 b]) (fn := Try.f86) rfl (c := bdy Try.f86) (by kernel_rfl) ?_
    refine ck 2 [] [] fun γ1 => ⟨⟨kt (bdy Try.f86) [1, 0, 1] [], (cmp_raw_0_b2 a b), []⟩, [], [], by kernel_rfl, .nil, ?_⟩
    refine ci (f := 74) (args := [.int .i64 a]) (fn := Try.f74) (c := bdy Try.f74) rfl (fun R2 hR2 => ?_)
    refine ck 5 [] [(3, .bool false)] fun γ3 => ⟨⟨kt (bdy Try.f74) [1, 1] [], (cmp_raw_0_l3 a), []⟩, [], [Value.bool ((a : Int) != a) = .bool false], by kernel_rfl, (.cons (cnF rfl) .nil), ?_⟩
    refine crm hR2 (.bool false) [] [] [] ?_
    refine ck 2 [] [] fun γ4 => ⟨⟨kt (bdy Try.f86) [1, 1, 0, 1] [], (cmp_raw_0_b5 a b), []⟩, [], [], by kernel_rfl, .nil, ?_⟩
    refine ci (f := 74) (args := [.int .i64 b]) (fn := Try.f74) (c := bdy Try.f74) rfl (fun R5 hR5 => ?_)
    refine ck 5 [] [(3, .bool false)] fun γ6 => ⟨⟨kt (bdy Try.f74) [1, 1] [], (cmp_raw_0_l6 b), []⟩, [], [Value.bool ((b : Int) != b) = .bool false], by kernel_rfl, (.cons (cnF rfl) .nil), ?_⟩
    refine crm hR5 (.bool false) [] [] [] ?_
    refine ck 7 [] [(5, .bool true)] fun γ7 => ⟨⟨kt (bdy Try.f86) [1, 1, 1, 1, 1, 0, 1, 0, 1] [], (cmp_raw_0_b9 a b), []⟩, [], [Value.bool (decide ((a : Int) < b)) = .bool true], by kernel_rfl, (.cons (cbT (by omega)) .nil), ?_⟩
    refine rt (.int .i64 (-1)) [] [] (fun W hW => ?_)
    have hg : cmpF a b = -1 := by unfold cmpF; rw [if_pos (by omega)]
    rw [hg]
    exact ⟨rfl, (hW.old 0 rfl)⟩
  · skip
    refine enter (args := [.int .i64 a, .int .i64 b]) (fn := Try.f86) rfl (c := bdy Try.f86) (by kernel_rfl) ?_
    refine ck 2 [] [] fun γ1 => ⟨⟨kt (bdy Try.f86) [1, 0, 1] [], (cmp_raw_1_b2 a b), []⟩, [], [], by kernel_rfl, .nil, ?_⟩
    refine ci (f := 74) (args := [.int .i64 a]) (fn := Try.f74) (c := bdy Try.f74) rfl (fun R2 hR2 => ?_)
    refine ck 5 [] [(3, .bool false)] fun γ3 => ⟨⟨kt (bdy Try.f74) [1, 1] [], (cmp_raw_1_l3 a), []⟩, [], [Value.bool ((a : Int) != a) = .bool false], by kernel_rfl, (.cons (cnF rfl) .nil), ?_⟩
    refine crm hR2 (.bool false) [] [] [] ?_
    refine ck 2 [] [] fun γ4 => ⟨⟨kt (bdy Try.f86) [1, 1, 0, 1] [], (cmp_raw_1_b5 a b), []⟩, [], [], by kernel_rfl, .nil, ?_⟩
    refine ci (f := 74) (args := [.int .i64 b]) (fn := Try.f74) (c := bdy Try.f74) rfl (fun R5 hR5 => ?_)
    refine ck 5 [] [(3, .bool false)] fun γ6 => ⟨⟨kt (bdy Try.f74) [1, 1] [], (cmp_raw_1_l6 b), []⟩, [], [Value.bool ((b : Int) != b) = .bool false], by kernel_rfl, (.cons (cnF rfl) .nil), ?_⟩
    refine crm hR5 (.bool false) [] [] [] ?_
    refine ck 10 [] [(5, .bool false), (8, .bool true)] fun γ7 => ⟨⟨kt (bdy Try.f86) [1, 1, 1, 1, 1, 1, 0, 1, 0, 1] [], (cmp_raw_1_b9 a b), []⟩, [], [Value.bool (decide ((a : Int) < b)) = .bool false, Value.bool (decide ((a : Int) > b)) = .bool true], by kernel_rfl, (.cons (cbF (by omega)) (.cons (cbT (by omega)) .nil)), ?_⟩
    refine rt (.int .i64 1) [] [] (fun W hW => ?_)
    have hg : cmpF a b = 1 := by unfold cmpF; rw [if_neg (by omega), if_pos (by omega)]
    rw [hg]
    exact ⟨rfl, (hW.old 0 rfl)⟩
  · skip
    refine enter (args := [.int .i64 a, .int .i64 b]) (fn := Try.f86) rfl (c := bdy Try.f86) (by kernel_rfl) ?_
    refine ck 2 [] [] fun γ1 => ⟨⟨kt (bdy Try.f86) [1, 0, 1] [], (cmp_raw_2_b2 a b), []⟩, [], [], by kernel_rfl, .nil, ?_⟩
    refine ci (f := 74) (args := [.int .i64 a]) (fn := Try.f74) (c := bdy Try.f74) rfl (fun R2 hR2 => ?_)
    refine ck 5 [] [(3, .bool false)] fun γ3 => ⟨⟨kt (bdy Try.f74) [1, 1] [], (cmp_raw_2_l3 a), []⟩, [], [Value.bool ((a : Int) != a) = .bool false], by kernel_rfl, (.cons (cnF rfl) .nil), ?_⟩
    refine crm hR2 (.bool false) [] [] [] ?_
    refine ck 2 [] [] fun γ4 => ⟨⟨kt (bdy Try.f86) [1, 1, 0, 1] [], (cmp_raw_2_b5 a b), []⟩, [], [], by kernel_rfl, .nil, ?_⟩
    refine ci (f := 74) (args := [.int .i64 b]) (fn := Try.f74) (c := bdy Try.f74) rfl (fun R5 hR5 => ?_)
    refine ck 5 [] [(3, .bool false)] fun γ6 => ⟨⟨kt (bdy Try.f74) [1, 1] [], (cmp_raw_2_l6 b), []⟩, [], [Value.bool ((b : Int) != b) = .bool false], by kernel_rfl, (.cons (cnF rfl) .nil), ?_⟩
    refine crm hR5 (.bool false) [] [] [] ?_
    refine ck 10 [] [(5, .bool false), (8, .bool false)] fun γ7 => ⟨⟨kt (bdy Try.f86) [1, 1, 1, 1, 1, 1, 1, 1] [], (cmp_raw_2_b9 a b), []⟩, [], [Value.bool (decide ((a : Int) < b)) = .bool false, Value.bool (decide ((a : Int) > b)) = .bool false], by kernel_rfl, (.cons (cbF (by omega)) (.cons (cbF (by omega)) .nil)), ?_⟩
    refine rt (.int .i64 0) [] [] (fun W hW => ?_)
    have hg : cmpF a b = 0 := by unfold cmpF; rw [if_neg (by omega), if_neg (by omega)]
    rw [hg]
    exact ⟨rfl, (hW.old 0 rfl)⟩
theorem cmp_is {a b r : Int} (h : cmpF a b = r) (w : World) : Calls Try.prog 86 #[.int .i64 a, .int .i64 b] w fun e w' => e = .returned (.int .i64 r) ∧ Below w.heap.size w w' := by
  subst h
  exact cmp_raw a b w
theorem cmp_lt {a b : Int} (h : a < b) : cmpF a b = -1 := if_pos h
theorem cmp_gt {a b : Int} (h : b < a) : cmpF a b = 1 := by
  unfold cmpF
  rw [if_neg (by omega), if_pos h]
theorem cmp_eq {a b : Int} (h : a = b) : cmpF a b = 0 := by
  unfold cmpF
  rw [if_neg (by omega), if_neg (by omega)]
def lslll_l0 (x0 : Int) (x1 : Int) (x2 : Int) (y0 : Int) (y1 : Int) (y2 : Int) (γ1 : Nat → Nat) : List Value := [.agg #[.int .i64 x0, .int .i64 x1, .int .i64 x2], .agg #[.int .i64 y0, .int .i64 y1, .int .i64 y2], .pointer (some ⟨γ1 0, 0, none⟩), .pointer (some ⟨γ1 1, 0, none⟩), .bool false, zz, zz, zz, zz, zz, zz, zz, zz, zz, zz, zz]
def lslll_l1 : List Value := [zz, zz, zz, zz, zz, zz, zz]
def lslll_b2 (x0 : Int) (x1 : Int) (x2 : Int) (y0 : Int) (y1 : Int) (y2 : Int) (γ1 : Nat → Nat) : List Value := (lslll_l0 x0 x1 x2 y0 y1 y2 γ1) ++ (lslll_l1)
def lslll_c3 (y0 : Int) (y1 : Int) (y2 : Int) : List Value := [.int .i64 y0, .int .i64 y1, .int .i64 y2]
def lslll_c4 (x0 : Int) (x1 : Int) (x2 : Int) : List Value := [.int .i64 x0, .int .i64 x1, .int .i64 x2]
def lslll_c5 : List Value := [.int .i64 (-1), .int .i64 (-1), .int .i64 (-1)]
def lslll_l6 (g2 : Nat) : List Value := [.slice (some ⟨g2, 0, none⟩) 3 3, zz, .int .i64 0, .int .i64 0, zz, zz, .slice (some ⟨g2, 0, none⟩) 3 3, .int .i64 3, .int .i64 0, zz, zz, zz, zz, zz, zz, zz]
def lslll_l7 : List Value := [zz, zz]
def lslll_b8 (g2 : Nat) : List Value := (lslll_l6 g2) ++ (lslll_l7)
def lslll_l9 (x0 : Int) (x1 : Int) (x2 : Int) (y0 : Int) (y1 : Int) (y2 : Int) (γ1 : Nat → Nat) : List Value := [.agg #[.int .i64 x0, .int .i64 x1, .int .i64 x2], .agg #[.int .i64 y0, .int .i64 y1, .int .i64 y2], .pointer (some ⟨γ1 0, 0, none⟩), .pointer (some ⟨γ1 1, 0, none⟩), .bool true, .pointer (some ⟨γ1 0, 0, none⟩), .int .i64 x0, .pointer (some ⟨γ1 1, 0, none⟩), .int .i64 y0, .int .i64 (-1), .pointer (some ⟨γ1 0, 1, none⟩), .int .i64 x1, .pointer (some ⟨γ1 1, 1, none⟩), .int .i64 y1, .int .i64 (-1), .pointer (some ⟨γ1 0, 2, none⟩)]
def lslll_l10 (x2 : Int) (y2 : Int) (γ1 : Nat → Nat) (g2 : Nat) : List Value := [.int .i64 x2, .pointer (some ⟨γ1 1, 2, none⟩), .int .i64 y2, .int .i64 (-1), .slice (some ⟨g2, 0, none⟩) 3 3, .int .i64 (-1), .bool true]
def lslll_b11 (x0 : Int) (x1 : Int) (x2 : Int) (y0 : Int) (y1 : Int) (y2 : Int) (γ1 : Nat → Nat) (g2 : Nat) : List Value := (lslll_l9 x0 x1 x2 y0 y1 y2 γ1) ++ ((lslll_l10 x2 y2 γ1 g2))
def lslle_l0 (x0 : Int) (x1 : Int) (x2 : Int) (y0 : Int) (y1 : Int) (y2 : Int) (γ1 : Nat → Nat) : List Value := [.agg #[.int .i64 x0, .int .i64 x1, .int .i64 x2], .agg #[.int .i64 y0, .int .i64 y1, .int .i64 y2], .pointer (some ⟨γ1 0, 0, none⟩), .pointer (some ⟨γ1 1, 0, none⟩), .bool false, zz, zz, zz, zz, zz, zz, zz, zz, zz, zz, zz]
def lslle_l1 : List Value := [zz, zz, zz, zz, zz, zz, zz]
def lslle_b2 (x0 : Int) (x1 : Int) (x2 : Int) (y0 : Int) (y1 : Int) (y2 : Int) (γ1 : Nat → Nat) : List Value := (lslle_l0 x0 x1 x2 y0 y1 y2 γ1) ++ (lslle_l1)
def lslle_c3 (y0 : Int) (y1 : Int) (y2 : Int) : List Value := [.int .i64 y0, .int .i64 y1, .int .i64 y2]
def lslle_c4 (x0 : Int) (x1 : Int) (x2 : Int) : List Value := [.int .i64 x0, .int .i64 x1, .int .i64 x2]
def lslle_c5 : List Value := [.int .i64 (-1), .int .i64 (-1), .int .i64 0]
def lslle_l6 (g2 : Nat) : List Value := [.slice (some ⟨g2, 0, none⟩) 3 3, zz, .int .i64 0, .int .i64 0, zz, zz, .slice (some ⟨g2, 0, none⟩) 3 3, .int .i64 3, .int .i64 0, zz, zz, zz, zz, zz, zz, zz]
def lslle_l7 : List Value := [zz, zz]
def lslle_b8 (g2 : Nat) : List Value := (lslle_l6 g2) ++ (lslle_l7)
def lslle_l9 (x0 : Int) (x1 : Int) (x2 : Int) (y0 : Int) (y1 : Int) (y2 : Int) (γ1 : Nat → Nat) : List Value := [.agg #[.int .i64 x0, .int .i64 x1, .int .i64 x2], .agg #[.int .i64 y0, .int .i64 y1, .int .i64 y2], .pointer (some ⟨γ1 0, 0, none⟩), .pointer (some ⟨γ1 1, 0, none⟩), .bool true, .pointer (some ⟨γ1 0, 0, none⟩), .int .i64 x0, .pointer (some ⟨γ1 1, 0, none⟩), .int .i64 y0, .int .i64 (-1), .pointer (some ⟨γ1 0, 1, none⟩), .int .i64 x1, .pointer (some ⟨γ1 1, 1, none⟩), .int .i64 y1, .int .i64 (-1), .pointer (some ⟨γ1 0, 2, none⟩)]
def lslle_l10 (x2 : Int) (y2 : Int) (γ1 : Nat → Nat) (g2 : Nat) : List Value := [.int .i64 x2, .pointer (some ⟨γ1 1, 2, none⟩), .int .i64 y2, .int .i64 0, .slice (some ⟨g2, 0, none⟩) 3 3, .int .i64 (-1), .bool true]
def lslle_b11 (x0 : Int) (x1 : Int) (x2 : Int) (y0 : Int) (y1 : Int) (y2 : Int) (γ1 : Nat → Nat) (g2 : Nat) : List Value := (lslle_l9 x0 x1 x2 y0 y1 y2 γ1) ++ ((lslle_l10 x2 y2 γ1 g2))
def lsllg_l0 (x0 : Int) (x1 : Int) (x2 : Int) (y0 : Int) (y1 : Int) (y2 : Int) (γ1 : Nat → Nat) : List Value := [.agg #[.int .i64 x0, .int .i64 x1, .int .i64 x2], .agg #[.int .i64 y0, .int .i64 y1, .int .i64 y2], .pointer (some ⟨γ1 0, 0, none⟩), .pointer (some ⟨γ1 1, 0, none⟩), .bool false, zz, zz, zz, zz, zz, zz, zz, zz, zz, zz, zz]
def lsllg_l1 : List Value := [zz, zz, zz, zz, zz, zz, zz]
def lsllg_b2 (x0 : Int) (x1 : Int) (x2 : Int) (y0 : Int) (y1 : Int) (y2 : Int) (γ1 : Nat → Nat) : List Value := (lsllg_l0 x0 x1 x2 y0 y1 y2 γ1) ++ (lsllg_l1)
def lsllg_c3 (y0 : Int) (y1 : Int) (y2 : Int) : List Value := [.int .i64 y0, .int .i64 y1, .int .i64 y2]
def lsllg_c4 (x0 : Int) (x1 : Int) (x2 : Int) : List Value := [.int .i64 x0, .int .i64 x1, .int .i64 x2]
def lsllg_c5 : List Value := [.int .i64 (-1), .int .i64 (-1), .int .i64 1]
def lsllg_l6 (g2 : Nat) : List Value := [.slice (some ⟨g2, 0, none⟩) 3 3, zz, .int .i64 0, .int .i64 0, zz, zz, .slice (some ⟨g2, 0, none⟩) 3 3, .int .i64 3, .int .i64 0, zz, zz, zz, zz, zz, zz, zz]
def lsllg_l7 : List Value := [zz, zz]
def lsllg_b8 (g2 : Nat) : List Value := (lsllg_l6 g2) ++ (lsllg_l7)
def lsllg_l9 (x0 : Int) (x1 : Int) (x2 : Int) (y0 : Int) (y1 : Int) (y2 : Int) (γ1 : Nat → Nat) : List Value := [.agg #[.int .i64 x0, .int .i64 x1, .int .i64 x2], .agg #[.int .i64 y0, .int .i64 y1, .int .i64 y2], .pointer (some ⟨γ1 0, 0, none⟩), .pointer (some ⟨γ1 1, 0, none⟩), .bool true, .pointer (some ⟨γ1 0, 0, none⟩), .int .i64 x0, .pointer (some ⟨γ1 1, 0, none⟩), .int .i64 y0, .int .i64 (-1), .pointer (some ⟨γ1 0, 1, none⟩), .int .i64 x1, .pointer (some ⟨γ1 1, 1, none⟩), .int .i64 y1, .int .i64 (-1), .pointer (some ⟨γ1 0, 2, none⟩)]
def lsllg_l10 (x2 : Int) (y2 : Int) (γ1 : Nat → Nat) (g2 : Nat) : List Value := [.int .i64 x2, .pointer (some ⟨γ1 1, 2, none⟩), .int .i64 y2, .int .i64 1, .slice (some ⟨g2, 0, none⟩) 3 3, .int .i64 (-1), .bool true]
def lsllg_b11 (x0 : Int) (x1 : Int) (x2 : Int) (y0 : Int) (y1 : Int) (y2 : Int) (γ1 : Nat → Nat) (g2 : Nat) : List Value := (lsllg_l9 x0 x1 x2 y0 y1 y2 γ1) ++ ((lsllg_l10 x2 y2 γ1 g2))
def lslel_l0 (x0 : Int) (x1 : Int) (x2 : Int) (y0 : Int) (y1 : Int) (y2 : Int) (γ1 : Nat → Nat) : List Value := [.agg #[.int .i64 x0, .int .i64 x1, .int .i64 x2], .agg #[.int .i64 y0, .int .i64 y1, .int .i64 y2], .pointer (some ⟨γ1 0, 0, none⟩), .pointer (some ⟨γ1 1, 0, none⟩), .bool false, zz, zz, zz, zz, zz, zz, zz, zz, zz, zz, zz]
def lslel_l1 : List Value := [zz, zz, zz, zz, zz, zz, zz]
def lslel_b2 (x0 : Int) (x1 : Int) (x2 : Int) (y0 : Int) (y1 : Int) (y2 : Int) (γ1 : Nat → Nat) : List Value := (lslel_l0 x0 x1 x2 y0 y1 y2 γ1) ++ (lslel_l1)
def lslel_c3 (y0 : Int) (y1 : Int) (y2 : Int) : List Value := [.int .i64 y0, .int .i64 y1, .int .i64 y2]
def lslel_c4 (x0 : Int) (x1 : Int) (x2 : Int) : List Value := [.int .i64 x0, .int .i64 x1, .int .i64 x2]
def lslel_c5 : List Value := [.int .i64 (-1), .int .i64 0, .int .i64 (-1)]
def lslel_l6 (g2 : Nat) : List Value := [.slice (some ⟨g2, 0, none⟩) 3 3, zz, .int .i64 0, .int .i64 0, zz, zz, .slice (some ⟨g2, 0, none⟩) 3 3, .int .i64 3, .int .i64 0, zz, zz, zz, zz, zz, zz, zz]
def lslel_l7 : List Value := [zz, zz]
def lslel_b8 (g2 : Nat) : List Value := (lslel_l6 g2) ++ (lslel_l7)
def lslel_l9 (x0 : Int) (x1 : Int) (x2 : Int) (y0 : Int) (y1 : Int) (y2 : Int) (γ1 : Nat → Nat) : List Value := [.agg #[.int .i64 x0, .int .i64 x1, .int .i64 x2], .agg #[.int .i64 y0, .int .i64 y1, .int .i64 y2], .pointer (some ⟨γ1 0, 0, none⟩), .pointer (some ⟨γ1 1, 0, none⟩), .bool true, .pointer (some ⟨γ1 0, 0, none⟩), .int .i64 x0, .pointer (some ⟨γ1 1, 0, none⟩), .int .i64 y0, .int .i64 (-1), .pointer (some ⟨γ1 0, 1, none⟩), .int .i64 x1, .pointer (some ⟨γ1 1, 1, none⟩), .int .i64 y1, .int .i64 0, .pointer (some ⟨γ1 0, 2, none⟩)]
def lslel_l10 (x2 : Int) (y2 : Int) (γ1 : Nat → Nat) (g2 : Nat) : List Value := [.int .i64 x2, .pointer (some ⟨γ1 1, 2, none⟩), .int .i64 y2, .int .i64 (-1), .slice (some ⟨g2, 0, none⟩) 3 3, .int .i64 (-1), .bool true]
def lslel_b11 (x0 : Int) (x1 : Int) (x2 : Int) (y0 : Int) (y1 : Int) (y2 : Int) (γ1 : Nat → Nat) (g2 : Nat) : List Value := (lslel_l9 x0 x1 x2 y0 y1 y2 γ1) ++ ((lslel_l10 x2 y2 γ1 g2))
def lslee_l0 (x0 : Int) (x1 : Int) (x2 : Int) (y0 : Int) (y1 : Int) (y2 : Int) (γ1 : Nat → Nat) : List Value := [.agg #[.int .i64 x0, .int .i64 x1, .int .i64 x2], .agg #[.int .i64 y0, .int .i64 y1, .int .i64 y2], .pointer (some ⟨γ1 0, 0, none⟩), .pointer (some ⟨γ1 1, 0, none⟩), .bool false, zz, zz, zz, zz, zz, zz, zz, zz, zz, zz, zz]
def lslee_l1 : List Value := [zz, zz, zz, zz, zz, zz, zz]
def lslee_b2 (x0 : Int) (x1 : Int) (x2 : Int) (y0 : Int) (y1 : Int) (y2 : Int) (γ1 : Nat → Nat) : List Value := (lslee_l0 x0 x1 x2 y0 y1 y2 γ1) ++ (lslee_l1)
def lslee_c3 (y0 : Int) (y1 : Int) (y2 : Int) : List Value := [.int .i64 y0, .int .i64 y1, .int .i64 y2]
def lslee_c4 (x0 : Int) (x1 : Int) (x2 : Int) : List Value := [.int .i64 x0, .int .i64 x1, .int .i64 x2]
def lslee_c5 : List Value := [.int .i64 (-1), .int .i64 0, .int .i64 0]
def lslee_l6 (g2 : Nat) : List Value := [.slice (some ⟨g2, 0, none⟩) 3 3, zz, .int .i64 0, .int .i64 0, zz, zz, .slice (some ⟨g2, 0, none⟩) 3 3, .int .i64 3, .int .i64 0, zz, zz, zz, zz, zz, zz, zz]
def lslee_l7 : List Value := [zz, zz]
def lslee_b8 (g2 : Nat) : List Value := (lslee_l6 g2) ++ (lslee_l7)
def lslee_l9 (x0 : Int) (x1 : Int) (x2 : Int) (y0 : Int) (y1 : Int) (y2 : Int) (γ1 : Nat → Nat) : List Value := [.agg #[.int .i64 x0, .int .i64 x1, .int .i64 x2], .agg #[.int .i64 y0, .int .i64 y1, .int .i64 y2], .pointer (some ⟨γ1 0, 0, none⟩), .pointer (some ⟨γ1 1, 0, none⟩), .bool true, .pointer (some ⟨γ1 0, 0, none⟩), .int .i64 x0, .pointer (some ⟨γ1 1, 0, none⟩), .int .i64 y0, .int .i64 (-1), .pointer (some ⟨γ1 0, 1, none⟩), .int .i64 x1, .pointer (some ⟨γ1 1, 1, none⟩), .int .i64 y1, .int .i64 0, .pointer (some ⟨γ1 0, 2, none⟩)]
def lslee_l10 (x2 : Int) (y2 : Int) (γ1 : Nat → Nat) (g2 : Nat) : List Value := [.int .i64 x2, .pointer (some ⟨γ1 1, 2, none⟩), .int .i64 y2, .int .i64 0, .slice (some ⟨g2, 0, none⟩) 3 3, .int .i64 (-1), .bool true]
def lslee_b11 (x0 : Int) (x1 : Int) (x2 : Int) (y0 : Int) (y1 : Int) (y2 : Int) (γ1 : Nat → Nat) (g2 : Nat) : List Value := (lslee_l9 x0 x1 x2 y0 y1 y2 γ1) ++ ((lslee_l10 x2 y2 γ1 g2))
def lsleg_l0 (x0 : Int) (x1 : Int) (x2 : Int) (y0 : Int) (y1 : Int) (y2 : Int) (γ1 : Nat → Nat) : List Value := [.agg #[.int .i64 x0, .int .i64 x1, .int .i64 x2], .agg #[.int .i64 y0, .int .i64 y1, .int .i64 y2], .pointer (some ⟨γ1 0, 0, none⟩), .pointer (some ⟨γ1 1, 0, none⟩), .bool false, zz, zz, zz, zz, zz, zz, zz, zz, zz, zz, zz]
def lsleg_l1 : List Value := [zz, zz, zz, zz, zz, zz, zz]
def lsleg_b2 (x0 : Int) (x1 : Int) (x2 : Int) (y0 : Int) (y1 : Int) (y2 : Int) (γ1 : Nat → Nat) : List Value := (lsleg_l0 x0 x1 x2 y0 y1 y2 γ1) ++ (lsleg_l1)
def lsleg_c3 (y0 : Int) (y1 : Int) (y2 : Int) : List Value := [.int .i64 y0, .int .i64 y1, .int .i64 y2]
def lsleg_c4 (x0 : Int) (x1 : Int) (x2 : Int) : List Value := [.int .i64 x0, .int .i64 x1, .int .i64 x2]
def lsleg_c5 : List Value := [.int .i64 (-1), .int .i64 0, .int .i64 1]
def lsleg_l6 (g2 : Nat) : List Value := [.slice (some ⟨g2, 0, none⟩) 3 3, zz, .int .i64 0, .int .i64 0, zz, zz, .slice (some ⟨g2, 0, none⟩) 3 3, .int .i64 3, .int .i64 0, zz, zz, zz, zz, zz, zz, zz]
def lsleg_l7 : List Value := [zz, zz]
def lsleg_b8 (g2 : Nat) : List Value := (lsleg_l6 g2) ++ (lsleg_l7)
def lsleg_l9 (x0 : Int) (x1 : Int) (x2 : Int) (y0 : Int) (y1 : Int) (y2 : Int) (γ1 : Nat → Nat) : List Value := [.agg #[.int .i64 x0, .int .i64 x1, .int .i64 x2], .agg #[.int .i64 y0, .int .i64 y1, .int .i64 y2], .pointer (some ⟨γ1 0, 0, none⟩), .pointer (some ⟨γ1 1, 0, none⟩), .bool true, .pointer (some ⟨γ1 0, 0, none⟩), .int .i64 x0, .pointer (some ⟨γ1 1, 0, none⟩), .int .i64 y0, .int .i64 (-1), .pointer (some ⟨γ1 0, 1, none⟩), .int .i64 x1, .pointer (some ⟨γ1 1, 1, none⟩), .int .i64 y1, .int .i64 0, .pointer (some ⟨γ1 0, 2, none⟩)]
def lsleg_l10 (x2 : Int) (y2 : Int) (γ1 : Nat → Nat) (g2 : Nat) : List Value := [.int .i64 x2, .pointer (some ⟨γ1 1, 2, none⟩), .int .i64 y2, .int .i64 1, .slice (some ⟨g2, 0, none⟩) 3 3, .int .i64 (-1), .bool true]
def lsleg_b11 (x0 : Int) (x1 : Int) (x2 : Int) (y0 : Int) (y1 : Int) (y2 : Int) (γ1 : Nat → Nat) (g2 : Nat) : List Value := (lsleg_l9 x0 x1 x2 y0 y1 y2 γ1) ++ ((lsleg_l10 x2 y2 γ1 g2))
def lslgl_l0 (x0 : Int) (x1 : Int) (x2 : Int) (y0 : Int) (y1 : Int) (y2 : Int) (γ1 : Nat → Nat) : List Value := [.agg #[.int .i64 x0, .int .i64 x1, .int .i64 x2], .agg #[.int .i64 y0, .int .i64 y1, .int .i64 y2], .pointer (some ⟨γ1 0, 0, none⟩), .pointer (some ⟨γ1 1, 0, none⟩), .bool false, zz, zz, zz, zz, zz, zz, zz, zz, zz, zz, zz]
def lslgl_l1 : List Value := [zz, zz, zz, zz, zz, zz, zz]
def lslgl_b2 (x0 : Int) (x1 : Int) (x2 : Int) (y0 : Int) (y1 : Int) (y2 : Int) (γ1 : Nat → Nat) : List Value := (lslgl_l0 x0 x1 x2 y0 y1 y2 γ1) ++ (lslgl_l1)
def lslgl_c3 (y0 : Int) (y1 : Int) (y2 : Int) : List Value := [.int .i64 y0, .int .i64 y1, .int .i64 y2]
def lslgl_c4 (x0 : Int) (x1 : Int) (x2 : Int) : List Value := [.int .i64 x0, .int .i64 x1, .int .i64 x2]
def lslgl_c5 : List Value := [.int .i64 (-1), .int .i64 1, .int .i64 (-1)]
def lslgl_l6 (g2 : Nat) : List Value := [.slice (some ⟨g2, 0, none⟩) 3 3, zz, .int .i64 0, .int .i64 0, zz, zz, .slice (some ⟨g2, 0, none⟩) 3 3, .int .i64 3, .int .i64 0, zz, zz, zz, zz, zz, zz, zz]
def lslgl_l7 : List Value := [zz, zz]
def lslgl_b8 (g2 : Nat) : List Value := (lslgl_l6 g2) ++ (lslgl_l7)
def lslgl_l9 (x0 : Int) (x1 : Int) (x2 : Int) (y0 : Int) (y1 : Int) (y2 : Int) (γ1 : Nat → Nat) : List Value := [.agg #[.int .i64 x0, .int .i64 x1, .int .i64 x2], .agg #[.int .i64 y0, .int .i64 y1, .int .i64 y2], .pointer (some ⟨γ1 0, 0, none⟩), .pointer (some ⟨γ1 1, 0, none⟩), .bool true, .pointer (some ⟨γ1 0, 0, none⟩), .int .i64 x0, .pointer (some ⟨γ1 1, 0, none⟩), .int .i64 y0, .int .i64 (-1), .pointer (some ⟨γ1 0, 1, none⟩), .int .i64 x1, .pointer (some ⟨γ1 1, 1, none⟩), .int .i64 y1, .int .i64 1, .pointer (some ⟨γ1 0, 2, none⟩)]
def lslgl_l10 (x2 : Int) (y2 : Int) (γ1 : Nat → Nat) (g2 : Nat) : List Value := [.int .i64 x2, .pointer (some ⟨γ1 1, 2, none⟩), .int .i64 y2, .int .i64 (-1), .slice (some ⟨g2, 0, none⟩) 3 3, .int .i64 (-1), .bool true]
def lslgl_b11 (x0 : Int) (x1 : Int) (x2 : Int) (y0 : Int) (y1 : Int) (y2 : Int) (γ1 : Nat → Nat) (g2 : Nat) : List Value := (lslgl_l9 x0 x1 x2 y0 y1 y2 γ1) ++ ((lslgl_l10 x2 y2 γ1 g2))
def lslge_l0 (x0 : Int) (x1 : Int) (x2 : Int) (y0 : Int) (y1 : Int) (y2 : Int) (γ1 : Nat → Nat) : List Value := [.agg #[.int .i64 x0, .int .i64 x1, .int .i64 x2], .agg #[.int .i64 y0, .int .i64 y1, .int .i64 y2], .pointer (some ⟨γ1 0, 0, none⟩), .pointer (some ⟨γ1 1, 0, none⟩), .bool false, zz, zz, zz, zz, zz, zz, zz, zz, zz, zz, zz]
def lslge_l1 : List Value := [zz, zz, zz, zz, zz, zz, zz]
def lslge_b2 (x0 : Int) (x1 : Int) (x2 : Int) (y0 : Int) (y1 : Int) (y2 : Int) (γ1 : Nat → Nat) : List Value := (lslge_l0 x0 x1 x2 y0 y1 y2 γ1) ++ (lslge_l1)
def lslge_c3 (y0 : Int) (y1 : Int) (y2 : Int) : List Value := [.int .i64 y0, .int .i64 y1, .int .i64 y2]
def lslge_c4 (x0 : Int) (x1 : Int) (x2 : Int) : List Value := [.int .i64 x0, .int .i64 x1, .int .i64 x2]
def lslge_c5 : List Value := [.int .i64 (-1), .int .i64 1, .int .i64 0]
def lslge_l6 (g2 : Nat) : List Value := [.slice (some ⟨g2, 0, none⟩) 3 3, zz, .int .i64 0, .int .i64 0, zz, zz, .slice (some ⟨g2, 0, none⟩) 3 3, .int .i64 3, .int .i64 0, zz, zz, zz, zz, zz, zz, zz]
def lslge_l7 : List Value := [zz, zz]
def lslge_b8 (g2 : Nat) : List Value := (lslge_l6 g2) ++ (lslge_l7)
def lslge_l9 (x0 : Int) (x1 : Int) (x2 : Int) (y0 : Int) (y1 : Int) (y2 : Int) (γ1 : Nat → Nat) : List Value := [.agg #[.int .i64 x0, .int .i64 x1, .int .i64 x2], .agg #[.int .i64 y0, .int .i64 y1, .int .i64 y2], .pointer (some ⟨γ1 0, 0, none⟩), .pointer (some ⟨γ1 1, 0, none⟩), .bool true, .pointer (some ⟨γ1 0, 0, none⟩), .int .i64 x0, .pointer (some ⟨γ1 1, 0, none⟩), .int .i64 y0, .int .i64 (-1), .pointer (some ⟨γ1 0, 1, none⟩), .int .i64 x1, .pointer (some ⟨γ1 1, 1, none⟩), .int .i64 y1, .int .i64 1, .pointer (some ⟨γ1 0, 2, none⟩)]
def lslge_l10 (x2 : Int) (y2 : Int) (γ1 : Nat → Nat) (g2 : Nat) : List Value := [.int .i64 x2, .pointer (some ⟨γ1 1, 2, none⟩), .int .i64 y2, .int .i64 0, .slice (some ⟨g2, 0, none⟩) 3 3, .int .i64 (-1), .bool true]
def lslge_b11 (x0 : Int) (x1 : Int) (x2 : Int) (y0 : Int) (y1 : Int) (y2 : Int) (γ1 : Nat → Nat) (g2 : Nat) : List Value := (lslge_l9 x0 x1 x2 y0 y1 y2 γ1) ++ ((lslge_l10 x2 y2 γ1 g2))
def lslgg_l0 (x0 : Int) (x1 : Int) (x2 : Int) (y0 : Int) (y1 : Int) (y2 : Int) (γ1 : Nat → Nat) : List Value := [.agg #[.int .i64 x0, .int .i64 x1, .int .i64 x2], .agg #[.int .i64 y0, .int .i64 y1, .int .i64 y2], .pointer (some ⟨γ1 0, 0, none⟩), .pointer (some ⟨γ1 1, 0, none⟩), .bool false, zz, zz, zz, zz, zz, zz, zz, zz, zz, zz, zz]
def lslgg_l1 : List Value := [zz, zz, zz, zz, zz, zz, zz]
def lslgg_b2 (x0 : Int) (x1 : Int) (x2 : Int) (y0 : Int) (y1 : Int) (y2 : Int) (γ1 : Nat → Nat) : List Value := (lslgg_l0 x0 x1 x2 y0 y1 y2 γ1) ++ (lslgg_l1)
def lslgg_c3 (y0 : Int) (y1 : Int) (y2 : Int) : List Value := [.int .i64 y0, .int .i64 y1, .int .i64 y2]
def lslgg_c4 (x0 : Int) (x1 : Int) (x2 : Int) : List Value := [.int .i64 x0, .int .i64 x1, .int .i64 x2]
def lslgg_c5 : List Value := [.int .i64 (-1), .int .i64 1, .int .i64 1]
def lslgg_l6 (g2 : Nat) : List Value := [.slice (some ⟨g2, 0, none⟩) 3 3, zz, .int .i64 0, .int .i64 0, zz, zz, .slice (some ⟨g2, 0, none⟩) 3 3, .int .i64 3, .int .i64 0, zz, zz, zz, zz, zz, zz, zz]
def lslgg_l7 : List Value := [zz, zz]
def lslgg_b8 (g2 : Nat) : List Value := (lslgg_l6 g2) ++ (lslgg_l7)
def lslgg_l9 (x0 : Int) (x1 : Int) (x2 : Int) (y0 : Int) (y1 : Int) (y2 : Int) (γ1 : Nat → Nat) : List Value := [.agg #[.int .i64 x0, .int .i64 x1, .int .i64 x2], .agg #[.int .i64 y0, .int .i64 y1, .int .i64 y2], .pointer (some ⟨γ1 0, 0, none⟩), .pointer (some ⟨γ1 1, 0, none⟩), .bool true, .pointer (some ⟨γ1 0, 0, none⟩), .int .i64 x0, .pointer (some ⟨γ1 1, 0, none⟩), .int .i64 y0, .int .i64 (-1), .pointer (some ⟨γ1 0, 1, none⟩), .int .i64 x1, .pointer (some ⟨γ1 1, 1, none⟩), .int .i64 y1, .int .i64 1, .pointer (some ⟨γ1 0, 2, none⟩)]
def lslgg_l10 (x2 : Int) (y2 : Int) (γ1 : Nat → Nat) (g2 : Nat) : List Value := [.int .i64 x2, .pointer (some ⟨γ1 1, 2, none⟩), .int .i64 y2, .int .i64 1, .slice (some ⟨g2, 0, none⟩) 3 3, .int .i64 (-1), .bool true]
def lslgg_b11 (x0 : Int) (x1 : Int) (x2 : Int) (y0 : Int) (y1 : Int) (y2 : Int) (γ1 : Nat → Nat) (g2 : Nat) : List Value := (lslgg_l9 x0 x1 x2 y0 y1 y2 γ1) ++ ((lslgg_l10 x2 y2 γ1 g2))
def lsell_l0 (x0 : Int) (x1 : Int) (x2 : Int) (y0 : Int) (y1 : Int) (y2 : Int) (γ1 : Nat → Nat) : List Value := [.agg #[.int .i64 x0, .int .i64 x1, .int .i64 x2], .agg #[.int .i64 y0, .int .i64 y1, .int .i64 y2], .pointer (some ⟨γ1 0, 0, none⟩), .pointer (some ⟨γ1 1, 0, none⟩), .bool false, zz, zz, zz, zz, zz, zz, zz, zz, zz, zz, zz]
def lsell_l1 : List Value := [zz, zz, zz, zz, zz, zz, zz]
def lsell_b2 (x0 : Int) (x1 : Int) (x2 : Int) (y0 : Int) (y1 : Int) (y2 : Int) (γ1 : Nat → Nat) : List Value := (lsell_l0 x0 x1 x2 y0 y1 y2 γ1) ++ (lsell_l1)
def lsell_c3 (y0 : Int) (y1 : Int) (y2 : Int) : List Value := [.int .i64 y0, .int .i64 y1, .int .i64 y2]
def lsell_c4 (x0 : Int) (x1 : Int) (x2 : Int) : List Value := [.int .i64 x0, .int .i64 x1, .int .i64 x2]
def lsell_c5 : List Value := [.int .i64 0, .int .i64 (-1), .int .i64 (-1)]
def lsell_l6 (g2 : Nat) : List Value := [.slice (some ⟨g2, 0, none⟩) 3 3, zz, .int .i64 0, .int .i64 0, zz, zz, .slice (some ⟨g2, 0, none⟩) 3 3, .int .i64 3, .int .i64 0, zz, zz, zz, zz, zz, zz, zz]
def lsell_l7 : List Value := [zz, zz]
def lsell_b8 (g2 : Nat) : List Value := (lsell_l6 g2) ++ (lsell_l7)
def lsell_l9 (x0 : Int) (x1 : Int) (x2 : Int) (y0 : Int) (y1 : Int) (y2 : Int) (γ1 : Nat → Nat) : List Value := [.agg #[.int .i64 x0, .int .i64 x1, .int .i64 x2], .agg #[.int .i64 y0, .int .i64 y1, .int .i64 y2], .pointer (some ⟨γ1 0, 0, none⟩), .pointer (some ⟨γ1 1, 0, none⟩), .bool true, .pointer (some ⟨γ1 0, 0, none⟩), .int .i64 x0, .pointer (some ⟨γ1 1, 0, none⟩), .int .i64 y0, .int .i64 0, .pointer (some ⟨γ1 0, 1, none⟩), .int .i64 x1, .pointer (some ⟨γ1 1, 1, none⟩), .int .i64 y1, .int .i64 (-1), .pointer (some ⟨γ1 0, 2, none⟩)]
def lsell_l10 (x2 : Int) (y2 : Int) (γ1 : Nat → Nat) (g2 : Nat) : List Value := [.int .i64 x2, .pointer (some ⟨γ1 1, 2, none⟩), .int .i64 y2, .int .i64 (-1), .slice (some ⟨g2, 0, none⟩) 3 3, .int .i64 (-1), .bool true]
def lsell_b11 (x0 : Int) (x1 : Int) (x2 : Int) (y0 : Int) (y1 : Int) (y2 : Int) (γ1 : Nat → Nat) (g2 : Nat) : List Value := (lsell_l9 x0 x1 x2 y0 y1 y2 γ1) ++ ((lsell_l10 x2 y2 γ1 g2))
def lsele_l0 (x0 : Int) (x1 : Int) (x2 : Int) (y0 : Int) (y1 : Int) (y2 : Int) (γ1 : Nat → Nat) : List Value := [.agg #[.int .i64 x0, .int .i64 x1, .int .i64 x2], .agg #[.int .i64 y0, .int .i64 y1, .int .i64 y2], .pointer (some ⟨γ1 0, 0, none⟩), .pointer (some ⟨γ1 1, 0, none⟩), .bool false, zz, zz, zz, zz, zz, zz, zz, zz, zz, zz, zz]
def lsele_l1 : List Value := [zz, zz, zz, zz, zz, zz, zz]
def lsele_b2 (x0 : Int) (x1 : Int) (x2 : Int) (y0 : Int) (y1 : Int) (y2 : Int) (γ1 : Nat → Nat) : List Value := (lsele_l0 x0 x1 x2 y0 y1 y2 γ1) ++ (lsele_l1)
def lsele_c3 (y0 : Int) (y1 : Int) (y2 : Int) : List Value := [.int .i64 y0, .int .i64 y1, .int .i64 y2]
def lsele_c4 (x0 : Int) (x1 : Int) (x2 : Int) : List Value := [.int .i64 x0, .int .i64 x1, .int .i64 x2]
def lsele_c5 : List Value := [.int .i64 0, .int .i64 (-1), .int .i64 0]
def lsele_l6 (g2 : Nat) : List Value := [.slice (some ⟨g2, 0, none⟩) 3 3, zz, .int .i64 0, .int .i64 0, zz, zz, .slice (some ⟨g2, 0, none⟩) 3 3, .int .i64 3, .int .i64 0, zz, zz, zz, zz, zz, zz, zz]
def lsele_l7 : List Value := [zz, zz]
def lsele_b8 (g2 : Nat) : List Value := (lsele_l6 g2) ++ (lsele_l7)
def lsele_l9 (x0 : Int) (x1 : Int) (x2 : Int) (y0 : Int) (y1 : Int) (y2 : Int) (γ1 : Nat → Nat) : List Value := [.agg #[.int .i64 x0, .int .i64 x1, .int .i64 x2], .agg #[.int .i64 y0, .int .i64 y1, .int .i64 y2], .pointer (some ⟨γ1 0, 0, none⟩), .pointer (some ⟨γ1 1, 0, none⟩), .bool true, .pointer (some ⟨γ1 0, 0, none⟩), .int .i64 x0, .pointer (some ⟨γ1 1, 0, none⟩), .int .i64 y0, .int .i64 0, .pointer (some ⟨γ1 0, 1, none⟩), .int .i64 x1, .pointer (some ⟨γ1 1, 1, none⟩), .int .i64 y1, .int .i64 (-1), .pointer (some ⟨γ1 0, 2, none⟩)]
def lsele_l10 (x2 : Int) (y2 : Int) (γ1 : Nat → Nat) (g2 : Nat) : List Value := [.int .i64 x2, .pointer (some ⟨γ1 1, 2, none⟩), .int .i64 y2, .int .i64 0, .slice (some ⟨g2, 0, none⟩) 3 3, .int .i64 (-1), .bool true]
def lsele_b11 (x0 : Int) (x1 : Int) (x2 : Int) (y0 : Int) (y1 : Int) (y2 : Int) (γ1 : Nat → Nat) (g2 : Nat) : List Value := (lsele_l9 x0 x1 x2 y0 y1 y2 γ1) ++ ((lsele_l10 x2 y2 γ1 g2))
def lselg_l0 (x0 : Int) (x1 : Int) (x2 : Int) (y0 : Int) (y1 : Int) (y2 : Int) (γ1 : Nat → Nat) : List Value := [.agg #[.int .i64 x0, .int .i64 x1, .int .i64 x2], .agg #[.int .i64 y0, .int .i64 y1, .int .i64 y2], .pointer (some ⟨γ1 0, 0, none⟩), .pointer (some ⟨γ1 1, 0, none⟩), .bool false, zz, zz, zz, zz, zz, zz, zz, zz, zz, zz, zz]
def lselg_l1 : List Value := [zz, zz, zz, zz, zz, zz, zz]
def lselg_b2 (x0 : Int) (x1 : Int) (x2 : Int) (y0 : Int) (y1 : Int) (y2 : Int) (γ1 : Nat → Nat) : List Value := (lselg_l0 x0 x1 x2 y0 y1 y2 γ1) ++ (lselg_l1)
def lselg_c3 (y0 : Int) (y1 : Int) (y2 : Int) : List Value := [.int .i64 y0, .int .i64 y1, .int .i64 y2]
def lselg_c4 (x0 : Int) (x1 : Int) (x2 : Int) : List Value := [.int .i64 x0, .int .i64 x1, .int .i64 x2]
def lselg_c5 : List Value := [.int .i64 0, .int .i64 (-1), .int .i64 1]
def lselg_l6 (g2 : Nat) : List Value := [.slice (some ⟨g2, 0, none⟩) 3 3, zz, .int .i64 0, .int .i64 0, zz, zz, .slice (some ⟨g2, 0, none⟩) 3 3, .int .i64 3, .int .i64 0, zz, zz, zz, zz, zz, zz, zz]
def lselg_l7 : List Value := [zz, zz]
def lselg_b8 (g2 : Nat) : List Value := (lselg_l6 g2) ++ (lselg_l7)
def lselg_l9 (x0 : Int) (x1 : Int) (x2 : Int) (y0 : Int) (y1 : Int) (y2 : Int) (γ1 : Nat → Nat) : List Value := [.agg #[.int .i64 x0, .int .i64 x1, .int .i64 x2], .agg #[.int .i64 y0, .int .i64 y1, .int .i64 y2], .pointer (some ⟨γ1 0, 0, none⟩), .pointer (some ⟨γ1 1, 0, none⟩), .bool true, .pointer (some ⟨γ1 0, 0, none⟩), .int .i64 x0, .pointer (some ⟨γ1 1, 0, none⟩), .int .i64 y0, .int .i64 0, .pointer (some ⟨γ1 0, 1, none⟩), .int .i64 x1, .pointer (some ⟨γ1 1, 1, none⟩), .int .i64 y1, .int .i64 (-1), .pointer (some ⟨γ1 0, 2, none⟩)]
def lselg_l10 (x2 : Int) (y2 : Int) (γ1 : Nat → Nat) (g2 : Nat) : List Value := [.int .i64 x2, .pointer (some ⟨γ1 1, 2, none⟩), .int .i64 y2, .int .i64 1, .slice (some ⟨g2, 0, none⟩) 3 3, .int .i64 (-1), .bool true]
def lselg_b11 (x0 : Int) (x1 : Int) (x2 : Int) (y0 : Int) (y1 : Int) (y2 : Int) (γ1 : Nat → Nat) (g2 : Nat) : List Value := (lselg_l9 x0 x1 x2 y0 y1 y2 γ1) ++ ((lselg_l10 x2 y2 γ1 g2))
def lseel_l0 (x0 : Int) (x1 : Int) (x2 : Int) (y0 : Int) (y1 : Int) (y2 : Int) (γ1 : Nat → Nat) : List Value := [.agg #[.int .i64 x0, .int .i64 x1, .int .i64 x2], .agg #[.int .i64 y0, .int .i64 y1, .int .i64 y2], .pointer (some ⟨γ1 0, 0, none⟩), .pointer (some ⟨γ1 1, 0, none⟩), .bool false, zz, zz, zz, zz, zz, zz, zz, zz, zz, zz, zz]
def lseel_l1 : List Value := [zz, zz, zz, zz, zz, zz, zz]
def lseel_b2 (x0 : Int) (x1 : Int) (x2 : Int) (y0 : Int) (y1 : Int) (y2 : Int) (γ1 : Nat → Nat) : List Value := (lseel_l0 x0 x1 x2 y0 y1 y2 γ1) ++ (lseel_l1)
def lseel_c3 (y0 : Int) (y1 : Int) (y2 : Int) : List Value := [.int .i64 y0, .int .i64 y1, .int .i64 y2]
def lseel_c4 (x0 : Int) (x1 : Int) (x2 : Int) : List Value := [.int .i64 x0, .int .i64 x1, .int .i64 x2]
def lseel_c5 : List Value := [.int .i64 0, .int .i64 0, .int .i64 (-1)]
def lseel_l6 (g2 : Nat) : List Value := [.slice (some ⟨g2, 0, none⟩) 3 3, zz, .int .i64 0, .int .i64 0, zz, zz, .slice (some ⟨g2, 0, none⟩) 3 3, .int .i64 3, .int .i64 0, zz, zz, zz, zz, zz, zz, zz]
def lseel_l7 : List Value := [zz, zz]
def lseel_b8 (g2 : Nat) : List Value := (lseel_l6 g2) ++ (lseel_l7)
def lseel_l9 (x0 : Int) (x1 : Int) (x2 : Int) (y0 : Int) (y1 : Int) (y2 : Int) (γ1 : Nat → Nat) : List Value := [.agg #[.int .i64 x0, .int .i64 x1, .int .i64 x2], .agg #[.int .i64 y0, .int .i64 y1, .int .i64 y2], .pointer (some ⟨γ1 0, 0, none⟩), .pointer (some ⟨γ1 1, 0, none⟩), .bool true, .pointer (some ⟨γ1 0, 0, none⟩), .int .i64 x0, .pointer (some ⟨γ1 1, 0, none⟩), .int .i64 y0, .int .i64 0, .pointer (some ⟨γ1 0, 1, none⟩), .int .i64 x1, .pointer (some ⟨γ1 1, 1, none⟩), .int .i64 y1, .int .i64 0, .pointer (some ⟨γ1 0, 2, none⟩)]
def lseel_l10 (x2 : Int) (y2 : Int) (γ1 : Nat → Nat) (g2 : Nat) : List Value := [.int .i64 x2, .pointer (some ⟨γ1 1, 2, none⟩), .int .i64 y2, .int .i64 (-1), .slice (some ⟨g2, 0, none⟩) 3 3, .int .i64 (-1), .bool true]
def lseel_b11 (x0 : Int) (x1 : Int) (x2 : Int) (y0 : Int) (y1 : Int) (y2 : Int) (γ1 : Nat → Nat) (g2 : Nat) : List Value := (lseel_l9 x0 x1 x2 y0 y1 y2 γ1) ++ ((lseel_l10 x2 y2 γ1 g2))
def lseee_l0 (x0 : Int) (x1 : Int) (x2 : Int) (y0 : Int) (y1 : Int) (y2 : Int) (γ1 : Nat → Nat) : List Value := [.agg #[.int .i64 x0, .int .i64 x1, .int .i64 x2], .agg #[.int .i64 y0, .int .i64 y1, .int .i64 y2], .pointer (some ⟨γ1 0, 0, none⟩), .pointer (some ⟨γ1 1, 0, none⟩), .bool false, zz, zz, zz, zz, zz, zz, zz, zz, zz, zz, zz]
def lseee_l1 : List Value := [zz, zz, zz, zz, zz, zz, zz]
def lseee_b2 (x0 : Int) (x1 : Int) (x2 : Int) (y0 : Int) (y1 : Int) (y2 : Int) (γ1 : Nat → Nat) : List Value := (lseee_l0 x0 x1 x2 y0 y1 y2 γ1) ++ (lseee_l1)
def lseee_c3 (y0 : Int) (y1 : Int) (y2 : Int) : List Value := [.int .i64 y0, .int .i64 y1, .int .i64 y2]
def lseee_c4 (x0 : Int) (x1 : Int) (x2 : Int) : List Value := [.int .i64 x0, .int .i64 x1, .int .i64 x2]
def lseee_c5 : List Value := [.int .i64 0, .int .i64 0, .int .i64 0]
def lseee_l6 (g2 : Nat) : List Value := [.slice (some ⟨g2, 0, none⟩) 3 3, zz, .int .i64 0, .int .i64 0, zz, zz, .slice (some ⟨g2, 0, none⟩) 3 3, .int .i64 3, .int .i64 0, zz, zz, zz, zz, zz, zz, zz]
def lseee_l7 : List Value := [zz, zz]
def lseee_b8 (g2 : Nat) : List Value := (lseee_l6 g2) ++ (lseee_l7)
def lseee_l9 (x0 : Int) (x1 : Int) (x2 : Int) (y0 : Int) (y1 : Int) (y2 : Int) (γ1 : Nat → Nat) : List Value := [.agg #[.int .i64 x0, .int .i64 x1, .int .i64 x2], .agg #[.int .i64 y0, .int .i64 y1, .int .i64 y2], .pointer (some ⟨γ1 0, 0, none⟩), .pointer (some ⟨γ1 1, 0, none⟩), .bool false, .pointer (some ⟨γ1 0, 0, none⟩), .int .i64 x0, .pointer (some ⟨γ1 1, 0, none⟩), .int .i64 y0, .int .i64 0, .pointer (some ⟨γ1 0, 1, none⟩), .int .i64 x1, .pointer (some ⟨γ1 1, 1, none⟩), .int .i64 y1, .int .i64 0, .pointer (some ⟨γ1 0, 2, none⟩)]
def lseee_l10 (x2 : Int) (y2 : Int) (γ1 : Nat → Nat) (g2 : Nat) : List Value := [.int .i64 x2, .pointer (some ⟨γ1 1, 2, none⟩), .int .i64 y2, .int .i64 0, .slice (some ⟨g2, 0, none⟩) 3 3, .int .i64 0, .bool false]
def lseee_b11 (x0 : Int) (x1 : Int) (x2 : Int) (y0 : Int) (y1 : Int) (y2 : Int) (γ1 : Nat → Nat) (g2 : Nat) : List Value := (lseee_l9 x0 x1 x2 y0 y1 y2 γ1) ++ ((lseee_l10 x2 y2 γ1 g2))
def lseeg_l0 (x0 : Int) (x1 : Int) (x2 : Int) (y0 : Int) (y1 : Int) (y2 : Int) (γ1 : Nat → Nat) : List Value := [.agg #[.int .i64 x0, .int .i64 x1, .int .i64 x2], .agg #[.int .i64 y0, .int .i64 y1, .int .i64 y2], .pointer (some ⟨γ1 0, 0, none⟩), .pointer (some ⟨γ1 1, 0, none⟩), .bool false, zz, zz, zz, zz, zz, zz, zz, zz, zz, zz, zz]
def lseeg_l1 : List Value := [zz, zz, zz, zz, zz, zz, zz]
def lseeg_b2 (x0 : Int) (x1 : Int) (x2 : Int) (y0 : Int) (y1 : Int) (y2 : Int) (γ1 : Nat → Nat) : List Value := (lseeg_l0 x0 x1 x2 y0 y1 y2 γ1) ++ (lseeg_l1)
def lseeg_c3 (y0 : Int) (y1 : Int) (y2 : Int) : List Value := [.int .i64 y0, .int .i64 y1, .int .i64 y2]
def lseeg_c4 (x0 : Int) (x1 : Int) (x2 : Int) : List Value := [.int .i64 x0, .int .i64 x1, .int .i64 x2]
def lseeg_c5 : List Value := [.int .i64 0, .int .i64 0, .int .i64 1]
def lseeg_l6 (g2 : Nat) : List Value := [.slice (some ⟨g2, 0, none⟩) 3 3, zz, .int .i64 0, .int .i64 0, zz, zz, .slice (some ⟨g2, 0, none⟩) 3 3, .int .i64 3, .int .i64 0, zz, zz, zz, zz, zz, zz, zz]
def lseeg_l7 : List Value := [zz, zz]
def lseeg_b8 (g2 : Nat) : List Value := (lseeg_l6 g2) ++ (lseeg_l7)
def lseeg_l9 (x0 : Int) (x1 : Int) (x2 : Int) (y0 : Int) (y1 : Int) (y2 : Int) (γ1 : Nat → Nat) : List Value := [.agg #[.int .i64 x0, .int .i64 x1, .int .i64 x2], .agg #[.int .i64 y0, .int .i64 y1, .int .i64 y2], .pointer (some ⟨γ1 0, 0, none⟩), .pointer (some ⟨γ1 1, 0, none⟩), .bool false, .pointer (some ⟨γ1 0, 0, none⟩), .int .i64 x0, .pointer (some ⟨γ1 1, 0, none⟩), .int .i64 y0, .int .i64 0, .pointer (some ⟨γ1 0, 1, none⟩), .int .i64 x1, .pointer (some ⟨γ1 1, 1, none⟩), .int .i64 y1, .int .i64 0, .pointer (some ⟨γ1 0, 2, none⟩)]
def lseeg_l10 (x2 : Int) (y2 : Int) (γ1 : Nat → Nat) (g2 : Nat) : List Value := [.int .i64 x2, .pointer (some ⟨γ1 1, 2, none⟩), .int .i64 y2, .int .i64 1, .slice (some ⟨g2, 0, none⟩) 3 3, .int .i64 1, .bool false]
def lseeg_b11 (x0 : Int) (x1 : Int) (x2 : Int) (y0 : Int) (y1 : Int) (y2 : Int) (γ1 : Nat → Nat) (g2 : Nat) : List Value := (lseeg_l9 x0 x1 x2 y0 y1 y2 γ1) ++ ((lseeg_l10 x2 y2 γ1 g2))
def lsegl_l0 (x0 : Int) (x1 : Int) (x2 : Int) (y0 : Int) (y1 : Int) (y2 : Int) (γ1 : Nat → Nat) : List Value := [.agg #[.int .i64 x0, .int .i64 x1, .int .i64 x2], .agg #[.int .i64 y0, .int .i64 y1, .int .i64 y2], .pointer (some ⟨γ1 0, 0, none⟩), .pointer (some ⟨γ1 1, 0, none⟩), .bool false, zz, zz, zz, zz, zz, zz, zz, zz, zz, zz, zz]
def lsegl_l1 : List Value := [zz, zz, zz, zz, zz, zz, zz]
def lsegl_b2 (x0 : Int) (x1 : Int) (x2 : Int) (y0 : Int) (y1 : Int) (y2 : Int) (γ1 : Nat → Nat) : List Value := (lsegl_l0 x0 x1 x2 y0 y1 y2 γ1) ++ (lsegl_l1)
def lsegl_c3 (y0 : Int) (y1 : Int) (y2 : Int) : List Value := [.int .i64 y0, .int .i64 y1, .int .i64 y2]
def lsegl_c4 (x0 : Int) (x1 : Int) (x2 : Int) : List Value := [.int .i64 x0, .int .i64 x1, .int .i64 x2]
def lsegl_c5 : List Value := [.int .i64 0, .int .i64 1, .int .i64 (-1)]
def lsegl_l6 (g2 : Nat) : List Value := [.slice (some ⟨g2, 0, none⟩) 3 3, zz, .int .i64 0, .int .i64 0, zz, zz, .slice (some ⟨g2, 0, none⟩) 3 3, .int .i64 3, .int .i64 0, zz, zz, zz, zz, zz, zz, zz]
def lsegl_l7 : List Value := [zz, zz]
def lsegl_b8 (g2 : Nat) : List Value := (lsegl_l6 g2) ++ (lsegl_l7)
def lsegl_l9 (x0 : Int) (x1 : Int) (x2 : Int) (y0 : Int) (y1 : Int) (y2 : Int) (γ1 : Nat → Nat) : List Value := [.agg #[.int .i64 x0, .int .i64 x1, .int .i64 x2], .agg #[.int .i64 y0, .int .i64 y1, .int .i64 y2], .pointer (some ⟨γ1 0, 0, none⟩), .pointer (some ⟨γ1 1, 0, none⟩), .bool false, .pointer (some ⟨γ1 0, 0, none⟩), .int .i64 x0, .pointer (some ⟨γ1 1, 0, none⟩), .int .i64 y0, .int .i64 0, .pointer (some ⟨γ1 0, 1, none⟩), .int .i64 x1, .pointer (some ⟨γ1 1, 1, none⟩), .int .i64 y1, .int .i64 1, .pointer (some ⟨γ1 0, 2, none⟩)]
def lsegl_l10 (x2 : Int) (y2 : Int) (γ1 : Nat → Nat) (g2 : Nat) : List Value := [.int .i64 x2, .pointer (some ⟨γ1 1, 2, none⟩), .int .i64 y2, .int .i64 (-1), .slice (some ⟨g2, 0, none⟩) 3 3, .int .i64 1, .bool false]
def lsegl_b11 (x0 : Int) (x1 : Int) (x2 : Int) (y0 : Int) (y1 : Int) (y2 : Int) (γ1 : Nat → Nat) (g2 : Nat) : List Value := (lsegl_l9 x0 x1 x2 y0 y1 y2 γ1) ++ ((lsegl_l10 x2 y2 γ1 g2))
def lsege_l0 (x0 : Int) (x1 : Int) (x2 : Int) (y0 : Int) (y1 : Int) (y2 : Int) (γ1 : Nat → Nat) : List Value := [.agg #[.int .i64 x0, .int .i64 x1, .int .i64 x2], .agg #[.int .i64 y0, .int .i64 y1, .int .i64 y2], .pointer (some ⟨γ1 0, 0, none⟩), .pointer (some ⟨γ1 1, 0, none⟩), .bool false, zz, zz, zz, zz, zz, zz, zz, zz, zz, zz, zz]
def lsege_l1 : List Value := [zz, zz, zz, zz, zz, zz, zz]
def lsege_b2 (x0 : Int) (x1 : Int) (x2 : Int) (y0 : Int) (y1 : Int) (y2 : Int) (γ1 : Nat → Nat) : List Value := (lsege_l0 x0 x1 x2 y0 y1 y2 γ1) ++ (lsege_l1)
def lsege_c3 (y0 : Int) (y1 : Int) (y2 : Int) : List Value := [.int .i64 y0, .int .i64 y1, .int .i64 y2]
def lsege_c4 (x0 : Int) (x1 : Int) (x2 : Int) : List Value := [.int .i64 x0, .int .i64 x1, .int .i64 x2]
def lsege_c5 : List Value := [.int .i64 0, .int .i64 1, .int .i64 0]
def lsege_l6 (g2 : Nat) : List Value := [.slice (some ⟨g2, 0, none⟩) 3 3, zz, .int .i64 0, .int .i64 0, zz, zz, .slice (some ⟨g2, 0, none⟩) 3 3, .int .i64 3, .int .i64 0, zz, zz, zz, zz, zz, zz, zz]
def lsege_l7 : List Value := [zz, zz]
def lsege_b8 (g2 : Nat) : List Value := (lsege_l6 g2) ++ (lsege_l7)
def lsege_l9 (x0 : Int) (x1 : Int) (x2 : Int) (y0 : Int) (y1 : Int) (y2 : Int) (γ1 : Nat → Nat) : List Value := [.agg #[.int .i64 x0, .int .i64 x1, .int .i64 x2], .agg #[.int .i64 y0, .int .i64 y1, .int .i64 y2], .pointer (some ⟨γ1 0, 0, none⟩), .pointer (some ⟨γ1 1, 0, none⟩), .bool false, .pointer (some ⟨γ1 0, 0, none⟩), .int .i64 x0, .pointer (some ⟨γ1 1, 0, none⟩), .int .i64 y0, .int .i64 0, .pointer (some ⟨γ1 0, 1, none⟩), .int .i64 x1, .pointer (some ⟨γ1 1, 1, none⟩), .int .i64 y1, .int .i64 1, .pointer (some ⟨γ1 0, 2, none⟩)]
def lsege_l10 (x2 : Int) (y2 : Int) (γ1 : Nat → Nat) (g2 : Nat) : List Value := [.int .i64 x2, .pointer (some ⟨γ1 1, 2, none⟩), .int .i64 y2, .int .i64 0, .slice (some ⟨g2, 0, none⟩) 3 3, .int .i64 1, .bool false]
def lsege_b11 (x0 : Int) (x1 : Int) (x2 : Int) (y0 : Int) (y1 : Int) (y2 : Int) (γ1 : Nat → Nat) (g2 : Nat) : List Value := (lsege_l9 x0 x1 x2 y0 y1 y2 γ1) ++ ((lsege_l10 x2 y2 γ1 g2))
def lsegg_l0 (x0 : Int) (x1 : Int) (x2 : Int) (y0 : Int) (y1 : Int) (y2 : Int) (γ1 : Nat → Nat) : List Value := [.agg #[.int .i64 x0, .int .i64 x1, .int .i64 x2], .agg #[.int .i64 y0, .int .i64 y1, .int .i64 y2], .pointer (some ⟨γ1 0, 0, none⟩), .pointer (some ⟨γ1 1, 0, none⟩), .bool false, zz, zz, zz, zz, zz, zz, zz, zz, zz, zz, zz]
def lsegg_l1 : List Value := [zz, zz, zz, zz, zz, zz, zz]
def lsegg_b2 (x0 : Int) (x1 : Int) (x2 : Int) (y0 : Int) (y1 : Int) (y2 : Int) (γ1 : Nat → Nat) : List Value := (lsegg_l0 x0 x1 x2 y0 y1 y2 γ1) ++ (lsegg_l1)
def lsegg_c3 (y0 : Int) (y1 : Int) (y2 : Int) : List Value := [.int .i64 y0, .int .i64 y1, .int .i64 y2]
def lsegg_c4 (x0 : Int) (x1 : Int) (x2 : Int) : List Value := [.int .i64 x0, .int .i64 x1, .int .i64 x2]
def lsegg_c5 : List Value := [.int .i64 0, .int .i64 1, .int .i64 1]
def lsegg_l6 (g2 : Nat) : List Value := [.slice (some ⟨g2, 0, none⟩) 3 3, zz, .int .i64 0, .int .i64 0, zz, zz, .slice (some ⟨g2, 0, none⟩) 3 3, .int .i64 3, .int .i64 0, zz, zz, zz, zz, zz, zz, zz]
def lsegg_l7 : List Value := [zz, zz]
def lsegg_b8 (g2 : Nat) : List Value := (lsegg_l6 g2) ++ (lsegg_l7)
def lsegg_l9 (x0 : Int) (x1 : Int) (x2 : Int) (y0 : Int) (y1 : Int) (y2 : Int) (γ1 : Nat → Nat) : List Value := [.agg #[.int .i64 x0, .int .i64 x1, .int .i64 x2], .agg #[.int .i64 y0, .int .i64 y1, .int .i64 y2], .pointer (some ⟨γ1 0, 0, none⟩), .pointer (some ⟨γ1 1, 0, none⟩), .bool false, .pointer (some ⟨γ1 0, 0, none⟩), .int .i64 x0, .pointer (some ⟨γ1 1, 0, none⟩), .int .i64 y0, .int .i64 0, .pointer (some ⟨γ1 0, 1, none⟩), .int .i64 x1, .pointer (some ⟨γ1 1, 1, none⟩), .int .i64 y1, .int .i64 1, .pointer (some ⟨γ1 0, 2, none⟩)]
def lsegg_l10 (x2 : Int) (y2 : Int) (γ1 : Nat → Nat) (g2 : Nat) : List Value := [.int .i64 x2, .pointer (some ⟨γ1 1, 2, none⟩), .int .i64 y2, .int .i64 1, .slice (some ⟨g2, 0, none⟩) 3 3, .int .i64 1, .bool false]
def lsegg_b11 (x0 : Int) (x1 : Int) (x2 : Int) (y0 : Int) (y1 : Int) (y2 : Int) (γ1 : Nat → Nat) (g2 : Nat) : List Value := (lsegg_l9 x0 x1 x2 y0 y1 y2 γ1) ++ ((lsegg_l10 x2 y2 γ1 g2))
def lsgll_l0 (x0 : Int) (x1 : Int) (x2 : Int) (y0 : Int) (y1 : Int) (y2 : Int) (γ1 : Nat → Nat) : List Value := [.agg #[.int .i64 x0, .int .i64 x1, .int .i64 x2], .agg #[.int .i64 y0, .int .i64 y1, .int .i64 y2], .pointer (some ⟨γ1 0, 0, none⟩), .pointer (some ⟨γ1 1, 0, none⟩), .bool false, zz, zz, zz, zz, zz, zz, zz, zz, zz, zz, zz]
def lsgll_l1 : List Value := [zz, zz, zz, zz, zz, zz, zz]
def lsgll_b2 (x0 : Int) (x1 : Int) (x2 : Int) (y0 : Int) (y1 : Int) (y2 : Int) (γ1 : Nat → Nat) : List Value := (lsgll_l0 x0 x1 x2 y0 y1 y2 γ1) ++ (lsgll_l1)
def lsgll_c3 (y0 : Int) (y1 : Int) (y2 : Int) : List Value := [.int .i64 y0, .int .i64 y1, .int .i64 y2]
def lsgll_c4 (x0 : Int) (x1 : Int) (x2 : Int) : List Value := [.int .i64 x0, .int .i64 x1, .int .i64 x2]
def lsgll_c5 : List Value := [.int .i64 1, .int .i64 (-1), .int .i64 (-1)]
def lsgll_l6 (g2 : Nat) : List Value := [.slice (some ⟨g2, 0, none⟩) 3 3, zz, .int .i64 0, .int .i64 0, zz, zz, .slice (some ⟨g2, 0, none⟩) 3 3, .int .i64 3, .int .i64 0, zz, zz, zz, zz, zz, zz, zz]
def lsgll_l7 : List Value := [zz, zz]
def lsgll_b8 (g2 : Nat) : List Value := (lsgll_l6 g2) ++ (lsgll_l7)
def lsgll_l9 (x0 : Int) (x1 : Int) (x2 : Int) (y0 : Int) (y1 : Int) (y2 : Int) (γ1 : Nat → Nat) : List Value := [.agg #[.int .i64 x0, .int .i64 x1, .int .i64 x2], .agg #[.int .i64 y0, .int .i64 y1, .int .i64 y2], .pointer (some ⟨γ1 0, 0, none⟩), .pointer (some ⟨γ1 1, 0, none⟩), .bool false, .pointer (some ⟨γ1 0, 0, none⟩), .int .i64 x0, .pointer (some ⟨γ1 1, 0, none⟩), .int .i64 y0, .int .i64 1, .pointer (some ⟨γ1 0, 1, none⟩), .int .i64 x1, .pointer (some ⟨γ1 1, 1, none⟩), .int .i64 y1, .int .i64 (-1), .pointer (some ⟨γ1 0, 2, none⟩)]
def lsgll_l10 (x2 : Int) (y2 : Int) (γ1 : Nat → Nat) (g2 : Nat) : List Value := [.int .i64 x2, .pointer (some ⟨γ1 1, 2, none⟩), .int .i64 y2, .int .i64 (-1), .slice (some ⟨g2, 0, none⟩) 3 3, .int .i64 1, .bool false]
def lsgll_b11 (x0 : Int) (x1 : Int) (x2 : Int) (y0 : Int) (y1 : Int) (y2 : Int) (γ1 : Nat → Nat) (g2 : Nat) : List Value := (lsgll_l9 x0 x1 x2 y0 y1 y2 γ1) ++ ((lsgll_l10 x2 y2 γ1 g2))
def lsgle_l0 (x0 : Int) (x1 : Int) (x2 : Int) (y0 : Int) (y1 : Int) (y2 : Int) (γ1 : Nat → Nat) : List Value := [.agg #[.int .i64 x0, .int .i64 x1, .int .i64 x2], .agg #[.int .i64 y0, .int .i64 y1, .int .i64 y2], .pointer (some ⟨γ1 0, 0, none⟩), .pointer (some ⟨γ1 1, 0, none⟩), .bool false, zz, zz, zz, zz, zz, zz, zz, zz, zz, zz, zz]
def lsgle_l1 : List Value := [zz, zz, zz, zz, zz, zz, zz]
def lsgle_b2 (x0 : Int) (x1 : Int) (x2 : Int) (y0 : Int) (y1 : Int) (y2 : Int) (γ1 : Nat → Nat) : List Value := (lsgle_l0 x0 x1 x2 y0 y1 y2 γ1) ++ (lsgle_l1)
def lsgle_c3 (y0 : Int) (y1 : Int) (y2 : Int) : List Value := [.int .i64 y0, .int .i64 y1, .int .i64 y2]
def lsgle_c4 (x0 : Int) (x1 : Int) (x2 : Int) : List Value := [.int .i64 x0, .int .i64 x1, .int .i64 x2]
def lsgle_c5 : List Value := [.int .i64 1, .int .i64 (-1), .int .i64 0]
def lsgle_l6 (g2 : Nat) : List Value := [.slice (some ⟨g2, 0, none⟩) 3 3, zz, .int .i64 0, .int .i64 0, zz, zz, .slice (some ⟨g2, 0, none⟩) 3 3, .int .i64 3, .int .i64 0, zz, zz, zz, zz, zz, zz, zz]
def lsgle_l7 : List Value := [zz, zz]
def lsgle_b8 (g2 : Nat) : List Value := (lsgle_l6 g2) ++ (lsgle_l7)
def lsgle_l9 (x0 : Int) (x1 : Int) (x2 : Int) (y0 : Int) (y1 : Int) (y2 : Int) (γ1 : Nat → Nat) : List Value := [.agg #[.int .i64 x0, .int .i64 x1, .int .i64 x2], .agg #[.int .i64 y0, .int .i64 y1, .int .i64 y2], .pointer (some ⟨γ1 0, 0, none⟩), .pointer (some ⟨γ1 1, 0, none⟩), .bool false, .pointer (some ⟨γ1 0, 0, none⟩), .int .i64 x0, .pointer (some ⟨γ1 1, 0, none⟩), .int .i64 y0, .int .i64 1, .pointer (some ⟨γ1 0, 1, none⟩), .int .i64 x1, .pointer (some ⟨γ1 1, 1, none⟩), .int .i64 y1, .int .i64 (-1), .pointer (some ⟨γ1 0, 2, none⟩)]
def lsgle_l10 (x2 : Int) (y2 : Int) (γ1 : Nat → Nat) (g2 : Nat) : List Value := [.int .i64 x2, .pointer (some ⟨γ1 1, 2, none⟩), .int .i64 y2, .int .i64 0, .slice (some ⟨g2, 0, none⟩) 3 3, .int .i64 1, .bool false]
def lsgle_b11 (x0 : Int) (x1 : Int) (x2 : Int) (y0 : Int) (y1 : Int) (y2 : Int) (γ1 : Nat → Nat) (g2 : Nat) : List Value := (lsgle_l9 x0 x1 x2 y0 y1 y2 γ1) ++ ((lsgle_l10 x2 y2 γ1 g2))
def lsglg_l0 (x0 : Int) (x1 : Int) (x2 : Int) (y0 : Int) (y1 : Int) (y2 : Int) (γ1 : Nat → Nat) : List Value := [.agg #[.int .i64 x0, .int .i64 x1, .int .i64 x2], .agg #[.int .i64 y0, .int .i64 y1, .int .i64 y2], .pointer (some ⟨γ1 0, 0, none⟩), .pointer (some ⟨γ1 1, 0, none⟩), .bool false, zz, zz, zz, zz, zz, zz, zz, zz, zz, zz, zz]
def lsglg_l1 : List Value := [zz, zz, zz, zz, zz, zz, zz]
def lsglg_b2 (x0 : Int) (x1 : Int) (x2 : Int) (y0 : Int) (y1 : Int) (y2 : Int) (γ1 : Nat → Nat) : List Value := (lsglg_l0 x0 x1 x2 y0 y1 y2 γ1) ++ (lsglg_l1)
def lsglg_c3 (y0 : Int) (y1 : Int) (y2 : Int) : List Value := [.int .i64 y0, .int .i64 y1, .int .i64 y2]
def lsglg_c4 (x0 : Int) (x1 : Int) (x2 : Int) : List Value := [.int .i64 x0, .int .i64 x1, .int .i64 x2]
def lsglg_c5 : List Value := [.int .i64 1, .int .i64 (-1), .int .i64 1]
def lsglg_l6 (g2 : Nat) : List Value := [.slice (some ⟨g2, 0, none⟩) 3 3, zz, .int .i64 0, .int .i64 0, zz, zz, .slice (some ⟨g2, 0, none⟩) 3 3, .int .i64 3, .int .i64 0, zz, zz, zz, zz, zz, zz, zz]
def lsglg_l7 : List Value := [zz, zz]
def lsglg_b8 (g2 : Nat) : List Value := (lsglg_l6 g2) ++ (lsglg_l7)
def lsglg_l9 (x0 : Int) (x1 : Int) (x2 : Int) (y0 : Int) (y1 : Int) (y2 : Int) (γ1 : Nat → Nat) : List Value := [.agg #[.int .i64 x0, .int .i64 x1, .int .i64 x2], .agg #[.int .i64 y0, .int .i64 y1, .int .i64 y2], .pointer (some ⟨γ1 0, 0, none⟩), .pointer (some ⟨γ1 1, 0, none⟩), .bool false, .pointer (some ⟨γ1 0, 0, none⟩), .int .i64 x0, .pointer (some ⟨γ1 1, 0, none⟩), .int .i64 y0, .int .i64 1, .pointer (some ⟨γ1 0, 1, none⟩), .int .i64 x1, .pointer (some ⟨γ1 1, 1, none⟩), .int .i64 y1, .int .i64 (-1), .pointer (some ⟨γ1 0, 2, none⟩)]
def lsglg_l10 (x2 : Int) (y2 : Int) (γ1 : Nat → Nat) (g2 : Nat) : List Value := [.int .i64 x2, .pointer (some ⟨γ1 1, 2, none⟩), .int .i64 y2, .int .i64 1, .slice (some ⟨g2, 0, none⟩) 3 3, .int .i64 1, .bool false]
def lsglg_b11 (x0 : Int) (x1 : Int) (x2 : Int) (y0 : Int) (y1 : Int) (y2 : Int) (γ1 : Nat → Nat) (g2 : Nat) : List Value := (lsglg_l9 x0 x1 x2 y0 y1 y2 γ1) ++ ((lsglg_l10 x2 y2 γ1 g2))
def lsgel_l0 (x0 : Int) (x1 : Int) (x2 : Int) (y0 : Int) (y1 : Int) (y2 : Int) (γ1 : Nat → Nat) : List Value := [.agg #[.int .i64 x0, .int .i64 x1, .int .i64 x2], .agg #[.int .i64 y0, .int .i64 y1, .int .i64 y2], .pointer (some ⟨γ1 0, 0, none⟩), .pointer (some ⟨γ1 1, 0, none⟩), .bool false, zz, zz, zz, zz, zz, zz, zz, zz, zz, zz, zz]
def lsgel_l1 : List Value := [zz, zz, zz, zz, zz, zz, zz]
def lsgel_b2 (x0 : Int) (x1 : Int) (x2 : Int) (y0 : Int) (y1 : Int) (y2 : Int) (γ1 : Nat → Nat) : List Value := (lsgel_l0 x0 x1 x2 y0 y1 y2 γ1) ++ (lsgel_l1)
def lsgel_c3 (y0 : Int) (y1 : Int) (y2 : Int) : List Value := [.int .i64 y0, .int .i64 y1, .int .i64 y2]
def lsgel_c4 (x0 : Int) (x1 : Int) (x2 : Int) : List Value := [.int .i64 x0, .int .i64 x1, .int .i64 x2]
def lsgel_c5 : List Value := [.int .i64 1, .int .i64 0, .int .i64 (-1)]
def lsgel_l6 (g2 : Nat) : List Value := [.slice (some ⟨g2, 0, none⟩) 3 3, zz, .int .i64 0, .int .i64 0, zz, zz, .slice (some ⟨g2, 0, none⟩) 3 3, .int .i64 3, .int .i64 0, zz, zz, zz, zz, zz, zz, zz]
def lsgel_l7 : List Value := [zz, zz]
def lsgel_b8 (g2 : Nat) : List Value := (lsgel_l6 g2) ++ (lsgel_l7)
def lsgel_l9 (x0 : Int) (x1 : Int) (x2 : Int) (y0 : Int) (y1 : Int) (y2 : Int) (γ1 : Nat → Nat) : List Value := [.agg #[.int .i64 x0, .int .i64 x1, .int .i64 x2], .agg #[.int .i64 y0, .int .i64 y1, .int .i64 y2], .pointer (some ⟨γ1 0, 0, none⟩), .pointer (some ⟨γ1 1, 0, none⟩), .bool false, .pointer (some ⟨γ1 0, 0, none⟩), .int .i64 x0, .pointer (some ⟨γ1 1, 0, none⟩), .int .i64 y0, .int .i64 1, .pointer (some ⟨γ1 0, 1, none⟩), .int .i64 x1, .pointer (some ⟨γ1 1, 1, none⟩), .int .i64 y1, .int .i64 0, .pointer (some ⟨γ1 0, 2, none⟩)]
def lsgel_l10 (x2 : Int) (y2 : Int) (γ1 : Nat → Nat) (g2 : Nat) : List Value := [.int .i64 x2, .pointer (some ⟨γ1 1, 2, none⟩), .int .i64 y2, .int .i64 (-1), .slice (some ⟨g2, 0, none⟩) 3 3, .int .i64 1, .bool false]
def lsgel_b11 (x0 : Int) (x1 : Int) (x2 : Int) (y0 : Int) (y1 : Int) (y2 : Int) (γ1 : Nat → Nat) (g2 : Nat) : List Value := (lsgel_l9 x0 x1 x2 y0 y1 y2 γ1) ++ ((lsgel_l10 x2 y2 γ1 g2))
def lsgee_l0 (x0 : Int) (x1 : Int) (x2 : Int) (y0 : Int) (y1 : Int) (y2 : Int) (γ1 : Nat → Nat) : List Value := [.agg #[.int .i64 x0, .int .i64 x1, .int .i64 x2], .agg #[.int .i64 y0, .int .i64 y1, .int .i64 y2], .pointer (some ⟨γ1 0, 0, none⟩), .pointer (some ⟨γ1 1, 0, none⟩), .bool false, zz, zz, zz, zz, zz, zz, zz, zz, zz, zz, zz]
def lsgee_l1 : List Value := [zz, zz, zz, zz, zz, zz, zz]
def lsgee_b2 (x0 : Int) (x1 : Int) (x2 : Int) (y0 : Int) (y1 : Int) (y2 : Int) (γ1 : Nat → Nat) : List Value := (lsgee_l0 x0 x1 x2 y0 y1 y2 γ1) ++ (lsgee_l1)
def lsgee_c3 (y0 : Int) (y1 : Int) (y2 : Int) : List Value := [.int .i64 y0, .int .i64 y1, .int .i64 y2]
def lsgee_c4 (x0 : Int) (x1 : Int) (x2 : Int) : List Value := [.int .i64 x0, .int .i64 x1, .int .i64 x2]
def lsgee_c5 : List Value := [.int .i64 1, .int .i64 0, .int .i64 0]
def lsgee_l6 (g2 : Nat) : List Value := [.slice (some ⟨g2, 0, none⟩) 3 3, zz, .int .i64 0, .int .i64 0, zz, zz, .slice (some ⟨g2, 0, none⟩) 3 3, .int .i64 3, .int .i64 0, zz, zz, zz, zz, zz, zz, zz]
def lsgee_l7 : List Value := [zz, zz]
def lsgee_b8 (g2 : Nat) : List Value := (lsgee_l6 g2) ++ (lsgee_l7)
def lsgee_l9 (x0 : Int) (x1 : Int) (x2 : Int) (y0 : Int) (y1 : Int) (y2 : Int) (γ1 : Nat → Nat) : List Value := [.agg #[.int .i64 x0, .int .i64 x1, .int .i64 x2], .agg #[.int .i64 y0, .int .i64 y1, .int .i64 y2], .pointer (some ⟨γ1 0, 0, none⟩), .pointer (some ⟨γ1 1, 0, none⟩), .bool false, .pointer (some ⟨γ1 0, 0, none⟩), .int .i64 x0, .pointer (some ⟨γ1 1, 0, none⟩), .int .i64 y0, .int .i64 1, .pointer (some ⟨γ1 0, 1, none⟩), .int .i64 x1, .pointer (some ⟨γ1 1, 1, none⟩), .int .i64 y1, .int .i64 0, .pointer (some ⟨γ1 0, 2, none⟩)]
def lsgee_l10 (x2 : Int) (y2 : Int) (γ1 : Nat → Nat) (g2 : Nat) : List Value := [.int .i64 x2, .pointer (some ⟨γ1 1, 2, none⟩), .int .i64 y2, .int .i64 0, .slice (some ⟨g2, 0, none⟩) 3 3, .int .i64 1, .bool false]
def lsgee_b11 (x0 : Int) (x1 : Int) (x2 : Int) (y0 : Int) (y1 : Int) (y2 : Int) (γ1 : Nat → Nat) (g2 : Nat) : List Value := (lsgee_l9 x0 x1 x2 y0 y1 y2 γ1) ++ ((lsgee_l10 x2 y2 γ1 g2))
def lsgeg_l0 (x0 : Int) (x1 : Int) (x2 : Int) (y0 : Int) (y1 : Int) (y2 : Int) (γ1 : Nat → Nat) : List Value := [.agg #[.int .i64 x0, .int .i64 x1, .int .i64 x2], .agg #[.int .i64 y0, .int .i64 y1, .int .i64 y2], .pointer (some ⟨γ1 0, 0, none⟩), .pointer (some ⟨γ1 1, 0, none⟩), .bool false, zz, zz, zz, zz, zz, zz, zz, zz, zz, zz, zz]
def lsgeg_l1 : List Value := [zz, zz, zz, zz, zz, zz, zz]
def lsgeg_b2 (x0 : Int) (x1 : Int) (x2 : Int) (y0 : Int) (y1 : Int) (y2 : Int) (γ1 : Nat → Nat) : List Value := (lsgeg_l0 x0 x1 x2 y0 y1 y2 γ1) ++ (lsgeg_l1)
def lsgeg_c3 (y0 : Int) (y1 : Int) (y2 : Int) : List Value := [.int .i64 y0, .int .i64 y1, .int .i64 y2]
def lsgeg_c4 (x0 : Int) (x1 : Int) (x2 : Int) : List Value := [.int .i64 x0, .int .i64 x1, .int .i64 x2]
def lsgeg_c5 : List Value := [.int .i64 1, .int .i64 0, .int .i64 1]
def lsgeg_l6 (g2 : Nat) : List Value := [.slice (some ⟨g2, 0, none⟩) 3 3, zz, .int .i64 0, .int .i64 0, zz, zz, .slice (some ⟨g2, 0, none⟩) 3 3, .int .i64 3, .int .i64 0, zz, zz, zz, zz, zz, zz, zz]
def lsgeg_l7 : List Value := [zz, zz]
def lsgeg_b8 (g2 : Nat) : List Value := (lsgeg_l6 g2) ++ (lsgeg_l7)
def lsgeg_l9 (x0 : Int) (x1 : Int) (x2 : Int) (y0 : Int) (y1 : Int) (y2 : Int) (γ1 : Nat → Nat) : List Value := [.agg #[.int .i64 x0, .int .i64 x1, .int .i64 x2], .agg #[.int .i64 y0, .int .i64 y1, .int .i64 y2], .pointer (some ⟨γ1 0, 0, none⟩), .pointer (some ⟨γ1 1, 0, none⟩), .bool false, .pointer (some ⟨γ1 0, 0, none⟩), .int .i64 x0, .pointer (some ⟨γ1 1, 0, none⟩), .int .i64 y0, .int .i64 1, .pointer (some ⟨γ1 0, 1, none⟩), .int .i64 x1, .pointer (some ⟨γ1 1, 1, none⟩), .int .i64 y1, .int .i64 0, .pointer (some ⟨γ1 0, 2, none⟩)]
def lsgeg_l10 (x2 : Int) (y2 : Int) (γ1 : Nat → Nat) (g2 : Nat) : List Value := [.int .i64 x2, .pointer (some ⟨γ1 1, 2, none⟩), .int .i64 y2, .int .i64 1, .slice (some ⟨g2, 0, none⟩) 3 3, .int .i64 1, .bool false]
def lsgeg_b11 (x0 : Int) (x1 : Int) (x2 : Int) (y0 : Int) (y1 : Int) (y2 : Int) (γ1 : Nat → Nat) (g2 : Nat) : List Value := (lsgeg_l9 x0 x1 x2 y0 y1 y2 γ1) ++ ((lsgeg_l10 x2 y2 γ1 g2))
def lsggl_l0 (x0 : Int) (x1 : Int) (x2 : Int) (y0 : Int) (y1 : Int) (y2 : Int) (γ1 : Nat → Nat) : List Value := [.agg #[.int .i64 x0, .int .i64 x1, .int .i64 x2], .agg #[.int .i64 y0, .int .i64 y1, .int .i64 y2], .pointer (some ⟨γ1 0, 0, none⟩), .pointer (some ⟨γ1 1, 0, none⟩), .bool false, zz, zz, zz, zz, zz, zz, zz, zz, zz, zz, zz]
def lsggl_l1 : List Value := [zz, zz, zz, zz, zz, zz, zz]
def lsggl_b2 (x0 : Int) (x1 : Int) (x2 : Int) (y0 : Int) (y1 : Int) (y2 : Int) (γ1 : Nat → Nat) : List Value := (lsggl_l0 x0 x1 x2 y0 y1 y2 γ1) ++ (lsggl_l1)
def lsggl_c3 (y0 : Int) (y1 : Int) (y2 : Int) : List Value := [.int .i64 y0, .int .i64 y1, .int .i64 y2]
def lsggl_c4 (x0 : Int) (x1 : Int) (x2 : Int) : List Value := [.int .i64 x0, .int .i64 x1, .int .i64 x2]
def lsggl_c5 : List Value := [.int .i64 1, .int .i64 1, .int .i64 (-1)]
def lsggl_l6 (g2 : Nat) : List Value := [.slice (some ⟨g2, 0, none⟩) 3 3, zz, .int .i64 0, .int .i64 0, zz, zz, .slice (some ⟨g2, 0, none⟩) 3 3, .int .i64 3, .int .i64 0, zz, zz, zz, zz, zz, zz, zz]
def lsggl_l7 : List Value := [zz, zz]
def lsggl_b8 (g2 : Nat) : List Value := (lsggl_l6 g2) ++ (lsggl_l7)
def lsggl_l9 (x0 : Int) (x1 : Int) (x2 : Int) (y0 : Int) (y1 : Int) (y2 : Int) (γ1 : Nat → Nat) : List Value := [.agg #[.int .i64 x0, .int .i64 x1, .int .i64 x2], .agg #[.int .i64 y0, .int .i64 y1, .int .i64 y2], .pointer (some ⟨γ1 0, 0, none⟩), .pointer (some ⟨γ1 1, 0, none⟩), .bool false, .pointer (some ⟨γ1 0, 0, none⟩), .int .i64 x0, .pointer (some ⟨γ1 1, 0, none⟩), .int .i64 y0, .int .i64 1, .pointer (some ⟨γ1 0, 1, none⟩), .int .i64 x1, .pointer (some ⟨γ1 1, 1, none⟩), .int .i64 y1, .int .i64 1, .pointer (some ⟨γ1 0, 2, none⟩)]
def lsggl_l10 (x2 : Int) (y2 : Int) (γ1 : Nat → Nat) (g2 : Nat) : List Value := [.int .i64 x2, .pointer (some ⟨γ1 1, 2, none⟩), .int .i64 y2, .int .i64 (-1), .slice (some ⟨g2, 0, none⟩) 3 3, .int .i64 1, .bool false]
def lsggl_b11 (x0 : Int) (x1 : Int) (x2 : Int) (y0 : Int) (y1 : Int) (y2 : Int) (γ1 : Nat → Nat) (g2 : Nat) : List Value := (lsggl_l9 x0 x1 x2 y0 y1 y2 γ1) ++ ((lsggl_l10 x2 y2 γ1 g2))
def lsgge_l0 (x0 : Int) (x1 : Int) (x2 : Int) (y0 : Int) (y1 : Int) (y2 : Int) (γ1 : Nat → Nat) : List Value := [.agg #[.int .i64 x0, .int .i64 x1, .int .i64 x2], .agg #[.int .i64 y0, .int .i64 y1, .int .i64 y2], .pointer (some ⟨γ1 0, 0, none⟩), .pointer (some ⟨γ1 1, 0, none⟩), .bool false, zz, zz, zz, zz, zz, zz, zz, zz, zz, zz, zz]
def lsgge_l1 : List Value := [zz, zz, zz, zz, zz, zz, zz]
def lsgge_b2 (x0 : Int) (x1 : Int) (x2 : Int) (y0 : Int) (y1 : Int) (y2 : Int) (γ1 : Nat → Nat) : List Value := (lsgge_l0 x0 x1 x2 y0 y1 y2 γ1) ++ (lsgge_l1)
def lsgge_c3 (y0 : Int) (y1 : Int) (y2 : Int) : List Value := [.int .i64 y0, .int .i64 y1, .int .i64 y2]
def lsgge_c4 (x0 : Int) (x1 : Int) (x2 : Int) : List Value := [.int .i64 x0, .int .i64 x1, .int .i64 x2]
def lsgge_c5 : List Value := [.int .i64 1, .int .i64 1, .int .i64 0]
def lsgge_l6 (g2 : Nat) : List Value := [.slice (some ⟨g2, 0, none⟩) 3 3, zz, .int .i64 0, .int .i64 0, zz, zz, .slice (some ⟨g2, 0, none⟩) 3 3, .int .i64 3, .int .i64 0, zz, zz, zz, zz, zz, zz, zz]
def lsgge_l7 : List Value := [zz, zz]
def lsgge_b8 (g2 : Nat) : List Value := (lsgge_l6 g2) ++ (lsgge_l7)
def lsgge_l9 (x0 : Int) (x1 : Int) (x2 : Int) (y0 : Int) (y1 : Int) (y2 : Int) (γ1 : Nat → Nat) : List Value := [.agg #[.int .i64 x0, .int .i64 x1, .int .i64 x2], .agg #[.int .i64 y0, .int .i64 y1, .int .i64 y2], .pointer (some ⟨γ1 0, 0, none⟩), .pointer (some ⟨γ1 1, 0, none⟩), .bool false, .pointer (some ⟨γ1 0, 0, none⟩), .int .i64 x0, .pointer (some ⟨γ1 1, 0, none⟩), .int .i64 y0, .int .i64 1, .pointer (some ⟨γ1 0, 1, none⟩), .int .i64 x1, .pointer (some ⟨γ1 1, 1, none⟩), .int .i64 y1, .int .i64 1, .pointer (some ⟨γ1 0, 2, none⟩)]
def lsgge_l10 (x2 : Int) (y2 : Int) (γ1 : Nat → Nat) (g2 : Nat) : List Value := [.int .i64 x2, .pointer (some ⟨γ1 1, 2, none⟩), .int .i64 y2, .int .i64 0, .slice (some ⟨g2, 0, none⟩) 3 3, .int .i64 1, .bool false]
def lsgge_b11 (x0 : Int) (x1 : Int) (x2 : Int) (y0 : Int) (y1 : Int) (y2 : Int) (γ1 : Nat → Nat) (g2 : Nat) : List Value := (lsgge_l9 x0 x1 x2 y0 y1 y2 γ1) ++ ((lsgge_l10 x2 y2 γ1 g2))
def lsggg_l0 (x0 : Int) (x1 : Int) (x2 : Int) (y0 : Int) (y1 : Int) (y2 : Int) (γ1 : Nat → Nat) : List Value := [.agg #[.int .i64 x0, .int .i64 x1, .int .i64 x2], .agg #[.int .i64 y0, .int .i64 y1, .int .i64 y2], .pointer (some ⟨γ1 0, 0, none⟩), .pointer (some ⟨γ1 1, 0, none⟩), .bool false, zz, zz, zz, zz, zz, zz, zz, zz, zz, zz, zz]
def lsggg_l1 : List Value := [zz, zz, zz, zz, zz, zz, zz]
def lsggg_b2 (x0 : Int) (x1 : Int) (x2 : Int) (y0 : Int) (y1 : Int) (y2 : Int) (γ1 : Nat → Nat) : List Value := (lsggg_l0 x0 x1 x2 y0 y1 y2 γ1) ++ (lsggg_l1)
def lsggg_c3 (y0 : Int) (y1 : Int) (y2 : Int) : List Value := [.int .i64 y0, .int .i64 y1, .int .i64 y2]
def lsggg_c4 (x0 : Int) (x1 : Int) (x2 : Int) : List Value := [.int .i64 x0, .int .i64 x1, .int .i64 x2]
def lsggg_c5 : List Value := [.int .i64 1, .int .i64 1, .int .i64 1]
def lsggg_l6 (g2 : Nat) : List Value := [.slice (some ⟨g2, 0, none⟩) 3 3, zz, .int .i64 0, .int .i64 0, zz, zz, .slice (some ⟨g2, 0, none⟩) 3 3, .int .i64 3, .int .i64 0, zz, zz, zz, zz, zz, zz, zz]
def lsggg_l7 : List Value := [zz, zz]
def lsggg_b8 (g2 : Nat) : List Value := (lsggg_l6 g2) ++ (lsggg_l7)
def lsggg_l9 (x0 : Int) (x1 : Int) (x2 : Int) (y0 : Int) (y1 : Int) (y2 : Int) (γ1 : Nat → Nat) : List Value := [.agg #[.int .i64 x0, .int .i64 x1, .int .i64 x2], .agg #[.int .i64 y0, .int .i64 y1, .int .i64 y2], .pointer (some ⟨γ1 0, 0, none⟩), .pointer (some ⟨γ1 1, 0, none⟩), .bool false, .pointer (some ⟨γ1 0, 0, none⟩), .int .i64 x0, .pointer (some ⟨γ1 1, 0, none⟩), .int .i64 y0, .int .i64 1, .pointer (some ⟨γ1 0, 1, none⟩), .int .i64 x1, .pointer (some ⟨γ1 1, 1, none⟩), .int .i64 y1, .int .i64 1, .pointer (some ⟨γ1 0, 2, none⟩)]
def lsggg_l10 (x2 : Int) (y2 : Int) (γ1 : Nat → Nat) (g2 : Nat) : List Value := [.int .i64 x2, .pointer (some ⟨γ1 1, 2, none⟩), .int .i64 y2, .int .i64 1, .slice (some ⟨g2, 0, none⟩) 3 3, .int .i64 1, .bool false]
def lsggg_b11 (x0 : Int) (x1 : Int) (x2 : Int) (y0 : Int) (y1 : Int) (y2 : Int) (γ1 : Nat → Nat) (g2 : Nat) : List Value := (lsggg_l9 x0 x1 x2 y0 y1 y2 γ1) ++ ((lsggg_l10 x2 y2 γ1 g2))
set_option maxHeartbeats 8000000 in
set_option maxRecDepth 100000 in
theorem less_raw (x0 x1 x2 y0 y1 y2 : Int) (w : World) : Calls Try.prog 68 #[.agg #[.int .i64 x0, .int .i64 x1, .int .i64 x2], .agg #[.int .i64 y0, .int .i64 y1, .int .i64 y2]] w fun e w' => e = .returned (.bool (ltP (x0, x1, x2) (y0, y1, y2))) ∧ Below w.heap.size w w' := by
  rcases Int.lt_trichotomy x0 y0 with h0 | h0 | h0 <;> rcases Int.lt_trichotomy x1 y1 with h1 | h1 | h1 <;> rcases Int.lt_trichotomy x2 y2 with h2 | h2 | h2
  · skip
    refine enter (args := [.agg #[.int .i64 x0, .int .i64 x1, .int .i64 x2], .agg #[.int .i64 y0, .int .i64 y1, .int .i64 y2]]) (fn := Try.f68) rfl (c := bdy Try.f68) (by kernel_rfl) ?_
    refine ck 3 [] [] fun γ1 => ⟨⟨kt (bdy Try.f68) [1, 0] [], (lslll_b2 x0 x1 x2 y0 y1 y2 γ1), [(γ1 1, 67, (lslll_c3 y0 y1 y2)), (γ1 0, 67, (lslll_c4 x0 x1 x2))]⟩, [], [], by kernel_rfl, .nil, ?_⟩
    refine dr [] [] .nil ?_
    refine df [0, 1, 2, 3, 5, 6, 7, 8, 10, 11, 12, 13] [(1, 1), (1, 0), (1, 1), (1, 0), (1, 1), (1, 0)] [] [(1, γ1 0), (1, γ1 1), (1, γ1 0), (1, γ1 1), (1, γ1 0), (1, γ1 1)] [] .nil ?_
    refine dp 4 (fun W hW => cmp_is (r := (-1)) (cmp_lt h0) W) ?_
    refine dp 9 (fun W hW => cmp_is (r := (-1)) (cmp_lt h1) W) ?_
    refine dp 14 (fun W hW => cmp_is (r := (-1)) (cmp_lt h2) W) ?_
    refine dn 15 (v := fun g2 => .slice (some ⟨g2, 0, none⟩) 3 3) (b := fun g2 => (g2, 3, lslll_c5)) (fun g L => by kernel_rfl) fun g2 => ?_
    refine dcl 16 [] (f := 85) (args := [.slice (some ⟨g2, 0, none⟩) 3 3]) (fn := Try.f85) (c := bdy Try.f85) rfl (fun R3 hR3 => ?_)
    refine ck 5 [] [] fun γ4 => ⟨⟨kt (bdy Try.f85) [1, 1, 0, 1, 0] [], (lslll_b8 g2), [(g2, 3, lslll_c5), (γ1 1, 67, (lslll_c3 y0 y1 y2)), (γ1 0, 67, (lslll_c4 x0 x1 x2))]⟩, [], [], by kernel_rfl, .nil, ?_⟩
    refine lu 5 (fun I5 hI5 => ?_)
    refine ck 9 [(1, 0)] [] fun γ6 => ⟨⟨ktl [1, 1, 0, 0, 1, 1, 0, 1] (I5 5) (kt (bdy Try.f85) [1, 1, 0, 1, 0] []), upv (lslll_b8 g2) [(2, .int .i64 (-1)), (5, .int .i64 (-1)), (9, .bool true), (10, .pointer (some ⟨g2, 0, none⟩)), (11, .int .i64 (-1)), (12, .int .i64 (-1)), (13, .int .i64 0), (14, .bool true), (15, .int .i64 (-1))], [(g2, 3, lslll_c5), (γ1 1, 67, (lslll_c3 y0 y1 y2)), (γ1 0, 67, (lslll_c4 x0 x1 x2))]⟩, [(1, g2)], [(0 : Int) ≤ 0 ∧ 0 < ((3 : Nat) : Int)], by kernel_rfl, (.cons ⟨by omega, by omega⟩ .nil), ?_⟩
    refine dclr hR3 (.int .i64 (-1)) [] [] [true, true, true] .nil ?_
    refine df [17, 18] [] [] [] [] .nil ?_
    refine de (fs := (kt (bdy Try.f68) [1, 0] []).tail) ?_
    refine st0 (fs := (kt (bdy Try.f68) [1, 0] []).tail) ((lslll_b11 x0 x1 x2 y0 y1 y2 γ1 g2)) [(g2, 3, lslll_c5), (γ1 1, 67, (lslll_c3 y0 y1 y2)), (γ1 0, 67, (lslll_c4 x0 x1 x2))] ?_
    refine rt (.bool true) [] [] (fun W hW => ?_)
    have hg : ltP (x0, x1, x2) (y0, y1, y2) = true := by
      unfold ltP
      exact decide_eq_true (by simp only; omega)
    rw [hg]
    exact ⟨rfl, (hW.old 0 rfl)⟩
  · skip
    refine enter (args := [.agg #[.int .i64 x0, .int .i64 x1, .int .i64 x2], .agg #[.int .i64 y0, .int .i64 y1, .int .i64 y2]]) (fn := Try.f68) rfl (c := bdy Try.f68) (by kernel_rfl) ?_
    refine ck 3 [] [] fun γ1 => ⟨⟨kt (bdy Try.f68) [1, 0] [], (lslle_b2 x0 x1 x2 y0 y1 y2 γ1), [(γ1 1, 67, (lslle_c3 y0 y1 y2)), (γ1 0, 67, (lslle_c4 x0 x1 x2))]⟩, [], [], by kernel_rfl, .nil, ?_⟩
    refine dr [] [] .nil ?_
    refine df [0, 1, 2, 3, 5, 6, 7, 8, 10, 11, 12, 13] [(1, 1), (1, 0), (1, 1), (1, 0), (1, 1), (1, 0)] [] [(1, γ1 0), (1, γ1 1), (1, γ1 0), (1, γ1 1), (1, γ1 0), (1, γ1 1)] [] .nil ?_
    refine dp 4 (fun W hW => cmp_is (r := (-1)) (cmp_lt h0) W) ?_
    refine dp 9 (fun W hW => cmp_is (r := (-1)) (cmp_lt h1) W) ?_
    refine dp 14 (fun W hW => cmp_is (r := 0) (cmp_eq h2) W) ?_
    refine dn 15 (v := fun g2 => .slice (some ⟨g2, 0, none⟩) 3 3) (b := fun g2 => (g2, 3, lslle_c5)) (fun g L => by kernel_rfl) fun g2 => ?_
    refine dcl 16 [] (f := 85) (args := [.slice (some ⟨g2, 0, none⟩) 3 3]) (fn := Try.f85) (c := bdy Try.f85) rfl (fun R3 hR3 => ?_)
    refine ck 5 [] [] fun γ4 => ⟨⟨kt (bdy Try.f85) [1, 1, 0, 1, 0] [], (lslle_b8 g2), [(g2, 3, lslle_c5), (γ1 1, 67, (lslle_c3 y0 y1 y2)), (γ1 0, 67, (lslle_c4 x0 x1 x2))]⟩, [], [], by kernel_rfl, .nil, ?_⟩
    refine lu 5 (fun I5 hI5 => ?_)
    refine ck 9 [(1, 0)] [] fun γ6 => ⟨⟨ktl [1, 1, 0, 0, 1, 1, 0, 1] (I5 5) (kt (bdy Try.f85) [1, 1, 0, 1, 0] []), upv (lslle_b8 g2) [(2, .int .i64 (-1)), (5, .int .i64 (-1)), (9, .bool true), (10, .pointer (some ⟨g2, 0, none⟩)), (11, .int .i64 (-1)), (12, .int .i64 (-1)), (13, .int .i64 0), (14, .bool true), (15, .int .i64 (-1))], [(g2, 3, lslle_c5), (γ1 1, 67, (lslle_c3 y0 y1 y2)), (γ1 0, 67, (lslle_c4 x0 x1 x2))]⟩, [(1, g2)], [(0 : Int) ≤ 0 ∧ 0 < ((3 : Nat) : Int)], by kernel_rfl, (.cons ⟨by omega, by omega⟩ .nil), ?_⟩
    refine dclr hR3 (.int .i64 (-1)) [] [] [true, true, true] .nil ?_
    refine df [17, 18] [] [] [] [] .nil ?_
    refine de (fs := (kt (bdy Try.f68) [1, 0] []).tail) ?_
    refine st0 (fs := (kt (bdy Try.f68) [1, 0] []).tail) ((lslle_b11 x0 x1 x2 y0 y1 y2 γ1 g2)) [(g2, 3, lslle_c5), (γ1 1, 67, (lslle_c3 y0 y1 y2)), (γ1 0, 67, (lslle_c4 x0 x1 x2))] ?_
    refine rt (.bool true) [] [] (fun W hW => ?_)
    have hg : ltP (x0, x1, x2) (y0, y1, y2) = true := by
      unfold ltP
      exact decide_eq_true (by simp only; omega)
    rw [hg]
    exact ⟨rfl, (hW.old 0 rfl)⟩
  · skip
    refine enter (args := [.agg #[.int .i64 x0, .int .i64 x1, .int .i64 x2], .agg #[.int .i64 y0, .int .i64 y1, .int .i64 y2]]) (fn := Try.f68) rfl (c := bdy Try.f68) (by kernel_rfl) ?_
    refine ck 3 [] [] fun γ1 => ⟨⟨kt (bdy Try.f68) [1, 0] [], (lsllg_b2 x0 x1 x2 y0 y1 y2 γ1), [(γ1 1, 67, (lsllg_c3 y0 y1 y2)), (γ1 0, 67, (lsllg_c4 x0 x1 x2))]⟩, [], [], by kernel_rfl, .nil, ?_⟩
    refine dr [] [] .nil ?_
    refine df [0, 1, 2, 3, 5, 6, 7, 8, 10, 11, 12, 13] [(1, 1), (1, 0), (1, 1), (1, 0), (1, 1), (1, 0)] [] [(1, γ1 0), (1, γ1 1), (1, γ1 0), (1, γ1 1), (1, γ1 0), (1, γ1 1)] [] .nil ?_
    refine dp 4 (fun W hW => cmp_is (r := (-1)) (cmp_lt h0) W) ?_
    refine dp 9 (fun W hW => cmp_is (r := (-1)) (cmp_lt h1) W) ?_
    refine dp 14 (fun W hW => cmp_is (r := 1) (cmp_gt h2) W) ?_
    refine dn 15 (v := fun g2 => .slice (some ⟨g2, 0, none⟩) 3 3) (b := fun g2 => (g2, 3, lsllg_c5)) (fun g L => by kernel_rfl) fun g2 => ?_
    refine dcl 16 [] (f := 85) (args := [.slice (some ⟨g2, 0, none⟩) 3 3]) (fn := Try.f85) (c := bdy Try.f85) rfl (fun R3 hR3 => ?_)
    refine ck 5 [] [] fun γ4 => ⟨⟨kt (bdy Try.f85) [1, 1, 0, 1, 0] [], (lsllg_b8 g2), [(g2, 3, lsllg_c5), (γ1 1, 67, (lsllg_c3 y0 y1 y2)), (γ1 0, 67, (lsllg_c4 x0 x1 x2))]⟩, [], [], by kernel_rfl, .nil, ?_⟩
    refine lu 5 (fun I5 hI5 => ?_)
    refine ck 9 [(1, 0)] [] fun γ6 => ⟨⟨ktl [1, 1, 0, 0, 1, 1, 0, 1] (I5 5) (kt (bdy Try.f85) [1, 1, 0, 1, 0] []), upv (lsllg_b8 g2) [(2, .int .i64 (-1)), (5, .int .i64 (-1)), (9, .bool true), (10, .pointer (some ⟨g2, 0, none⟩)), (11, .int .i64 (-1)), (12, .int .i64 (-1)), (13, .int .i64 0), (14, .bool true), (15, .int .i64 (-1))], [(g2, 3, lsllg_c5), (γ1 1, 67, (lsllg_c3 y0 y1 y2)), (γ1 0, 67, (lsllg_c4 x0 x1 x2))]⟩, [(1, g2)], [(0 : Int) ≤ 0 ∧ 0 < ((3 : Nat) : Int)], by kernel_rfl, (.cons ⟨by omega, by omega⟩ .nil), ?_⟩
    refine dclr hR3 (.int .i64 (-1)) [] [] [true, true, true] .nil ?_
    refine df [17, 18] [] [] [] [] .nil ?_
    refine de (fs := (kt (bdy Try.f68) [1, 0] []).tail) ?_
    refine st0 (fs := (kt (bdy Try.f68) [1, 0] []).tail) ((lsllg_b11 x0 x1 x2 y0 y1 y2 γ1 g2)) [(g2, 3, lsllg_c5), (γ1 1, 67, (lsllg_c3 y0 y1 y2)), (γ1 0, 67, (lsllg_c4 x0 x1 x2))] ?_
    refine rt (.bool true) [] [] (fun W hW => ?_)
    have hg : ltP (x0, x1, x2) (y0, y1, y2) = true := by
      unfold ltP
      exact decide_eq_true (by simp only; omega)
    rw [hg]
    exact ⟨rfl, (hW.old 0 rfl)⟩
  · skip
    refine enter (args := [.agg #[.int .i64 x0, .int .i64 x1, .int .i64 x2], .agg #[.int .i64 y0, .int .i64 y1, .int .i64 y2]]) (fn := Try.f68) rfl (c := bdy Try.f68) (by kernel_rfl) ?_
    refine ck 3 [] [] fun γ1 => ⟨⟨kt (bdy Try.f68) [1, 0] [], (lslel_b2 x0 x1 x2 y0 y1 y2 γ1), [(γ1 1, 67, (lslel_c3 y0 y1 y2)), (γ1 0, 67, (lslel_c4 x0 x1 x2))]⟩, [], [], by kernel_rfl, .nil, ?_⟩
    refine dr [] [] .nil ?_
    refine df [0, 1, 2, 3, 5, 6, 7, 8, 10, 11, 12, 13] [(1, 1), (1, 0), (1, 1), (1, 0), (1, 1), (1, 0)] [] [(1, γ1 0), (1, γ1 1), (1, γ1 0), (1, γ1 1), (1, γ1 0), (1, γ1 1)] [] .nil ?_
    refine dp 4 (fun W hW => cmp_is (r := (-1)) (cmp_lt h0) W) ?_
    refine dp 9 (fun W hW => cmp_is (r := 0) (cmp_eq h1) W) ?_
    refine dp 14 (fun W hW => cmp_is (r := (-1)) (cmp_lt h2) W) ?_
    refine dn 15 (v := fun g2 => .slice (some ⟨g2, 0, none⟩) 3 3) (b := fun g2 => (g2, 3, lslel_c5)) (fun g L => by kernel_rfl) fun g2 => ?_
    refine dcl 16 [] (f := 85) (args := [.slice (some ⟨g2, 0, none⟩) 3 3]) (fn := Try.f85) (c := bdy Try.f85) rfl (fun R3 hR3 => ?_)
    refine ck 5 [] [] fun γ4 => ⟨⟨kt (bdy Try.f85) [1, 1, 0, 1, 0] [], (lslel_b8 g2), [(g2, 3, lslel_c5), (γ1 1, 67, (lslel_c3 y0 y1 y2)), (γ1 0, 67, (lslel_c4 x0 x1 x2))]⟩, [], [], by kernel_rfl, .nil, ?_⟩
    refine lu 5 (fun I5 hI5 => ?_)
    refine ck 9 [(1, 0)] [] fun γ6 => ⟨⟨ktl [1, 1, 0, 0, 1, 1, 0, 1] (I5 5) (kt (bdy Try.f85) [1, 1, 0, 1, 0] []), upv (lslel_b8 g2) [(2, .int .i64 (-1)), (5, .int .i64 (-1)), (9, .bool true), (10, .pointer (some ⟨g2, 0, none⟩)), (11, .int .i64 (-1)), (12, .int .i64 (-1)), (13, .int .i64 0), (14, .bool true), (15, .int .i64 (-1))], [(g2, 3, lslel_c5), (γ1 1, 67, (lslel_c3 y0 y1 y2)), (γ1 0, 67, (lslel_c4 x0 x1 x2))]⟩, [(1, g2)], [(0 : Int) ≤ 0 ∧ 0 < ((3 : Nat) : Int)], by kernel_rfl, (.cons ⟨by omega, by omega⟩ .nil), ?_⟩
    refine dclr hR3 (.int .i64 (-1)) [] [] [true, true, true] .nil ?_
    refine df [17, 18] [] [] [] [] .nil ?_
    refine de (fs := (kt (bdy Try.f68) [1, 0] []).tail) ?_
    refine st0 (fs := (kt (bdy Try.f68) [1, 0] []).tail) ((lslel_b11 x0 x1 x2 y0 y1 y2 γ1 g2)) [(g2, 3, lslel_c5), (γ1 1, 67, (lslel_c3 y0 y1 y2)), (γ1 0, 67, (lslel_c4 x0 x1 x2))] ?_
    refine rt (.bool true) [] [] (fun W hW => ?_)
    have hg : ltP (x0, x1, x2) (y0, y1, y2) = true := by
      unfold ltP
      exact decide_eq_true (by simp only; omega)
    rw [hg]
    exact ⟨rfl, (hW.old 0 rfl)⟩
  · skip
    refine enter (args := [.agg #[.int .i64 x0, .int .i64 x1, .int .i64 x2], .agg #[.int .i64 y0, .int .i64 y1, .int .i64 y2]]) (fn := Try.f68) rfl (c := bdy Try.f68) (by kernel_rfl) ?_
    refine ck 3 [] [] fun γ1 => ⟨⟨kt (bdy Try.f68) [1, 0] [], (lslee_b2 x0 x1 x2 y0 y1 y2 γ1), [(γ1 1, 67, (lslee_c3 y0 y1 y2)), (γ1 0, 67, (lslee_c4 x0 x1 x2))]⟩, [], [], by kernel_rfl, .nil, ?_⟩
    refine dr [] [] .nil ?_
    refine df [0, 1, 2, 3, 5, 6, 7, 8, 10, 11, 12, 13] [(1, 1), (1, 0), (1, 1), (1, 0), (1, 1), (1, 0)] [] [(1, γ1 0), (1, γ1 1), (1, γ1 0), (1, γ1 1), (1, γ1 0), (1, γ1 1)] [] .nil ?_
    refine dp 4 (fun W hW => cmp_is (r := (-1)) (cmp_lt h0) W) ?_
    refine dp 9 (fun W hW => cmp_is (r := 0) (cmp_eq h1) W) ?_
    refine dp 14 (fun W hW => cmp_is (r := 0) (cmp_eq h2) W) ?_
    refine dn 15 (v := fun g2 => .slice (some ⟨g2, 0, none⟩) 3 3) (b := fun g2 => (g2, 3, lslee_c5)) (fun g L => by kernel_rfl) fun g2 => ?_
    refine dcl 16 [] (f := 85) (args := [.slice (some ⟨g2, 0, none⟩) 3 3]) (fn := Try.f85) (c := bdy Try.f85) rfl (fun R3 hR3 => ?_)
    refine ck 5 [] [] fun γ4 => ⟨⟨kt (bdy Try.f85) [1, 1, 0, 1, 0] [], (lslee_b8 g2), [(g2, 3, lslee_c5), (γ1 1, 67, (lslee_c3 y0 y1 y2)), (γ1 0, 67, (lslee_c4 x0 x1 x2))]⟩, [], [], by kernel_rfl, .nil, ?_⟩
    refine lu 5 (fun I5 hI5 => ?_)
    refine ck 9 [(1, 0)] [] fun γ6 => ⟨⟨ktl [1, 1, 0, 0, 1, 1, 0, 1] (I5 5) (kt (bdy Try.f85) [1, 1, 0, 1, 0] []), upv (lslee_b8 g2) [(2, .int .i64 (-1)), (5, .int .i64 (-1)), (9, .bool true), (10, .pointer (some ⟨g2, 0, none⟩)), (11, .int .i64 (-1)), (12, .int .i64 (-1)), (13, .int .i64 0), (14, .bool true), (15, .int .i64 (-1))], [(g2, 3, lslee_c5), (γ1 1, 67, (lslee_c3 y0 y1 y2)), (γ1 0, 67, (lslee_c4 x0 x1 x2))]⟩, [(1, g2)], [(0 : Int) ≤ 0 ∧ 0 < ((3 : Nat) : Int)], by kernel_rfl, (.cons ⟨by omega, by omega⟩ .nil), ?_⟩
    refine dclr hR3 (.int .i64 (-1)) [] [] [true, true, true] .nil ?_
    refine df [17, 18] [] [] [] [] .nil ?_
    refine de (fs := (kt (bdy Try.f68) [1, 0] []).tail) ?_
    refine st0 (fs := (kt (bdy Try.f68) [1, 0] []).tail) ((lslee_b11 x0 x1 x2 y0 y1 y2 γ1 g2)) [(g2, 3, lslee_c5), (γ1 1, 67, (lslee_c3 y0 y1 y2)), (γ1 0, 67, (lslee_c4 x0 x1 x2))] ?_
    refine rt (.bool true) [] [] (fun W hW => ?_)
    have hg : ltP (x0, x1, x2) (y0, y1, y2) = true := by
      unfold ltP
      exact decide_eq_true (by simp only; omega)
    rw [hg]
    exact ⟨rfl, (hW.old 0 rfl)⟩
  · skip
    refine enter (args := [.agg #[.int .i64 x0, .int .i64 x1, .int .i64 x2], .agg #[.int .i64 y0, .int .i64 y1, .int .i64 y2]]) (fn := Try.f68) rfl (c := bdy Try.f68) (by kernel_rfl) ?_
    refine ck 3 [] [] fun γ1 => ⟨⟨kt (bdy Try.f68) [1, 0] [], (lsleg_b2 x0 x1 x2 y0 y1 y2 γ1), [(γ1 1, 67, (lsleg_c3 y0 y1 y2)), (γ1 0, 67, (lsleg_c4 x0 x1 x2))]⟩, [], [], by kernel_rfl, .nil, ?_⟩
    refine dr [] [] .nil ?_
    refine df [0, 1, 2, 3, 5, 6, 7, 8, 10, 11, 12, 13] [(1, 1), (1, 0), (1, 1), (1, 0), (1, 1), (1, 0)] [] [(1, γ1 0), (1, γ1 1), (1, γ1 0), (1, γ1 1), (1, γ1 0), (1, γ1 1)] [] .nil ?_
    refine dp 4 (fun W hW => cmp_is (r := (-1)) (cmp_lt h0) W) ?_
    refine dp 9 (fun W hW => cmp_is (r := 0) (cmp_eq h1) W) ?_
    refine dp 14 (fun W hW => cmp_is (r := 1) (cmp_gt h2) W) ?_
    refine dn 15 (v := fun g2 => .slice (some ⟨g2, 0, none⟩) 3 3) (b := fun g2 => (g2, 3, lsleg_c5)) (fun g L => by kernel_rfl) fun g2 => ?_
    refine dcl 16 [] (f := 85) (args := [.slice (some ⟨g2, 0, none⟩) 3 3]) (fn := Try.f85) (c := bdy Try.f85) rfl (fun R3 hR3 => ?_)
    refine ck 5 [] [] fun γ4 => ⟨⟨kt (bdy Try.f85) [1, 1, 0, 1, 0] [], (lsleg_b8 g2), [(g2, 3, lsleg_c5), (γ1 1, 67, (lsleg_c3 y0 y1 y2)), (γ1 0, 67, (lsleg_c4 x0 x1 x2))]⟩, [], [], by kernel_rfl, .nil, ?_⟩
    refine lu 5 (fun I5 hI5 => ?_)
    refine ck 9 [(1, 0)] [] fun γ6 => ⟨⟨ktl [1, 1, 0, 0, 1, 1, 0, 1] (I5 5) (kt (bdy Try.f85) [1, 1, 0, 1, 0] []), upv (lsleg_b8 g2) [(2, .int .i64 (-1)), (5, .int .i64 (-1)), (9, .bool true), (10, .pointer (some ⟨g2, 0, none⟩)), (11, .int .i64 (-1)), (12, .int .i64 (-1)), (13, .int .i64 0), (14, .bool true), (15, .int .i64 (-1))], [(g2, 3, lsleg_c5), (γ1 1, 67, (lsleg_c3 y0 y1 y2)), (γ1 0, 67, (lsleg_c4 x0 x1 x2))]⟩, [(1, g2)], [(0 : Int) ≤ 0 ∧ 0 < ((3 : Nat) : Int)], by kernel_rfl, (.cons ⟨by omega, by omega⟩ .nil), ?_⟩
    refine dclr hR3 (.int .i64 (-1)) [] [] [true, true, true] .nil ?_
    refine df [17, 18] [] [] [] [] .nil ?_
    refine de (fs := (kt (bdy Try.f68) [1, 0] []).tail) ?_
    refine st0 (fs := (kt (bdy Try.f68) [1, 0] []).tail) ((lsleg_b11 x0 x1 x2 y0 y1 y2 γ1 g2)) [(g2, 3, lsleg_c5), (γ1 1, 67, (lsleg_c3 y0 y1 y2)), (γ1 0, 67, (lsleg_c4 x0 x1 x2))] ?_
    refine rt (.bool true) [] [] (fun W hW => ?_)
    have hg : ltP (x0, x1, x2) (y0, y1, y2) = true := by
      unfold ltP
      exact decide_eq_true (by simp only; omega)
    rw [hg]
    exact ⟨rfl, (hW.old 0 rfl)⟩
  · skip
    refine enter (args := [.agg #[.int .i64 x0, .int .i64 x1, .int .i64 x2], .agg #[.int .i64 y0, .int .i64 y1, .int .i64 y2]]) (fn := Try.f68) rfl (c := bdy Try.f68) (by kernel_rfl) ?_
    refine ck 3 [] [] fun γ1 => ⟨⟨kt (bdy Try.f68) [1, 0] [], (lslgl_b2 x0 x1 x2 y0 y1 y2 γ1), [(γ1 1, 67, (lslgl_c3 y0 y1 y2)), (γ1 0, 67, (lslgl_c4 x0 x1 x2))]⟩, [], [], by kernel_rfl, .nil, ?_⟩
    refine dr [] [] .nil ?_
    refine df [0, 1, 2, 3, 5, 6, 7, 8, 10, 11, 12, 13] [(1, 1), (1, 0), (1, 1), (1, 0), (1, 1), (1, 0)] [] [(1, γ1 0), (1, γ1 1), (1, γ1 0), (1, γ1 1), (1, γ1 0), (1, γ1 1)] [] .nil ?_
    refine dp 4 (fun W hW => cmp_is (r := (-1)) (cmp_lt h0) W) ?_
    refine dp 9 (fun W hW => cmp_is (r := 1) (cmp_gt h1) W) ?_
    refine dp 14 (fun W hW => cmp_is (r := (-1)) (cmp_lt h2) W) ?_
    refine dn 15 (v := fun g2 => .slice (some ⟨g2, 0, none⟩) 3 3) (b := fun g2 => (g2, 3, lslgl_c5)) (fun g L => by kernel_rfl) fun g2 => ?_
    refine dcl 16 [] (f := 85) (args := [.slice (some ⟨g2, 0, none⟩) 3 3]) (fn := Try.f85) (c := bdy Try.f85) rfl (fun R3 hR3 => ?_)
    refine ck 5 [] [] fun γ4 => ⟨⟨kt (bdy Try.f85) [1, 1, 0, 1, 0] [], (lslgl_b8 g2), [(g2, 3, lslgl_c5), (γ1 1, 67, (lslgl_c3 y0 y1 y2)), (γ1 0, 67, (lslgl_c4 x0 x1 x2))]⟩, [], [], by kernel_rfl, .nil, ?_⟩
    refine lu 5 (fun I5 hI5 => ?_)
    refine ck 9 [(1, 0)] [] fun γ6 => ⟨⟨ktl [1, 1, 0, 0, 1, 1, 0, 1] (I5 5) (kt (bdy Try.f85) [1, 1, 0, 1, 0] []), upv (lslgl_b8 g2) [(2, .int .i64 (-1)), (5, .int .i64 (-1)), (9, .bool true), (10, .pointer (some ⟨g2, 0, none⟩)), (11, .int .i64 (-1)), (12, .int .i64 (-1)), (13, .int .i64 0), (14, .bool true), (15, .int .i64 (-1))], [(g2, 3, lslgl_c5), (γ1 1, 67, (lslgl_c3 y0 y1 y2)), (γ1 0, 67, (lslgl_c4 x0 x1 x2))]⟩, [(1, g2)], [(0 : Int) ≤ 0 ∧ 0 < ((3 : Nat) : Int)], by kernel_rfl, (.cons ⟨by omega, by omega⟩ .nil), ?_⟩
    refine dclr hR3 (.int .i64 (-1)) [] [] [true, true, true] .nil ?_
    refine df [17, 18] [] [] [] [] .nil ?_
    refine de (fs := (kt (bdy Try.f68) [1, 0] []).tail) ?_
    refine st0 (fs := (kt (bdy Try.f68) [1, 0] []).tail) ((lslgl_b11 x0 x1 x2 y0 y1 y2 γ1 g2)) [(g2, 3, lslgl_c5), (γ1 1, 67, (lslgl_c3 y0 y1 y2)), (γ1 0, 67, (lslgl_c4 x0 x1 x2))] ?_
    refine rt (.bool true) [] [] (fun W hW => ?_)
    have hg : ltP (x0, x1, x2) (y0, y1, y2) = true := by
      unfold ltP
      exact decide_eq_true (by simp only; omega)
    rw [hg]
    exact ⟨rfl, (hW.old 0 rfl)⟩
  · skip
    refine enter (args := [.agg #[.int .i64 x0, .int .i64 x1, .int .i64 x2], .agg #[.int .i64 y0, .int .i64 y1, .int .i64 y2]]) (fn := Try.f68) rfl (c := bdy Try.f68) (by kernel_rfl) ?_
    refine ck 3 [] [] fun γ1 => ⟨⟨kt (bdy Try.f68) [1, 0] [], (lslge_b2 x0 x1 x2 y0 y1 y2 γ1), [(γ1 1, 67, (lslge_c3 y0 y1 y2)), (γ1 0, 67, (lslge_c4 x0 x1 x2))]⟩, [], [], by kernel_rfl, .nil, ?_⟩
    refine dr [] [] .nil ?_
    refine df [0, 1, 2, 3, 5, 6, 7, 8, 10, 11, 12, 13] [(1, 1), (1, 0), (1, 1), (1, 0), (1, 1), (1, 0)] [] [(1, γ1 0), (1, γ1 1), (1, γ1 0), (1, γ1 1), (1, γ1 0), (1, γ1 1)] [] .nil ?_
    refine dp 4 (fun W hW => cmp_is (r := (-1)) (cmp_lt h0) W) ?_
    refine dp 9 (fun W hW => cmp_is (r := 1) (cmp_gt h1) W) ?_
    refine dp 14 (fun W hW => cmp_is (r := 0) (cmp_eq h2) W) ?_
    refine dn 15 (v := fun g2 => .slice (some ⟨g2, 0, none⟩) 3 3) (b := fun g2 => (g2, 3, lslge_c5)) (fun g L => by kernel_rfl) fun g2 => ?_
    refine dcl 16 [] (f := 85) (args := [.slice (some ⟨g2, 0, none⟩) 3 3]) (fn := Try.f85) (c := bdy Try.f85) rfl (fun R3 hR3 => ?_)
    refine ck 5 [] [] fun γ4 => ⟨⟨kt (bdy Try.f85) [1, 1, 0, 1, 0] [], (lslge_b8 g2), [(g2, 3, lslge_c5), (γ1 1, 67, (lslge_c3 y0 y1 y2)), (γ1 0, 67, (lslge_c4 x0 x1 x2))]⟩, [], [], by kernel_rfl, .nil, ?_⟩
    refine lu 5 (fun I5 hI5 => ?_)
    refine ck 9 [(1, 0)] [] fun γ6 => ⟨⟨ktl [1, 1, 0, 0, 1, 1, 0, 1] (I5 5) (kt (bdy Try.f85) [1, 1, 0, 1, 0] []), upv (lslge_b8 g2) [(2, .int .i64 (-1)), (5, .int .i64 (-1)), (9, .bool true), (10, .pointer (some ⟨g2, 0, none⟩)), (11, .int .i64 (-1)), (12, .int .i64 (-1)), (13, .int .i64 0), (14, .bool true), (15, .int .i64 (-1))], [(g2, 3, lslge_c5), (γ1 1, 67, (lslge_c3 y0 y1 y2)), (γ1 0, 67, (lslge_c4 x0 x1 x2))]⟩, [(1, g2)], [(0 : Int) ≤ 0 ∧ 0 < ((3 : Nat) : Int)], by kernel_rfl, (.cons ⟨by omega, by omega⟩ .nil), ?_⟩
    refine dclr hR3 (.int .i64 (-1)) [] [] [true, true, true] .nil ?_
    refine df [17, 18] [] [] [] [] .nil ?_
    refine de (fs := (kt (bdy Try.f68) [1, 0] []).tail) ?_
    refine st0 (fs := (kt (bdy Try.f68) [1, 0] []).tail) ((lslge_b11 x0 x1 x2 y0 y1 y2 γ1 g2)) [(g2, 3, lslge_c5), (γ1 1, 67, (lslge_c3 y0 y1 y2)), (γ1 0, 67, (lslge_c4 x0 x1 x2))] ?_
    refine rt (.bool true) [] [] (fun W hW => ?_)
    have hg : ltP (x0, x1, x2) (y0, y1, y2) = true := by
      unfold ltP
      exact decide_eq_true (by simp only; omega)
    rw [hg]
    exact ⟨rfl, (hW.old 0 rfl)⟩
  · skip
    refine enter (args := [.agg #[.int .i64 x0, .int .i64 x1, .int .i64 x2], .agg #[.int .i64 y0, .int .i64 y1, .int .i64 y2]]) (fn := Try.f68) rfl (c := bdy Try.f68) (by kernel_rfl) ?_
    refine ck 3 [] [] fun γ1 => ⟨⟨kt (bdy Try.f68) [1, 0] [], (lslgg_b2 x0 x1 x2 y0 y1 y2 γ1), [(γ1 1, 67, (lslgg_c3 y0 y1 y2)), (γ1 0, 67, (lslgg_c4 x0 x1 x2))]⟩, [], [], by kernel_rfl, .nil, ?_⟩
    refine dr [] [] .nil ?_
    refine df [0, 1, 2, 3, 5, 6, 7, 8, 10, 11, 12, 13] [(1, 1), (1, 0), (1, 1), (1, 0), (1, 1), (1, 0)] [] [(1, γ1 0), (1, γ1 1), (1, γ1 0), (1, γ1 1), (1, γ1 0), (1, γ1 1)] [] .nil ?_
    refine dp 4 (fun W hW => cmp_is (r := (-1)) (cmp_lt h0) W) ?_
    refine dp 9 (fun W hW => cmp_is (r := 1) (cmp_gt h1) W) ?_
    refine dp 14 (fun W hW => cmp_is (r := 1) (cmp_gt h2) W) ?_
    refine dn 15 (v := fun g2 => .slice (some ⟨g2, 0, none⟩) 3 3) (b := fun g2 => (g2, 3, lslgg_c5)) (fun g L => by kernel_rfl) fun g2 => ?_
    refine dcl 16 [] (f := 85) (args := [.slice (some ⟨g2, 0, none⟩) 3 3]) (fn := Try.f85) (c := bdy Try.f85) rfl (fun R3 hR3 => ?_)
    refine ck 5 [] [] fun γ4 => ⟨⟨kt (bdy Try.f85) [1, 1, 0, 1, 0] [], (lslgg_b8 g2), [(g2, 3, lslgg_c5), (γ1 1, 67, (lslgg_c3 y0 y1 y2)), (γ1 0, 67, (lslgg_c4 x0 x1 x2))]⟩, [], [], by kernel_rfl, .nil, ?_⟩
    refine lu 5 (fun I5 hI5 => ?_)
    refine ck 9 [(1, 0)] [] fun γ6 => ⟨⟨ktl [1, 1, 0, 0, 1, 1, 0, 1] (I5 5) (kt (bdy Try.f85) [1, 1, 0, 1, 0] []), upv (lslgg_b8 g2) [(2, .int .i64 (-1)), (5, .int .i64 (-1)), (9, .bool true), (10, .pointer (some ⟨g2, 0, none⟩)), (11, .int .i64 (-1)), (12, .int .i64 (-1)), (13, .int .i64 0), (14, .bool true), (15, .int .i64 (-1))], [(g2, 3, lslgg_c5), (γ1 1, 67, (lslgg_c3 y0 y1 y2)), (γ1 0, 67, (lslgg_c4 x0 x1 x2))]⟩, [(1, g2)], [(0 : Int) ≤ 0 ∧ 0 < ((3 : Nat) : Int)], by kernel_rfl, (.cons ⟨by omega, by omega⟩ .nil), ?_⟩
    refine dclr hR3 (.int .i64 (-1)) [] [] [true, true, true] .nil ?_
    refine df [17, 18] [] [] [] [] .nil ?_
    refine de (fs := (kt (bdy Try.f68) [1, 0] []).tail) ?_
    refine st0 (fs := (kt (bdy Try.f68) [1, 0] []).tail) ((lslgg_b11 x0 x1 x2 y0 y1 y2 γ1 g2)) [(g2, 3, lslgg_c5), (γ1 1, 67, (lslgg_c3 y0 y1 y2)), (γ1 0, 67, (lslgg_c4 x0 x1 x2))] ?_
    refine rt (.bool true) [] [] (fun W hW => ?_)
    have hg : ltP (x0, x1, x2) (y0, y1, y2) = true := by
      unfold ltP
      exact decide_eq_true (by simp only; omega)
    rw [hg]
    exact ⟨rfl, (hW.old 0 rfl)⟩
  · skip
    refine enter (args := [.agg #[.int .i64 x0, .int .i64 x1, .int .i64 x2], .agg #[.int .i64 y0, .int .i64 y1, .int .i64 y2]]) (fn := Try.f68) rfl (c := bdy Try.f68) (by kernel_rfl) ?_
    refine ck 3 [] [] fun γ1 => ⟨⟨kt (bdy Try.f68) [1, 0] [], (lsell_b2 x0 x1 x2 y0 y1 y2 γ1), [(γ1 1, 67, (lsell_c3 y0 y1 y2)), (γ1 0, 67, (lsell_c4 x0 x1 x2))]⟩, [], [], by kernel_rfl, .nil, ?_⟩
    refine dr [] [] .nil ?_
    refine df [0, 1, 2, 3, 5, 6, 7, 8, 10, 11, 12, 13] [(1, 1), (1, 0), (1, 1), (1, 0), (1, 1), (1, 0)] [] [(1, γ1 0), (1, γ1 1), (1, γ1 0), (1, γ1 1), (1, γ1 0), (1, γ1 1)] [] .nil ?_
    refine dp 4 (fun W hW => cmp_is (r := 0) (cmp_eq h0) W) ?_
    refine dp 9 (fun W hW => cmp_is (r := (-1)) (cmp_lt h1) W) ?_
    refine dp 14 (fun W hW => cmp_is (r := (-1)) (cmp_lt h2) W) ?_
    refine dn 15 (v := fun g2 => .slice (some ⟨g2, 0, none⟩) 3 3) (b := fun g2 => (g2, 3, lsell_c5)) (fun g L => by kernel_rfl) fun g2 => ?_
    refine dcl 16 [] (f := 85) (args := [.slice (some ⟨g2, 0, none⟩) 3 3]) (fn := Try.f85) (c := bdy Try.f85) rfl (fun R3 hR3 => ?_)
    refine ck 5 [] [] fun γ4 => ⟨⟨kt (bdy Try.f85) [1, 1, 0, 1, 0] [], (lsell_b8 g2), [(g2, 3, lsell_c5), (γ1 1, 67, (lsell_c3 y0 y1 y2)), (γ1 0, 67, (lsell_c4 x0 x1 x2))]⟩, [], [], by kernel_rfl, .nil, ?_⟩
    refine lu 5 (fun I5 hI5 => ?_)
    refine ck 9 [(1, 0)] [] fun γ6 => ⟨⟨ktp (I5 5) (kt (bdy Try.f85) [1, 1, 0, 1, 0] []), upv (lsell_b8 g2) [(5, .int .i64 0), (8, .int .i64 1), (9, .bool true), (10, .pointer (some ⟨g2, 0, none⟩)), (11, .int .i64 0), (12, .int .i64 0), (13, .int .i64 0), (14, .bool false), (16, .int .i64 1)], [(g2, 3, lsell_c5), (γ1 1, 67, (lsell_c3 y0 y1 y2)), (γ1 0, 67, (lsell_c4 x0 x1 x2))]⟩, [(1, g2)], [(0 : Int) ≤ 0 ∧ 0 < ((3 : Nat) : Int)], by kernel_rfl, (.cons ⟨by omega, by omega⟩ .nil), ?_⟩
    refine lv hI5 4 ?_
    refine ck 9 [(1, 0)] [] fun γ7 => ⟨⟨ktl [1, 1, 0, 0, 1, 1, 0, 1] (I5 4) (kt (bdy Try.f85) [1, 1, 0, 1, 0] []), upv (lsell_b8 g2) [(2, .int .i64 (-1)), (5, .int .i64 (-1)), (8, .int .i64 1), (9, .bool true), (10, .pointer (some ⟨g2, 1, none⟩)), (11, .int .i64 (-1)), (12, .int .i64 (-1)), (13, .int .i64 0), (14, .bool true), (15, .int .i64 (-1)), (16, .int .i64 1)], [(g2, 3, lsell_c5), (γ1 1, 67, (lsell_c3 y0 y1 y2)), (γ1 0, 67, (lsell_c4 x0 x1 x2))]⟩, [(1, g2)], [(0 : Int) ≤ 1 ∧ 1 < ((3 : Nat) : Int)], by kernel_rfl, (.cons ⟨by omega, by omega⟩ .nil), ?_⟩
    refine dclr hR3 (.int .i64 (-1)) [] [] [true, true, true] .nil ?_
    refine df [17, 18] [] [] [] [] .nil ?_
    refine de (fs := (kt (bdy Try.f68) [1, 0] []).tail) ?_
    refine st0 (fs := (kt (bdy Try.f68) [1, 0] []).tail) ((lsell_b11 x0 x1 x2 y0 y1 y2 γ1 g2)) [(g2, 3, lsell_c5), (γ1 1, 67, (lsell_c3 y0 y1 y2)), (γ1 0, 67, (lsell_c4 x0 x1 x2))] ?_
    refine rt (.bool true) [] [] (fun W hW => ?_)
    have hg : ltP (x0, x1, x2) (y0, y1, y2) = true := by
      unfold ltP
      exact decide_eq_true (by simp only; omega)
    rw [hg]
    exact ⟨rfl, (hW.old 0 rfl)⟩
  · skip
    refine enter (args := [.agg #[.int .i64 x0, .int .i64 x1, .int .i64 x2], .agg #[.int .i64 y0, .int .i64 y1, .int .i64 y2]]) (fn := Try.f68) rfl (c := bdy Try.f68) (by kernel_rfl) ?_
    refine ck 3 [] [] fun γ1 => ⟨⟨kt (bdy Try.f68) [1, 0] [], (lsele_b2 x0 x1 x2 y0 y1 y2 γ1), [(γ1 1, 67, (lsele_c3 y0 y1 y2)), (γ1 0, 67, (lsele_c4 x0 x1 x2))]⟩, [], [], by kernel_rfl, .nil, ?_⟩
    refine dr [] [] .nil ?_
    refine df [0, 1, 2, 3, 5, 6, 7, 8, 10, 11, 12, 13] [(1, 1), (1, 0), (1, 1), (1, 0), (1, 1), (1, 0)] [] [(1, γ1 0), (1, γ1 1), (1, γ1 0), (1, γ1 1), (1, γ1 0), (1, γ1 1)] [] .nil ?_
    refine dp 4 (fun W hW => cmp_is (r := 0) (cmp_eq h0) W) ?_
    refine dp 9 (fun W hW => cmp_is (r := (-1)) (cmp_lt h1) W) ?_
    refine dp 14 (fun W hW => cmp_is (r := 0) (cmp_eq h2) W) ?_
    refine dn 15 (v := fun g2 => .slice (some ⟨g2, 0, none⟩) 3 3) (b := fun g2 => (g2, 3, lsele_c5)) (fun g L => by kernel_rfl) fun g2 => ?_
    refine dcl 16 [] (f := 85) (args := [.slice (some ⟨g2, 0, none⟩) 3 3]) (fn := Try.f85) (c := bdy Try.f85) rfl (fun R3 hR3 => ?_)
    refine ck 5 [] [] fun γ4 => ⟨⟨kt (bdy Try.f85) [1, 1, 0, 1, 0] [], (lsele_b8 g2), [(g2, 3, lsele_c5), (γ1 1, 67, (lsele_c3 y0 y1 y2)), (γ1 0, 67, (lsele_c4 x0 x1 x2))]⟩, [], [], by kernel_rfl, .nil, ?_⟩
    refine lu 5 (fun I5 hI5 => ?_)
    refine ck 9 [(1, 0)] [] fun γ6 => ⟨⟨ktp (I5 5) (kt (bdy Try.f85) [1, 1, 0, 1, 0] []), upv (lsele_b8 g2) [(5, .int .i64 0), (8, .int .i64 1), (9, .bool true), (10, .pointer (some ⟨g2, 0, none⟩)), (11, .int .i64 0), (12, .int .i64 0), (13, .int .i64 0), (14, .bool false), (16, .int .i64 1)], [(g2, 3, lsele_c5), (γ1 1, 67, (lsele_c3 y0 y1 y2)), (γ1 0, 67, (lsele_c4 x0 x1 x2))]⟩, [(1, g2)], [(0 : Int) ≤ 0 ∧ 0 < ((3 : Nat) : Int)], by kernel_rfl, (.cons ⟨by omega, by omega⟩ .nil), ?_⟩
    refine lv hI5 4 ?_
    refine ck 9 [(1, 0)] [] fun γ7 => ⟨⟨ktl [1, 1, 0, 0, 1, 1, 0, 1] (I5 4) (kt (bdy Try.f85) [1, 1, 0, 1, 0] []), upv (lsele_b8 g2) [(2, .int .i64 (-1)), (5, .int .i64 (-1)), (8, .int .i64 1), (9, .bool true), (10, .pointer (some ⟨g2, 1, none⟩)), (11, .int .i64 (-1)), (12, .int .i64 (-1)), (13, .int .i64 0), (14, .bool true), (15, .int .i64 (-1)), (16, .int .i64 1)], [(g2, 3, lsele_c5), (γ1 1, 67, (lsele_c3 y0 y1 y2)), (γ1 0, 67, (lsele_c4 x0 x1 x2))]⟩, [(1, g2)], [(0 : Int) ≤ 1 ∧ 1 < ((3 : Nat) : Int)], by kernel_rfl, (.cons ⟨by omega, by omega⟩ .nil), ?_⟩
    refine dclr hR3 (.int .i64 (-1)) [] [] [true, true, true] .nil ?_
    refine df [17, 18] [] [] [] [] .nil ?_
    refine de (fs := (kt (bdy Try.f68) [1, 0] []).tail) ?_
    refine st0 (fs := (kt (bdy Try.f68) [1, 0] []).tail) ((lsele_b11 x0 x1 x2 y0 y1 y2 γ1 g2)) [(g2, 3, lsele_c5), (γ1 1, 67, (lsele_c3 y0 y1 y2)), (γ1 0, 67, (lsele_c4 x0 x1 x2))] ?_
    refine rt (.bool true) [] [] (fun W hW => ?_)
    have hg : ltP (x0, x1, x2) (y0, y1, y2) = true := by
      unfold ltP
      exact decide_eq_true (by simp only; omega)
    rw [hg]
    exact ⟨rfl, (hW.old 0 rfl)⟩
  · skip
    refine enter (args := [.agg #[.int .i64 x0, .int .i64 x1, .int .i64 x2], .agg #[.int .i64 y0, .int .i64 y1, .int .i64 y2]]) (fn := Try.f68) rfl (c := bdy Try.f68) (by kernel_rfl) ?_
    refine ck 3 [] [] fun γ1 => ⟨⟨kt (bdy Try.f68) [1, 0] [], (lselg_b2 x0 x1 x2 y0 y1 y2 γ1), [(γ1 1, 67, (lselg_c3 y0 y1 y2)), (γ1 0, 67, (lselg_c4 x0 x1 x2))]⟩, [], [], by kernel_rfl, .nil, ?_⟩
    refine dr [] [] .nil ?_
    refine df [0, 1, 2, 3, 5, 6, 7, 8, 10, 11, 12, 13] [(1, 1), (1, 0), (1, 1), (1, 0), (1, 1), (1, 0)] [] [(1, γ1 0), (1, γ1 1), (1, γ1 0), (1, γ1 1), (1, γ1 0), (1, γ1 1)] [] .nil ?_
    refine dp 4 (fun W hW => cmp_is (r := 0) (cmp_eq h0) W) ?_
    refine dp 9 (fun W hW => cmp_is (r := (-1)) (cmp_lt h1) W) ?_
    refine dp 14 (fun W hW => cmp_is (r := 1) (cmp_gt h2) W) ?_
    refine dn 15 (v := fun g2 => .slice (some ⟨g2, 0, none⟩) 3 3) (b := fun g2 => (g2, 3, lselg_c5)) (fun g L => by kernel_rfl) fun g2 => ?_
    refine dcl 16 [] (f := 85) (args := [.slice (some ⟨g2, 0, none⟩) 3 3]) (fn := Try.f85) (c := bdy Try.f85) rfl (fun R3 hR3 => ?_)
    refine ck 5 [] [] fun γ4 => ⟨⟨kt (bdy Try.f85) [1, 1, 0, 1, 0] [], (lselg_b8 g2), [(g2, 3, lselg_c5), (γ1 1, 67, (lselg_c3 y0 y1 y2)), (γ1 0, 67, (lselg_c4 x0 x1 x2))]⟩, [], [], by kernel_rfl, .nil, ?_⟩
    refine lu 5 (fun I5 hI5 => ?_)
    refine ck 9 [(1, 0)] [] fun γ6 => ⟨⟨ktp (I5 5) (kt (bdy Try.f85) [1, 1, 0, 1, 0] []), upv (lselg_b8 g2) [(5, .int .i64 0), (8, .int .i64 1), (9, .bool true), (10, .pointer (some ⟨g2, 0, none⟩)), (11, .int .i64 0), (12, .int .i64 0), (13, .int .i64 0), (14, .bool false), (16, .int .i64 1)], [(g2, 3, lselg_c5), (γ1 1, 67, (lselg_c3 y0 y1 y2)), (γ1 0, 67, (lselg_c4 x0 x1 x2))]⟩, [(1, g2)], [(0 : Int) ≤ 0 ∧ 0 < ((3 : Nat) : Int)], by kernel_rfl, (.cons ⟨by omega, by omega⟩ .nil), ?_⟩
    refine lv hI5 4 ?_
    refine ck 9 [(1, 0)] [] fun γ7 => ⟨⟨ktl [1, 1, 0, 0, 1, 1, 0, 1] (I5 4) (kt (bdy Try.f85) [1, 1, 0, 1, 0] []), upv (lselg_b8 g2) [(2, .int .i64 (-1)), (5, .int .i64 (-1)), (8, .int .i64 1), (9, .bool true), (10, .pointer (some ⟨g2, 1, none⟩)), (11, .int .i64 (-1)), (12, .int .i64 (-1)), (13, .int .i64 0), (14, .bool true), (15, .int .i64 (-1)), (16, .int .i64 1)], [(g2, 3, lselg_c5), (γ1 1, 67, (lselg_c3 y0 y1 y2)), (γ1 0, 67, (lselg_c4 x0 x1 x2))]⟩, [(1, g2)], [(0 : Int) ≤ 1 ∧ 1 < ((3 : Nat) : Int)], by kernel_rfl, (.cons ⟨by omega, by omega⟩ .nil), ?_⟩
    refine dclr hR3 (.int .i64 (-1)) [] [] [true, true, true] .nil ?_
    refine df [17, 18] [] [] [] [] .nil ?_
    refine de (fs := (kt (bdy Try.f68) [1, 0] []).tail) ?_
    refine st0 (fs := (kt (bdy Try.f68) [1, 0] []).tail) ((lselg_b11 x0 x1 x2 y0 y1 y2 γ1 g2)) [(g2, 3, lselg_c5), (γ1 1, 67, (lselg_c3 y0 y1 y2)), (γ1 0, 67, (lselg_c4 x0 x1 x2))] ?_
    refine rt (.bool true) [] [] (fun W hW => ?_)
    have hg : ltP (x0, x1, x2) (y0, y1, y2) = true := by
      unfold ltP
      exact decide_eq_true (by simp only; omega)
    rw [hg]
    exact ⟨rfl, (hW.old 0 rfl)⟩
  · skip
    refine enter (args := [.agg #[.int .i64 x0, .int .i64 x1, .int .i64 x2], .agg #[.int .i64 y0, .int .i64 y1, .int .i64 y2]]) (fn := Try.f68) rfl (c := bdy Try.f68) (by kernel_rfl) ?_
    refine ck 3 [] [] fun γ1 => ⟨⟨kt (bdy Try.f68) [1, 0] [], (lseel_b2 x0 x1 x2 y0 y1 y2 γ1), [(γ1 1, 67, (lseel_c3 y0 y1 y2)), (γ1 0, 67, (lseel_c4 x0 x1 x2))]⟩, [], [], by kernel_rfl, .nil, ?_⟩
    refine dr [] [] .nil ?_
    refine df [0, 1, 2, 3, 5, 6, 7, 8, 10, 11, 12, 13] [(1, 1), (1, 0), (1, 1), (1, 0), (1, 1), (1, 0)] [] [(1, γ1 0), (1, γ1 1), (1, γ1 0), (1, γ1 1), (1, γ1 0), (1, γ1 1)] [] .nil ?_
    refine dp 4 (fun W hW => cmp_is (r := 0) (cmp_eq h0) W) ?_
    refine dp 9 (fun W hW => cmp_is (r := 0) (cmp_eq h1) W) ?_
    refine dp 14 (fun W hW => cmp_is (r := (-1)) (cmp_lt h2) W) ?_
    refine dn 15 (v := fun g2 => .slice (some ⟨g2, 0, none⟩) 3 3) (b := fun g2 => (g2, 3, lseel_c5)) (fun g L => by kernel_rfl) fun g2 => ?_
    refine dcl 16 [] (f := 85) (args := [.slice (some ⟨g2, 0, none⟩) 3 3]) (fn := Try.f85) (c := bdy Try.f85) rfl (fun R3 hR3 => ?_)
    refine ck 5 [] [] fun γ4 => ⟨⟨kt (bdy Try.f85) [1, 1, 0, 1, 0] [], (lseel_b8 g2), [(g2, 3, lseel_c5), (γ1 1, 67, (lseel_c3 y0 y1 y2)), (γ1 0, 67, (lseel_c4 x0 x1 x2))]⟩, [], [], by kernel_rfl, .nil, ?_⟩
    refine lu 5 (fun I5 hI5 => ?_)
    refine ck 9 [(1, 0)] [] fun γ6 => ⟨⟨ktp (I5 5) (kt (bdy Try.f85) [1, 1, 0, 1, 0] []), upv (lseel_b8 g2) [(5, .int .i64 0), (8, .int .i64 1), (9, .bool true), (10, .pointer (some ⟨g2, 0, none⟩)), (11, .int .i64 0), (12, .int .i64 0), (13, .int .i64 0), (14, .bool false), (16, .int .i64 1)], [(g2, 3, lseel_c5), (γ1 1, 67, (lseel_c3 y0 y1 y2)), (γ1 0, 67, (lseel_c4 x0 x1 x2))]⟩, [(1, g2)], [(0 : Int) ≤ 0 ∧ 0 < ((3 : Nat) : Int)], by kernel_rfl, (.cons ⟨by omega, by omega⟩ .nil), ?_⟩
    refine lv hI5 4 ?_
    refine ck 9 [(1, 0)] [] fun γ7 => ⟨⟨ktp (I5 4) (kt (bdy Try.f85) [1, 1, 0, 1, 0] []), upv (lseel_b8 g2) [(5, .int .i64 0), (8, .int .i64 2), (9, .bool true), (10, .pointer (some ⟨g2, 1, none⟩)), (11, .int .i64 0), (12, .int .i64 0), (13, .int .i64 0), (14, .bool false), (16, .int .i64 2)], [(g2, 3, lseel_c5), (γ1 1, 67, (lseel_c3 y0 y1 y2)), (γ1 0, 67, (lseel_c4 x0 x1 x2))]⟩, [(1, g2)], [(0 : Int) ≤ 1 ∧ 1 < ((3 : Nat) : Int)], by kernel_rfl, (.cons ⟨by omega, by omega⟩ .nil), ?_⟩
    refine lv hI5 3 ?_
    refine ck 9 [(1, 0)] [] fun γ8 => ⟨⟨ktl [1, 1, 0, 0, 1, 1, 0, 1] (I5 3) (kt (bdy Try.f85) [1, 1, 0, 1, 0] []), upv (lseel_b8 g2) [(2, .int .i64 (-1)), (5, .int .i64 (-1)), (8, .int .i64 2), (9, .bool true), (10, .pointer (some ⟨g2, 2, none⟩)), (11, .int .i64 (-1)), (12, .int .i64 (-1)), (13, .int .i64 0), (14, .bool true), (15, .int .i64 (-1)), (16, .int .i64 2)], [(g2, 3, lseel_c5), (γ1 1, 67, (lseel_c3 y0 y1 y2)), (γ1 0, 67, (lseel_c4 x0 x1 x2))]⟩, [(1, g2)], [(0 : Int) ≤ 2 ∧ 2 < ((3 : Nat) : Int)], by kernel_rfl, (.cons ⟨by omega, by omega⟩ .nil), ?_⟩
    refine dclr hR3 (.int .i64 (-1)) [] [] [true, true, true] .nil ?_
    refine df [17, 18] [] [] [] [] .nil ?_
    refine de (fs := (kt (bdy Try.f68) [1, 0] []).tail) ?_
    refine st0 (fs := (kt (bdy Try.f68) [1, 0] []).tail) ((lseel_b11 x0 x1 x2 y0 y1 y2 γ1 g2)) [(g2, 3, lseel_c5), (γ1 1, 67, (lseel_c3 y0 y1 y2)), (γ1 0, 67, (lseel_c4 x0 x1 x2))] ?_
    refine rt (.bool true) [] [] (fun W hW => ?_)
    have hg : ltP (x0, x1, x2) (y0, y1, y2) = true := by
      unfold ltP
      exact decide_eq_true (by simp only; omega)
    rw [hg]
    exact ⟨rfl, (hW.old 0 rfl)⟩
  · skip
    refine enter (args := [.agg #[.int .i64 x0, .int .i64 x1, .int .i64 x2], .agg #[.int .i64 y0, .int .i64 y1, .int .i64 y2]]) (fn := Try.f68) rfl (c := bdy Try.f68) (by kernel_rfl) ?_
    refine ck 3 [] [] fun γ1 => ⟨⟨kt (bdy Try.f68) [1, 0] [], (lseee_b2 x0 x1 x2 y0 y1 y2 γ1), [(γ1 1, 67, (lseee_c3 y0 y1 y2)), (γ1 0, 67, (lseee_c4 x0 x1 x2))]⟩, [], [], by kernel_rfl, .nil, ?_⟩
    refine dr [] [] .nil ?_
    refine df [0, 1, 2, 3, 5, 6, 7, 8, 10, 11, 12, 13] [(1, 1), (1, 0), (1, 1), (1, 0), (1, 1), (1, 0)] [] [(1, γ1 0), (1, γ1 1), (1, γ1 0), (1, γ1 1), (1, γ1 0), (1, γ1 1)] [] .nil ?_
    refine dp 4 (fun W hW => cmp_is (r := 0) (cmp_eq h0) W) ?_
    refine dp 9 (fun W hW => cmp_is (r := 0) (cmp_eq h1) W) ?_
    refine dp 14 (fun W hW => cmp_is (r := 0) (cmp_eq h2) W) ?_
    refine dn 15 (v := fun g2 => .slice (some ⟨g2, 0, none⟩) 3 3) (b := fun g2 => (g2, 3, lseee_c5)) (fun g L => by kernel_rfl) fun g2 => ?_
    refine dcl 16 [] (f := 85) (args := [.slice (some ⟨g2, 0, none⟩) 3 3]) (fn := Try.f85) (c := bdy Try.f85) rfl (fun R3 hR3 => ?_)
    refine ck 5 [] [] fun γ4 => ⟨⟨kt (bdy Try.f85) [1, 1, 0, 1, 0] [], (lseee_b8 g2), [(g2, 3, lseee_c5), (γ1 1, 67, (lseee_c3 y0 y1 y2)), (γ1 0, 67, (lseee_c4 x0 x1 x2))]⟩, [], [], by kernel_rfl, .nil, ?_⟩
    refine lu 5 (fun I5 hI5 => ?_)
    refine ck 9 [(1, 0)] [] fun γ6 => ⟨⟨ktp (I5 5) (kt (bdy Try.f85) [1, 1, 0, 1, 0] []), upv (lseee_b8 g2) [(5, .int .i64 0), (8, .int .i64 1), (9, .bool true), (10, .pointer (some ⟨g2, 0, none⟩)), (11, .int .i64 0), (12, .int .i64 0), (13, .int .i64 0), (14, .bool false), (16, .int .i64 1)], [(g2, 3, lseee_c5), (γ1 1, 67, (lseee_c3 y0 y1 y2)), (γ1 0, 67, (lseee_c4 x0 x1 x2))]⟩, [(1, g2)], [(0 : Int) ≤ 0 ∧ 0 < ((3 : Nat) : Int)], by kernel_rfl, (.cons ⟨by omega, by omega⟩ .nil), ?_⟩
    refine lv hI5 4 ?_
    refine ck 9 [(1, 0)] [] fun γ7 => ⟨⟨ktp (I5 4) (kt (bdy Try.f85) [1, 1, 0, 1, 0] []), upv (lseee_b8 g2) [(5, .int .i64 0), (8, .int .i64 2), (9, .bool true), (10, .pointer (some ⟨g2, 1, none⟩)), (11, .int .i64 0), (12, .int .i64 0), (13, .int .i64 0), (14, .bool false), (16, .int .i64 2)], [(g2, 3, lseee_c5), (γ1 1, 67, (lseee_c3 y0 y1 y2)), (γ1 0, 67, (lseee_c4 x0 x1 x2))]⟩, [(1, g2)], [(0 : Int) ≤ 1 ∧ 1 < ((3 : Nat) : Int)], by kernel_rfl, (.cons ⟨by omega, by omega⟩ .nil), ?_⟩
    refine lv hI5 3 ?_
    refine ck 9 [(1, 0)] [] fun γ8 => ⟨⟨ktp (I5 3) (kt (bdy Try.f85) [1, 1, 0, 1, 0] []), upv (lseee_b8 g2) [(5, .int .i64 0), (8, .int .i64 3), (9, .bool true), (10, .pointer (some ⟨g2, 2, none⟩)), (11, .int .i64 0), (12, .int .i64 0), (13, .int .i64 0), (14, .bool false), (16, .int .i64 3)], [(g2, 3, lseee_c5), (γ1 1, 67, (lseee_c3 y0 y1 y2)), (γ1 0, 67, (lseee_c4 x0 x1 x2))]⟩, [(1, g2)], [(0 : Int) ≤ 2 ∧ 2 < ((3 : Nat) : Int)], by kernel_rfl, (.cons ⟨by omega, by omega⟩ .nil), ?_⟩
    refine lv hI5 2 ?_
    refine ck 3 [] [] fun γ9 => ⟨⟨kt (bdy Try.f85) [1, 1, 1, 1] [], upv (lseee_b8 g2) [(5, .int .i64 0), (8, .int .i64 3), (9, .bool false), (10, .pointer (some ⟨g2, 2, none⟩)), (11, .int .i64 0), (12, .int .i64 0), (13, .int .i64 0), (14, .bool false), (16, .int .i64 3), (17, .int .i64 0)], [(g2, 3, lseee_c5), (γ1 1, 67, (lseee_c3 y0 y1 y2)), (γ1 0, 67, (lseee_c4 x0 x1 x2))]⟩, [], [], by kernel_rfl, .nil, ?_⟩
    refine dclr hR3 (.int .i64 0) [] [] [true, true, true] .nil ?_
    refine df [17, 18] [] [] [] [] .nil ?_
    refine de (fs := (kt (bdy Try.f68) [1, 0] []).tail) ?_
    refine st0 (fs := (kt (bdy Try.f68) [1, 0] []).tail) ((lseee_b11 x0 x1 x2 y0 y1 y2 γ1 g2)) [(g2, 3, lseee_c5), (γ1 1, 67, (lseee_c3 y0 y1 y2)), (γ1 0, 67, (lseee_c4 x0 x1 x2))] ?_
    refine rt (.bool false) [] [] (fun W hW => ?_)
    have hg : ltP (x0, x1, x2) (y0, y1, y2) = false := by
      unfold ltP
      exact decide_eq_false (by simp only; omega)
    rw [hg]
    exact ⟨rfl, (hW.old 0 rfl)⟩
  · skip
    refine enter (args := [.agg #[.int .i64 x0, .int .i64 x1, .int .i64 x2], .agg #[.int .i64 y0, .int .i64 y1, .int .i64 y2]]) (fn := Try.f68) rfl (c := bdy Try.f68) (by kernel_rfl) ?_
    refine ck 3 [] [] fun γ1 => ⟨⟨kt (bdy Try.f68) [1, 0] [], (lseeg_b2 x0 x1 x2 y0 y1 y2 γ1), [(γ1 1, 67, (lseeg_c3 y0 y1 y2)), (γ1 0, 67, (lseeg_c4 x0 x1 x2))]⟩, [], [], by kernel_rfl, .nil, ?_⟩
    refine dr [] [] .nil ?_
    refine df [0, 1, 2, 3, 5, 6, 7, 8, 10, 11, 12, 13] [(1, 1), (1, 0), (1, 1), (1, 0), (1, 1), (1, 0)] [] [(1, γ1 0), (1, γ1 1), (1, γ1 0), (1, γ1 1), (1, γ1 0), (1, γ1 1)] [] .nil ?_
    refine dp 4 (fun W hW => cmp_is (r := 0) (cmp_eq h0) W) ?_
    refine dp 9 (fun W hW => cmp_is (r := 0) (cmp_eq h1) W) ?_
    refine dp 14 (fun W hW => cmp_is (r := 1) (cmp_gt h2) W) ?_
    refine dn 15 (v := fun g2 => .slice (some ⟨g2, 0, none⟩) 3 3) (b := fun g2 => (g2, 3, lseeg_c5)) (fun g L => by kernel_rfl) fun g2 => ?_
    refine dcl 16 [] (f := 85) (args := [.slice (some ⟨g2, 0, none⟩) 3 3]) (fn := Try.f85) (c := bdy Try.f85) rfl (fun R3 hR3 => ?_)
    refine ck 5 [] [] fun γ4 => ⟨⟨kt (bdy Try.f85) [1, 1, 0, 1, 0] [], (lseeg_b8 g2), [(g2, 3, lseeg_c5), (γ1 1, 67, (lseeg_c3 y0 y1 y2)), (γ1 0, 67, (lseeg_c4 x0 x1 x2))]⟩, [], [], by kernel_rfl, .nil, ?_⟩
    refine lu 5 (fun I5 hI5 => ?_)
    refine ck 9 [(1, 0)] [] fun γ6 => ⟨⟨ktp (I5 5) (kt (bdy Try.f85) [1, 1, 0, 1, 0] []), upv (lseeg_b8 g2) [(5, .int .i64 0), (8, .int .i64 1), (9, .bool true), (10, .pointer (some ⟨g2, 0, none⟩)), (11, .int .i64 0), (12, .int .i64 0), (13, .int .i64 0), (14, .bool false), (16, .int .i64 1)], [(g2, 3, lseeg_c5), (γ1 1, 67, (lseeg_c3 y0 y1 y2)), (γ1 0, 67, (lseeg_c4 x0 x1 x2))]⟩, [(1, g2)], [(0 : Int) ≤ 0 ∧ 0 < ((3 : Nat) : Int)], by kernel_rfl, (.cons ⟨by omega, by omega⟩ .nil), ?_⟩
    refine lv hI5 4 ?_
    refine ck 9 [(1, 0)] [] fun γ7 => ⟨⟨ktp (I5 4) (kt (bdy Try.f85) [1, 1, 0, 1, 0] []), upv (lseeg_b8 g2) [(5, .int .i64 0), (8, .int .i64 2), (9, .bool true), (10, .pointer (some ⟨g2, 1, none⟩)), (11, .int .i64 0), (12, .int .i64 0), (13, .int .i64 0), (14, .bool false), (16, .int .i64 2)], [(g2, 3, lseeg_c5), (γ1 1, 67, (lseeg_c3 y0 y1 y2)), (γ1 0, 67, (lseeg_c4 x0 x1 x2))]⟩, [(1, g2)], [(0 : Int) ≤ 1 ∧ 1 < ((3 : Nat) : Int)], by kernel_rfl, (.cons ⟨by omega, by omega⟩ .nil), ?_⟩
    refine lv hI5 3 ?_
    refine ck 9 [(1, 0)] [] fun γ8 => ⟨⟨ktl [1, 1, 0, 0, 1, 1, 0, 1] (I5 3) (kt (bdy Try.f85) [1, 1, 0, 1, 0] []), upv (lseeg_b8 g2) [(2, .int .i64 1), (5, .int .i64 1), (8, .int .i64 2), (9, .bool true), (10, .pointer (some ⟨g2, 2, none⟩)), (11, .int .i64 1), (12, .int .i64 1), (13, .int .i64 0), (14, .bool true), (15, .int .i64 1), (16, .int .i64 2)], [(g2, 3, lseeg_c5), (γ1 1, 67, (lseeg_c3 y0 y1 y2)), (γ1 0, 67, (lseeg_c4 x0 x1 x2))]⟩, [(1, g2)], [(0 : Int) ≤ 2 ∧ 2 < ((3 : Nat) : Int)], by kernel_rfl, (.cons ⟨by omega, by omega⟩ .nil), ?_⟩
    refine dclr hR3 (.int .i64 1) [] [] [true, true, true] .nil ?_
    refine df [17, 18] [] [] [] [] .nil ?_
    refine de (fs := (kt (bdy Try.f68) [1, 0] []).tail) ?_
    refine st0 (fs := (kt (bdy Try.f68) [1, 0] []).tail) ((lseeg_b11 x0 x1 x2 y0 y1 y2 γ1 g2)) [(g2, 3, lseeg_c5), (γ1 1, 67, (lseeg_c3 y0 y1 y2)), (γ1 0, 67, (lseeg_c4 x0 x1 x2))] ?_
    refine rt (.bool false) [] [] (fun W hW => ?_)
    have hg : ltP (x0, x1, x2) (y0, y1, y2) = false := by
      unfold ltP
      exact decide_eq_false (by simp only; omega)
    rw [hg]
    exact ⟨rfl, (hW.old 0 rfl)⟩
  · skip
    refine enter (args := [.agg #[.int .i64 x0, .int .i64 x1, .int .i64 x2], .agg #[.int .i64 y0, .int .i64 y1, .int .i64 y2]]) (fn := Try.f68) rfl (c := bdy Try.f68) (by kernel_rfl) ?_
    refine ck 3 [] [] fun γ1 => ⟨⟨kt (bdy Try.f68) [1, 0] [], (lsegl_b2 x0 x1 x2 y0 y1 y2 γ1), [(γ1 1, 67, (lsegl_c3 y0 y1 y2)), (γ1 0, 67, (lsegl_c4 x0 x1 x2))]⟩, [], [], by kernel_rfl, .nil, ?_⟩
    refine dr [] [] .nil ?_
    refine df [0, 1, 2, 3, 5, 6, 7, 8, 10, 11, 12, 13] [(1, 1), (1, 0), (1, 1), (1, 0), (1, 1), (1, 0)] [] [(1, γ1 0), (1, γ1 1), (1, γ1 0), (1, γ1 1), (1, γ1 0), (1, γ1 1)] [] .nil ?_
    refine dp 4 (fun W hW => cmp_is (r := 0) (cmp_eq h0) W) ?_
    refine dp 9 (fun W hW => cmp_is (r := 1) (cmp_gt h1) W) ?_
    refine dp 14 (fun W hW => cmp_is (r := (-1)) (cmp_lt h2) W) ?_
    refine dn 15 (v := fun g2 => .slice (some ⟨g2, 0, none⟩) 3 3) (b := fun g2 => (g2, 3, lsegl_c5)) (fun g L => by kernel_rfl) fun g2 => ?_
    refine dcl 16 [] (f := 85) (args := [.slice (some ⟨g2, 0, none⟩) 3 3]) (fn := Try.f85) (c := bdy Try.f85) rfl (fun R3 hR3 => ?_)
    refine ck 5 [] [] fun γ4 => ⟨⟨kt (bdy Try.f85) [1, 1, 0, 1, 0] [], (lsegl_b8 g2), [(g2, 3, lsegl_c5), (γ1 1, 67, (lsegl_c3 y0 y1 y2)), (γ1 0, 67, (lsegl_c4 x0 x1 x2))]⟩, [], [], by kernel_rfl, .nil, ?_⟩
    refine lu 5 (fun I5 hI5 => ?_)
    refine ck 9 [(1, 0)] [] fun γ6 => ⟨⟨ktp (I5 5) (kt (bdy Try.f85) [1, 1, 0, 1, 0] []), upv (lsegl_b8 g2) [(5, .int .i64 0), (8, .int .i64 1), (9, .bool true), (10, .pointer (some ⟨g2, 0, none⟩)), (11, .int .i64 0), (12, .int .i64 0), (13, .int .i64 0), (14, .bool false), (16, .int .i64 1)], [(g2, 3, lsegl_c5), (γ1 1, 67, (lsegl_c3 y0 y1 y2)), (γ1 0, 67, (lsegl_c4 x0 x1 x2))]⟩, [(1, g2)], [(0 : Int) ≤ 0 ∧ 0 < ((3 : Nat) : Int)], by kernel_rfl, (.cons ⟨by omega, by omega⟩ .nil), ?_⟩
    refine lv hI5 4 ?_
    refine ck 9 [(1, 0)] [] fun γ7 => ⟨⟨ktl [1, 1, 0, 0, 1, 1, 0, 1] (I5 4) (kt (bdy Try.f85) [1, 1, 0, 1, 0] []), upv (lsegl_b8 g2) [(2, .int .i64 1), (5, .int .i64 1), (8, .int .i64 1), (9, .bool true), (10, .pointer (some ⟨g2, 1, none⟩)), (11, .int .i64 1), (12, .int .i64 1), (13, .int .i64 0), (14, .bool true), (15, .int .i64 1), (16, .int .i64 1)], [(g2, 3, lsegl_c5), (γ1 1, 67, (lsegl_c3 y0 y1 y2)), (γ1 0, 67, (lsegl_c4 x0 x1 x2))]⟩, [(1, g2)], [(0 : Int) ≤ 1 ∧ 1 < ((3 : Nat) : Int)], by kernel_rfl, (.cons ⟨by omega, by omega⟩ .nil), ?_⟩
    refine dclr hR3 (.int .i64 1) [] [] [true, true, true] .nil ?_
    refine df [17, 18] [] [] [] [] .nil ?_
    refine de (fs := (kt (bdy Try.f68) [1, 0] []).tail) ?_
    refine st0 (fs := (kt (bdy Try.f68) [1, 0] []).tail) ((lsegl_b11 x0 x1 x2 y0 y1 y2 γ1 g2)) [(g2, 3, lsegl_c5), (γ1 1, 67, (lsegl_c3 y0 y1 y2)), (γ1 0, 67, (lsegl_c4 x0 x1 x2))] ?_
    refine rt (.bool false) [] [] (fun W hW => ?_)
    have hg : ltP (x0, x1, x2) (y0, y1, y2) = false := by
      unfold ltP
      exact decide_eq_false (by simp only; omega)
    rw [hg]
    exact ⟨rfl, (hW.old 0 rfl)⟩
  · skip
    refine enter (args := [.agg #[.int .i64 x0, .int .i64 x1, .int .i64 x2], .agg #[.int .i64 y0, .int .i64 y1, .int .i64 y2]]) (fn := Try.f68) rfl (c := bdy Try.f68) (by kernel_rfl) ?_
    refine ck 3 [] [] fun γ1 => ⟨⟨kt (bdy Try.f68) [1, 0] [], (lsege_b2 x0 x1 x2 y0 y1 y2 γ1), [(γ1 1, 67, (lsege_c3 y0 y1 y2)), (γ1 0, 67, (lsege_c4 x0 x1 x2))]⟩, [], [], by kernel_rfl, .nil, ?_⟩
    refine dr [] [] .nil ?_
    refine df [0, 1, 2, 3, 5, 6, 7, 8, 10, 11, 12, 13] [(1, 1), (1, 0), (1, 1), (1, 0), (1, 1), (1, 0)] [] [(1, γ1 0), (1, γ1 1), (1, γ1 0), (1, γ1 1), (1, γ1 0), (1, γ1 1)] [] .nil ?_
    refine dp 4 (fun W hW => cmp_is (r := 0) (cmp_eq h0) W) ?_
    refine dp 9 (fun W hW => cmp_is (r := 1) (cmp_gt h1) W) ?_
    refine dp 14 (fun W hW => cmp_is (r := 0) (cmp_eq h2) W) ?_
    refine dn 15 (v := fun g2 => .slice (some ⟨g2, 0, none⟩) 3 3) (b := fun g2 => (g2, 3, lsege_c5)) (fun g L => by kernel_rfl) fun g2 => ?_
    refine dcl 16 [] (f := 85) (args := [.slice (some ⟨g2, 0, none⟩) 3 3]) (fn := Try.f85) (c := bdy Try.f85) rfl (fun R3 hR3 => ?_)
    refine ck 5 [] [] fun γ4 => ⟨⟨kt (bdy Try.f85) [1, 1, 0, 1, 0] [], (lsege_b8 g2), [(g2, 3, lsege_c5), (γ1 1, 67, (lsege_c3 y0 y1 y2)), (γ1 0, 67, (lsege_c4 x0 x1 x2))]⟩, [], [], by kernel_rfl, .nil, ?_⟩
    refine lu 5 (fun I5 hI5 => ?_)
    refine ck 9 [(1, 0)] [] fun γ6 => ⟨⟨ktp (I5 5) (kt (bdy Try.f85) [1, 1, 0, 1, 0] []), upv (lsege_b8 g2) [(5, .int .i64 0), (8, .int .i64 1), (9, .bool true), (10, .pointer (some ⟨g2, 0, none⟩)), (11, .int .i64 0), (12, .int .i64 0), (13, .int .i64 0), (14, .bool false), (16, .int .i64 1)], [(g2, 3, lsege_c5), (γ1 1, 67, (lsege_c3 y0 y1 y2)), (γ1 0, 67, (lsege_c4 x0 x1 x2))]⟩, [(1, g2)], [(0 : Int) ≤ 0 ∧ 0 < ((3 : Nat) : Int)], by kernel_rfl, (.cons ⟨by omega, by omega⟩ .nil), ?_⟩
    refine lv hI5 4 ?_
    refine ck 9 [(1, 0)] [] fun γ7 => ⟨⟨ktl [1, 1, 0, 0, 1, 1, 0, 1] (I5 4) (kt (bdy Try.f85) [1, 1, 0, 1, 0] []), upv (lsege_b8 g2) [(2, .int .i64 1), (5, .int .i64 1), (8, .int .i64 1), (9, .bool true), (10, .pointer (some ⟨g2, 1, none⟩)), (11, .int .i64 1), (12, .int .i64 1), (13, .int .i64 0), (14, .bool true), (15, .int .i64 1), (16, .int .i64 1)], [(g2, 3, lsege_c5), (γ1 1, 67, (lsege_c3 y0 y1 y2)), (γ1 0, 67, (lsege_c4 x0 x1 x2))]⟩, [(1, g2)], [(0 : Int) ≤ 1 ∧ 1 < ((3 : Nat) : Int)], by kernel_rfl, (.cons ⟨by omega, by omega⟩ .nil), ?_⟩
    refine dclr hR3 (.int .i64 1) [] [] [true, true, true] .nil ?_
    refine df [17, 18] [] [] [] [] .nil ?_
    refine de (fs := (kt (bdy Try.f68) [1, 0] []).tail) ?_
    refine st0 (fs := (kt (bdy Try.f68) [1, 0] []).tail) ((lsege_b11 x0 x1 x2 y0 y1 y2 γ1 g2)) [(g2, 3, lsege_c5), (γ1 1, 67, (lsege_c3 y0 y1 y2)), (γ1 0, 67, (lsege_c4 x0 x1 x2))] ?_
    refine rt (.bool false) [] [] (fun W hW => ?_)
    have hg : ltP (x0, x1, x2) (y0, y1, y2) = false := by
      unfold ltP
      exact decide_eq_false (by simp only; omega)
    rw [hg]
    exact ⟨rfl, (hW.old 0 rfl)⟩
  · skip
    refine enter (args := [.agg #[.int .i64 x0, .int .i64 x1, .int .i64 x2], .agg #[.int .i64 y0, .int .i64 y1, .int .i64 y2]]) (fn := Try.f68) rfl (c := bdy Try.f68) (by kernel_rfl) ?_
    refine ck 3 [] [] fun γ1 => ⟨⟨kt (bdy Try.f68) [1, 0] [], (lsegg_b2 x0 x1 x2 y0 y1 y2 γ1), [(γ1 1, 67, (lsegg_c3 y0 y1 y2)), (γ1 0, 67, (lsegg_c4 x0 x1 x2))]⟩, [], [], by kernel_rfl, .nil, ?_⟩
    refine dr [] [] .nil ?_
    refine df [0, 1, 2, 3, 5, 6, 7, 8, 10, 11, 12, 13] [(1, 1), (1, 0), (1, 1), (1, 0), (1, 1), (1, 0)] [] [(1, γ1 0), (1, γ1 1), (1, γ1 0), (1, γ1 1), (1, γ1 0), (1, γ1 1)] [] .nil ?_
    refine dp 4 (fun W hW => cmp_is (r := 0) (cmp_eq h0) W) ?_
    refine dp 9 (fun W hW => cmp_is (r := 1) (cmp_gt h1) W) ?_
    refine dp 14 (fun W hW => cmp_is (r := 1) (cmp_gt h2) W) ?_
    refine dn 15 (v := fun g2 => .slice (some ⟨g2, 0, none⟩) 3 3) (b := fun g2 => (g2, 3, lsegg_c5)) (fun g L => by kernel_rfl) fun g2 => ?_
    refine dcl 16 [] (f := 85) (args := [.slice (some ⟨g2, 0, none⟩) 3 3]) (fn := Try.f85) (c := bdy Try.f85) rfl (fun R3 hR3 => ?_)
    refine ck 5 [] [] fun γ4 => ⟨⟨kt (bdy Try.f85) [1, 1, 0, 1, 0] [], (lsegg_b8 g2), [(g2, 3, lsegg_c5), (γ1 1, 67, (lsegg_c3 y0 y1 y2)), (γ1 0, 67, (lsegg_c4 x0 x1 x2))]⟩, [], [], by kernel_rfl, .nil, ?_⟩
    refine lu 5 (fun I5 hI5 => ?_)
    refine ck 9 [(1, 0)] [] fun γ6 => ⟨⟨ktp (I5 5) (kt (bdy Try.f85) [1, 1, 0, 1, 0] []), upv (lsegg_b8 g2) [(5, .int .i64 0), (8, .int .i64 1), (9, .bool true), (10, .pointer (some ⟨g2, 0, none⟩)), (11, .int .i64 0), (12, .int .i64 0), (13, .int .i64 0), (14, .bool false), (16, .int .i64 1)], [(g2, 3, lsegg_c5), (γ1 1, 67, (lsegg_c3 y0 y1 y2)), (γ1 0, 67, (lsegg_c4 x0 x1 x2))]⟩, [(1, g2)], [(0 : Int) ≤ 0 ∧ 0 < ((3 : Nat) : Int)], by kernel_rfl, (.cons ⟨by omega, by omega⟩ .nil), ?_⟩
    refine lv hI5 4 ?_
    refine ck 9 [(1, 0)] [] fun γ7 => ⟨⟨ktl [1, 1, 0, 0, 1, 1, 0, 1] (I5 4) (kt (bdy Try.f85) [1, 1, 0, 1, 0] []), upv (lsegg_b8 g2) [(2, .int .i64 1), (5, .int .i64 1), (8, .int .i64 1), (9, .bool true), (10, .pointer (some ⟨g2, 1, none⟩)), (11, .int .i64 1), (12, .int .i64 1), (13, .int .i64 0), (14, .bool true), (15, .int .i64 1), (16, .int .i64 1)], [(g2, 3, lsegg_c5), (γ1 1, 67, (lsegg_c3 y0 y1 y2)), (γ1 0, 67, (lsegg_c4 x0 x1 x2))]⟩, [(1, g2)], [(0 : Int) ≤ 1 ∧ 1 < ((3 : Nat) : Int)], by kernel_rfl, (.cons ⟨by omega, by omega⟩ .nil), ?_⟩
    refine dclr hR3 (.int .i64 1) [] [] [true, true, true] .nil ?_
    refine df [17, 18] [] [] [] [] .nil ?_
    refine de (fs := (kt (bdy Try.f68) [1, 0] []).tail) ?_
    refine st0 (fs := (kt (bdy Try.f68) [1, 0] []).tail) ((lsegg_b11 x0 x1 x2 y0 y1 y2 γ1 g2)) [(g2, 3, lsegg_c5), (γ1 1, 67, (lsegg_c3 y0 y1 y2)), (γ1 0, 67, (lsegg_c4 x0 x1 x2))] ?_
    refine rt (.bool false) [] [] (fun W hW => ?_)
    have hg : ltP (x0, x1, x2) (y0, y1, y2) = false := by
      unfold ltP
      exact decide_eq_false (by simp only; omega)
    rw [hg]
    exact ⟨rfl, (hW.old 0 rfl)⟩
  · skip
    refine enter (args := [.agg #[.int .i64 x0, .int .i64 x1, .int .i64 x2], .agg #[.int .i64 y0, .int .i64 y1, .int .i64 y2]]) (fn := Try.f68) rfl (c := bdy Try.f68) (by kernel_rfl) ?_
    refine ck 3 [] [] fun γ1 => ⟨⟨kt (bdy Try.f68) [1, 0] [], (lsgll_b2 x0 x1 x2 y0 y1 y2 γ1), [(γ1 1, 67, (lsgll_c3 y0 y1 y2)), (γ1 0, 67, (lsgll_c4 x0 x1 x2))]⟩, [], [], by kernel_rfl, .nil, ?_⟩
    refine dr [] [] .nil ?_
    refine df [0, 1, 2, 3, 5, 6, 7, 8, 10, 11, 12, 13] [(1, 1), (1, 0), (1, 1), (1, 0), (1, 1), (1, 0)] [] [(1, γ1 0), (1, γ1 1), (1, γ1 0), (1, γ1 1), (1, γ1 0), (1, γ1 1)] [] .nil ?_
    refine dp 4 (fun W hW => cmp_is (r := 1) (cmp_gt h0) W) ?_
    refine dp 9 (fun W hW => cmp_is (r := (-1)) (cmp_lt h1) W) ?_
    refine dp 14 (fun W hW => cmp_is (r := (-1)) (cmp_lt h2) W) ?_
    refine dn 15 (v := fun g2 => .slice (some ⟨g2, 0, none⟩) 3 3) (b := fun g2 => (g2, 3, lsgll_c5)) (fun g L => by kernel_rfl) fun g2 => ?_
    refine dcl 16 [] (f := 85) (args := [.slice (some ⟨g2, 0, none⟩) 3 3]) (fn := Try.f85) (c := bdy Try.f85) rfl (fun R3 hR3 => ?_)
    refine ck 5 [] [] fun γ4 => ⟨⟨kt (bdy Try.f85) [1, 1, 0, 1, 0] [], (lsgll_b8 g2), [(g2, 3, lsgll_c5), (γ1 1, 67, (lsgll_c3 y0 y1 y2)), (γ1 0, 67, (lsgll_c4 x0 x1 x2))]⟩, [], [], by kernel_rfl, .nil, ?_⟩
    refine lu 5 (fun I5 hI5 => ?_)
    refine ck 9 [(1, 0)] [] fun γ6 => ⟨⟨ktl [1, 1, 0, 0, 1, 1, 0, 1] (I5 5) (kt (bdy Try.f85) [1, 1, 0, 1, 0] []), upv (lsgll_b8 g2) [(2, .int .i64 1), (5, .int .i64 1), (9, .bool true), (10, .pointer (some ⟨g2, 0, none⟩)), (11, .int .i64 1), (12, .int .i64 1), (13, .int .i64 0), (14, .bool true), (15, .int .i64 1)], [(g2, 3, lsgll_c5), (γ1 1, 67, (lsgll_c3 y0 y1 y2)), (γ1 0, 67, (lsgll_c4 x0 x1 x2))]⟩, [(1, g2)], [(0 : Int) ≤ 0 ∧ 0 < ((3 : Nat) : Int)], by kernel_rfl, (.cons ⟨by omega, by omega⟩ .nil), ?_⟩
    refine dclr hR3 (.int .i64 1) [] [] [true, true, true] .nil ?_
    refine df [17, 18] [] [] [] [] .nil ?_
    refine de (fs := (kt (bdy Try.f68) [1, 0] []).tail) ?_
    refine st0 (fs := (kt (bdy Try.f68) [1, 0] []).tail) ((lsgll_b11 x0 x1 x2 y0 y1 y2 γ1 g2)) [(g2, 3, lsgll_c5), (γ1 1, 67, (lsgll_c3 y0 y1 y2)), (γ1 0, 67, (lsgll_c4 x0 x1 x2))] ?_
    refine rt (.bool false) [] [] (fun W hW => ?_)
    have hg : ltP (x0, x1, x2) (y0, y1, y2) = false := by
      unfold ltP
      exact decide_eq_false (by simp only; omega)
    rw [hg]
    exact ⟨rfl, (hW.old 0 rfl)⟩
  · skip
    refine enter (args := [.agg #[.int .i64 x0, .int .i64 x1, .int .i64 x2], .agg #[.int .i64 y0, .int .i64 y1, .int .i64 y2]]) (fn := Try.f68) rfl (c := bdy Try.f68) (by kernel_rfl) ?_
    refine ck 3 [] [] fun γ1 => ⟨⟨kt (bdy Try.f68) [1, 0] [], (lsgle_b2 x0 x1 x2 y0 y1 y2 γ1), [(γ1 1, 67, (lsgle_c3 y0 y1 y2)), (γ1 0, 67, (lsgle_c4 x0 x1 x2))]⟩, [], [], by kernel_rfl, .nil, ?_⟩
    refine dr [] [] .nil ?_
    refine df [0, 1, 2, 3, 5, 6, 7, 8, 10, 11, 12, 13] [(1, 1), (1, 0), (1, 1), (1, 0), (1, 1), (1, 0)] [] [(1, γ1 0), (1, γ1 1), (1, γ1 0), (1, γ1 1), (1, γ1 0), (1, γ1 1)] [] .nil ?_
    refine dp 4 (fun W hW => cmp_is (r := 1) (cmp_gt h0) W) ?_
    refine dp 9 (fun W hW => cmp_is (r := (-1)) (cmp_lt h1) W) ?_
    refine dp 14 (fun W hW => cmp_is (r := 0) (cmp_eq h2) W) ?_
    refine dn 15 (v := fun g2 => .slice (some ⟨g2, 0, none⟩) 3 3) (b := fun g2 => (g2, 3, lsgle_c5)) (fun g L => by kernel_rfl) fun g2 => ?_
    refine dcl 16 [] (f := 85) (args := [.slice (some ⟨g2, 0, none⟩) 3 3]) (fn := Try.f85) (c := bdy Try.f85) rfl (fun R3 hR3 => ?_)
    refine ck 5 [] [] fun γ4 => ⟨⟨kt (bdy Try.f85) [1, 1, 0, 1, 0] [], (lsgle_b8 g2), [(g2, 3, lsgle_c5), (γ1 1, 67, (lsgle_c3 y0 y1 y2)), (γ1 0, 67, (lsgle_c4 x0 x1 x2))]⟩, [], [], by kernel_rfl, .nil, ?_⟩
    refine lu 5 (fun I5 hI5 => ?_)
    refine ck 9 [(1, 0)] [] fun γ6 => ⟨⟨ktl [1, 1, 0, 0, 1, 1, 0, 1] (I5 5) (kt (bdy Try.f85) [1, 1, 0, 1, 0] []), upv (lsgle_b8 g2) [(2, .int .i64 1), (5, .int .i64 1), (9, .bool true), (10, .pointer (some ⟨g2, 0, none⟩)), (11, .int .i64 1), (12, .int .i64 1), (13, .int .i64 0), (14, .bool true), (15, .int .i64 1)], [(g2, 3, lsgle_c5), (γ1 1, 67, (lsgle_c3 y0 y1 y2)), (γ1 0, 67, (lsgle_c4 x0 x1 x2))]⟩, [(1, g2)], [(0 : Int) ≤ 0 ∧ 0 < ((3 : Nat) : Int)], by kernel_rfl, (.cons ⟨by omega, by omega⟩ .nil), ?_⟩
    refine dclr hR3 (.int .i64 1) [] [] [true, true, true] .nil ?_
    refine df [17, 18] [] [] [] [] .nil ?_
    refine de (fs := (kt (bdy Try.f68) [1, 0] []).tail) ?_
    refine st0 (fs := (kt (bdy Try.f68) [1, 0] []).tail) ((lsgle_b11 x0 x1 x2 y0 y1 y2 γ1 g2)) [(g2, 3, lsgle_c5), (γ1 1, 67, (lsgle_c3 y0 y1 y2)), (γ1 0, 67, (lsgle_c4 x0 x1 x2))] ?_
    refine rt (.bool false) [] [] (fun W hW => ?_)
    have hg : ltP (x0, x1, x2) (y0, y1, y2) = false := by
      unfold ltP
      exact decide_eq_false (by simp only; omega)
    rw [hg]
    exact ⟨rfl, (hW.old 0 rfl)⟩
  · skip
    refine enter (args := [.agg #[.int .i64 x0, .int .i64 x1, .int .i64 x2], .agg #[.int .i64 y0, .int .i64 y1, .int .i64 y2]]) (fn := Try.f68) rfl (c := bdy Try.f68) (by kernel_rfl) ?_
    refine ck 3 [] [] fun γ1 => ⟨⟨kt (bdy Try.f68) [1, 0] [], (lsglg_b2 x0 x1 x2 y0 y1 y2 γ1), [(γ1 1, 67, (lsglg_c3 y0 y1 y2)), (γ1 0, 67, (lsglg_c4 x0 x1 x2))]⟩, [], [], by kernel_rfl, .nil, ?_⟩
    refine dr [] [] .nil ?_
    refine df [0, 1, 2, 3, 5, 6, 7, 8, 10, 11, 12, 13] [(1, 1), (1, 0), (1, 1), (1, 0), (1, 1), (1, 0)] [] [(1, γ1 0), (1, γ1 1), (1, γ1 0), (1, γ1 1), (1, γ1 0), (1, γ1 1)] [] .nil ?_
    refine dp 4 (fun W hW => cmp_is (r := 1) (cmp_gt h0) W) ?_
    refine dp 9 (fun W hW => cmp_is (r := (-1)) (cmp_lt h1) W) ?_
    refine dp 14 (fun W hW => cmp_is (r := 1) (cmp_gt h2) W) ?_
    refine dn 15 (v := fun g2 => .slice (some ⟨g2, 0, none⟩) 3 3) (b := fun g2 => (g2, 3, lsglg_c5)) (fun g L => by kernel_rfl) fun g2 => ?_
    refine dcl 16 [] (f := 85) (args := [.slice (some ⟨g2, 0, none⟩) 3 3]) (fn := Try.f85) (c := bdy Try.f85) rfl (fun R3 hR3 => ?_)
    refine ck 5 [] [] fun γ4 => ⟨⟨kt (bdy Try.f85) [1, 1, 0, 1, 0] [], (lsglg_b8 g2), [(g2, 3, lsglg_c5), (γ1 1, 67, (lsglg_c3 y0 y1 y2)), (γ1 0, 67, (lsglg_c4 x0 x1 x2))]⟩, [], [], by kernel_rfl, .nil, ?_⟩
    refine lu 5 (fun I5 hI5 => ?_)
    refine ck 9 [(1, 0)] [] fun γ6 => ⟨⟨ktl [1, 1, 0, 0, 1, 1, 0, 1] (I5 5) (kt (bdy Try.f85) [1, 1, 0, 1, 0] []), upv (lsglg_b8 g2) [(2, .int .i64 1), (5, .int .i64 1), (9, .bool true), (10, .pointer (some ⟨g2, 0, none⟩)), (11, .int .i64 1), (12, .int .i64 1), (13, .int .i64 0), (14, .bool true), (15, .int .i64 1)], [(g2, 3, lsglg_c5), (γ1 1, 67, (lsglg_c3 y0 y1 y2)), (γ1 0, 67, (lsglg_c4 x0 x1 x2))]⟩, [(1, g2)], [(0 : Int) ≤ 0 ∧ 0 < ((3 : Nat) : Int)], by kernel_rfl, (.cons ⟨by omega, by omega⟩ .nil), ?_⟩
    refine dclr hR3 (.int .i64 1) [] [] [true, true, true] .nil ?_
    refine df [17, 18] [] [] [] [] .nil ?_
    refine de (fs := (kt (bdy Try.f68) [1, 0] []).tail) ?_
    refine st0 (fs := (kt (bdy Try.f68) [1, 0] []).tail) ((lsglg_b11 x0 x1 x2 y0 y1 y2 γ1 g2)) [(g2, 3, lsglg_c5), (γ1 1, 67, (lsglg_c3 y0 y1 y2)), (γ1 0, 67, (lsglg_c4 x0 x1 x2))] ?_
    refine rt (.bool false) [] [] (fun W hW => ?_)
    have hg : ltP (x0, x1, x2) (y0, y1, y2) = false := by
      unfold ltP
      exact decide_eq_false (by simp only; omega)
    rw [hg]
    exact ⟨rfl, (hW.old 0 rfl)⟩
  · skip
    refine enter (args := [.agg #[.int .i64 x0, .int .i64 x1, .int .i64 x2], .agg #[.int .i64 y0, .int .i64 y1, .int .i64 y2]]) (fn := Try.f68) rfl (c := bdy Try.f68) (by kernel_rfl) ?_
    refine ck 3 [] [] fun γ1 => ⟨⟨kt (bdy Try.f68) [1, 0] [], (lsgel_b2 x0 x1 x2 y0 y1 y2 γ1), [(γ1 1, 67, (lsgel_c3 y0 y1 y2)), (γ1 0, 67, (lsgel_c4 x0 x1 x2))]⟩, [], [], by kernel_rfl, .nil, ?_⟩
    refine dr [] [] .nil ?_
    refine df [0, 1, 2, 3, 5, 6, 7, 8, 10, 11, 12, 13] [(1, 1), (1, 0), (1, 1), (1, 0), (1, 1), (1, 0)] [] [(1, γ1 0), (1, γ1 1), (1, γ1 0), (1, γ1 1), (1, γ1 0), (1, γ1 1)] [] .nil ?_
    refine dp 4 (fun W hW => cmp_is (r := 1) (cmp_gt h0) W) ?_
    refine dp 9 (fun W hW => cmp_is (r := 0) (cmp_eq h1) W) ?_
    refine dp 14 (fun W hW => cmp_is (r := (-1)) (cmp_lt h2) W) ?_
    refine dn 15 (v := fun g2 => .slice (some ⟨g2, 0, none⟩) 3 3) (b := fun g2 => (g2, 3, lsgel_c5)) (fun g L => by kernel_rfl) fun g2 => ?_
    refine dcl 16 [] (f := 85) (args := [.slice (some ⟨g2, 0, none⟩) 3 3]) (fn := Try.f85) (c := bdy Try.f85) rfl (fun R3 hR3 => ?_)
    refine ck 5 [] [] fun γ4 => ⟨⟨kt (bdy Try.f85) [1, 1, 0, 1, 0] [], (lsgel_b8 g2), [(g2, 3, lsgel_c5), (γ1 1, 67, (lsgel_c3 y0 y1 y2)), (γ1 0, 67, (lsgel_c4 x0 x1 x2))]⟩, [], [], by kernel_rfl, .nil, ?_⟩
    refine lu 5 (fun I5 hI5 => ?_)
    refine ck 9 [(1, 0)] [] fun γ6 => ⟨⟨ktl [1, 1, 0, 0, 1, 1, 0, 1] (I5 5) (kt (bdy Try.f85) [1, 1, 0, 1, 0] []), upv (lsgel_b8 g2) [(2, .int .i64 1), (5, .int .i64 1), (9, .bool true), (10, .pointer (some ⟨g2, 0, none⟩)), (11, .int .i64 1), (12, .int .i64 1), (13, .int .i64 0), (14, .bool true), (15, .int .i64 1)], [(g2, 3, lsgel_c5), (γ1 1, 67, (lsgel_c3 y0 y1 y2)), (γ1 0, 67, (lsgel_c4 x0 x1 x2))]⟩, [(1, g2)], [(0 : Int) ≤ 0 ∧ 0 < ((3 : Nat) : Int)], by kernel_rfl, (.cons ⟨by omega, by omega⟩ .nil), ?_⟩
    refine dclr hR3 (.int .i64 1) [] [] [true, true, true] .nil ?_
    refine df [17, 18] [] [] [] [] .nil ?_
    refine de (fs := (kt (bdy Try.f68) [1, 0] []).tail) ?_
    refine st0 (fs := (kt (bdy Try.f68) [1, 0] []).tail) ((lsgel_b11 x0 x1 x2 y0 y1 y2 γ1 g2)) [(g2, 3, lsgel_c5), (γ1 1, 67, (lsgel_c3 y0 y1 y2)), (γ1 0, 67, (lsgel_c4 x0 x1 x2))] ?_
    refine rt (.bool false) [] [] (fun W hW => ?_)
    have hg : ltP (x0, x1, x2) (y0, y1, y2) = false := by
      unfold ltP
      exact decide_eq_false (by simp only; omega)
    rw [hg]
    exact ⟨rfl, (hW.old 0 rfl)⟩
  · skip
    refine enter (args := [.agg #[.int .i64 x0, .int .i64 x1, .int .i64 x2], .agg #[.int .i64 y0, .int .i64 y1, .int .i64 y2]]) (fn := Try.f68) rfl (c := bdy Try.f68) (by kernel_rfl) ?_
    refine ck 3 [] [] fun γ1 => ⟨⟨kt (bdy Try.f68) [1, 0] [], (lsgee_b2 x0 x1 x2 y0 y1 y2 γ1), [(γ1 1, 67, (lsgee_c3 y0 y1 y2)), (γ1 0, 67, (lsgee_c4 x0 x1 x2))]⟩, [], [], by kernel_rfl, .nil, ?_⟩
    refine dr [] [] .nil ?_
    refine df [0, 1, 2, 3, 5, 6, 7, 8, 10, 11, 12, 13] [(1, 1), (1, 0), (1, 1), (1, 0), (1, 1), (1, 0)] [] [(1, γ1 0), (1, γ1 1), (1, γ1 0), (1, γ1 1), (1, γ1 0), (1, γ1 1)] [] .nil ?_
    refine dp 4 (fun W hW => cmp_is (r := 1) (cmp_gt h0) W) ?_
    refine dp 9 (fun W hW => cmp_is (r := 0) (cmp_eq h1) W) ?_
    refine dp 14 (fun W hW => cmp_is (r := 0) (cmp_eq h2) W) ?_
    refine dn 15 (v := fun g2 => .slice (some ⟨g2, 0, none⟩) 3 3) (b := fun g2 => (g2, 3, lsgee_c5)) (fun g L => by kernel_rfl) fun g2 => ?_
    refine dcl 16 [] (f := 85) (args := [.slice (some ⟨g2, 0, none⟩) 3 3]) (fn := Try.f85) (c := bdy Try.f85) rfl (fun R3 hR3 => ?_)
    refine ck 5 [] [] fun γ4 => ⟨⟨kt (bdy Try.f85) [1, 1, 0, 1, 0] [], (lsgee_b8 g2), [(g2, 3, lsgee_c5), (γ1 1, 67, (lsgee_c3 y0 y1 y2)), (γ1 0, 67, (lsgee_c4 x0 x1 x2))]⟩, [], [], by kernel_rfl, .nil, ?_⟩
    refine lu 5 (fun I5 hI5 => ?_)
    refine ck 9 [(1, 0)] [] fun γ6 => ⟨⟨ktl [1, 1, 0, 0, 1, 1, 0, 1] (I5 5) (kt (bdy Try.f85) [1, 1, 0, 1, 0] []), upv (lsgee_b8 g2) [(2, .int .i64 1), (5, .int .i64 1), (9, .bool true), (10, .pointer (some ⟨g2, 0, none⟩)), (11, .int .i64 1), (12, .int .i64 1), (13, .int .i64 0), (14, .bool true), (15, .int .i64 1)], [(g2, 3, lsgee_c5), (γ1 1, 67, (lsgee_c3 y0 y1 y2)), (γ1 0, 67, (lsgee_c4 x0 x1 x2))]⟩, [(1, g2)], [(0 : Int) ≤ 0 ∧ 0 < ((3 : Nat) : Int)], by kernel_rfl, (.cons ⟨by omega, by omega⟩ .nil), ?_⟩
    refine dclr hR3 (.int .i64 1) [] [] [true, true, true] .nil ?_
    refine df [17, 18] [] [] [] [] .nil ?_
    refine de (fs := (kt (bdy Try.f68) [1, 0] []).tail) ?_
    refine st0 (fs := (kt (bdy Try.f68) [1, 0] []).tail) ((lsgee_b11 x0 x1 x2 y0 y1 y2 γ1 g2)) [(g2, 3, lsgee_c5), (γ1 1, 67, (lsgee_c3 y0 y1 y2)), (γ1 0, 67, (lsgee_c4 x0 x1 x2))] ?_
    refine rt (.bool false) [] [] (fun W hW => ?_)
    have hg : ltP (x0, x1, x2) (y0, y1, y2) = false := by
      unfold ltP
      exact decide_eq_false (by simp only; omega)
    rw [hg]
    exact ⟨rfl, (hW.old 0 rfl)⟩
  · skip
    refine enter (args := [.agg #[.int .i64 x0, .int .i64 x1, .int .i64 x2], .agg #[.int .i64 y0, .int .i64 y1, .int .i64 y2]]) (fn := Try.f68) rfl (c := bdy Try.f68) (by kernel_rfl) ?_
    refine ck 3 [] [] fun γ1 => ⟨⟨kt (bdy Try.f68) [1, 0] [], (lsgeg_b2 x0 x1 x2 y0 y1 y2 γ1), [(γ1 1, 67, (lsgeg_c3 y0 y1 y2)), (γ1 0, 67, (lsgeg_c4 x0 x1 x2))]⟩, [], [], by kernel_rfl, .nil, ?_⟩
    refine dr [] [] .nil ?_
    refine df [0, 1, 2, 3, 5, 6, 7, 8, 10, 11, 12, 13] [(1, 1), (1, 0), (1, 1), (1, 0), (1, 1), (1, 0)] [] [(1, γ1 0), (1, γ1 1), (1, γ1 0), (1, γ1 1), (1, γ1 0), (1, γ1 1)] [] .nil ?_
    refine dp 4 (fun W hW => cmp_is (r := 1) (cmp_gt h0) W) ?_
    refine dp 9 (fun W hW => cmp_is (r := 0) (cmp_eq h1) W) ?_
    refine dp 14 (fun W hW => cmp_is (r := 1) (cmp_gt h2) W) ?_
    refine dn 15 (v := fun g2 => .slice (some ⟨g2, 0, none⟩) 3 3) (b := fun g2 => (g2, 3, lsgeg_c5)) (fun g L => by kernel_rfl) fun g2 => ?_
    refine dcl 16 [] (f := 85) (args := [.slice (some ⟨g2, 0, none⟩) 3 3]) (fn := Try.f85) (c := bdy Try.f85) rfl (fun R3 hR3 => ?_)
    refine ck 5 [] [] fun γ4 => ⟨⟨kt (bdy Try.f85) [1, 1, 0, 1, 0] [], (lsgeg_b8 g2), [(g2, 3, lsgeg_c5), (γ1 1, 67, (lsgeg_c3 y0 y1 y2)), (γ1 0, 67, (lsgeg_c4 x0 x1 x2))]⟩, [], [], by kernel_rfl, .nil, ?_⟩
    refine lu 5 (fun I5 hI5 => ?_)
    refine ck 9 [(1, 0)] [] fun γ6 => ⟨⟨ktl [1, 1, 0, 0, 1, 1, 0, 1] (I5 5) (kt (bdy Try.f85) [1, 1, 0, 1, 0] []), upv (lsgeg_b8 g2) [(2, .int .i64 1), (5, .int .i64 1), (9, .bool true), (10, .pointer (some ⟨g2, 0, none⟩)), (11, .int .i64 1), (12, .int .i64 1), (13, .int .i64 0), (14, .bool true), (15, .int .i64 1)], [(g2, 3, lsgeg_c5), (γ1 1, 67, (lsgeg_c3 y0 y1 y2)), (γ1 0, 67, (lsgeg_c4 x0 x1 x2))]⟩, [(1, g2)], [(0 : Int) ≤ 0 ∧ 0 < ((3 : Nat) : Int)], by kernel_rfl, (.cons ⟨by omega, by omega⟩ .nil), ?_⟩
    refine dclr hR3 (.int .i64 1) [] [] [true, true, true] .nil ?_
    refine df [17, 18] [] [] [] [] .nil ?_
    refine de (fs := (kt (bdy Try.f68) [1, 0] []).tail) ?_
    refine st0 (fs := (kt (bdy Try.f68) [1, 0] []).tail) ((lsgeg_b11 x0 x1 x2 y0 y1 y2 γ1 g2)) [(g2, 3, lsgeg_c5), (γ1 1, 67, (lsgeg_c3 y0 y1 y2)), (γ1 0, 67, (lsgeg_c4 x0 x1 x2))] ?_
    refine rt (.bool false) [] [] (fun W hW => ?_)
    have hg : ltP (x0, x1, x2) (y0, y1, y2) = false := by
      unfold ltP
      exact decide_eq_false (by simp only; omega)
    rw [hg]
    exact ⟨rfl, (hW.old 0 rfl)⟩
  · skip
    refine enter (args := [.agg #[.int .i64 x0, .int .i64 x1, .int .i64 x2], .agg #[.int .i64 y0, .int .i64 y1, .int .i64 y2]]) (fn := Try.f68) rfl (c := bdy Try.f68) (by kernel_rfl) ?_
    refine ck 3 [] [] fun γ1 => ⟨⟨kt (bdy Try.f68) [1, 0] [], (lsggl_b2 x0 x1 x2 y0 y1 y2 γ1), [(γ1 1, 67, (lsggl_c3 y0 y1 y2)), (γ1 0, 67, (lsggl_c4 x0 x1 x2))]⟩, [], [], by kernel_rfl, .nil, ?_⟩
    refine dr [] [] .nil ?_
    refine df [0, 1, 2, 3, 5, 6, 7, 8, 10, 11, 12, 13] [(1, 1), (1, 0), (1, 1), (1, 0), (1, 1), (1, 0)] [] [(1, γ1 0), (1, γ1 1), (1, γ1 0), (1, γ1 1), (1, γ1 0), (1, γ1 1)] [] .nil ?_
    refine dp 4 (fun W hW => cmp_is (r := 1) (cmp_gt h0) W) ?_
    refine dp 9 (fun W hW => cmp_is (r := 1) (cmp_gt h1) W) ?_
    refine dp 14 (fun W hW => cmp_is (r := (-1)) (cmp_lt h2) W) ?_
    refine dn 15 (v := fun g2 => .slice (some ⟨g2, 0, none⟩) 3 3) (b := fun g2 => (g2, 3, lsggl_c5)) (fun g L => by kernel_rfl) fun g2 => ?_
    refine dcl 16 [] (f := 85) (args := [.slice (some ⟨g2, 0, none⟩) 3 3]) (fn := Try.f85) (c := bdy Try.f85) rfl (fun R3 hR3 => ?_)
    refine ck 5 [] [] fun γ4 => ⟨⟨kt (bdy Try.f85) [1, 1, 0, 1, 0] [], (lsggl_b8 g2), [(g2, 3, lsggl_c5), (γ1 1, 67, (lsggl_c3 y0 y1 y2)), (γ1 0, 67, (lsggl_c4 x0 x1 x2))]⟩, [], [], by kernel_rfl, .nil, ?_⟩
    refine lu 5 (fun I5 hI5 => ?_)
    refine ck 9 [(1, 0)] [] fun γ6 => ⟨⟨ktl [1, 1, 0, 0, 1, 1, 0, 1] (I5 5) (kt (bdy Try.f85) [1, 1, 0, 1, 0] []), upv (lsggl_b8 g2) [(2, .int .i64 1), (5, .int .i64 1), (9, .bool true), (10, .pointer (some ⟨g2, 0, none⟩)), (11, .int .i64 1), (12, .int .i64 1), (13, .int .i64 0), (14, .bool true), (15, .int .i64 1)], [(g2, 3, lsggl_c5), (γ1 1, 67, (lsggl_c3 y0 y1 y2)), (γ1 0, 67, (lsggl_c4 x0 x1 x2))]⟩, [(1, g2)], [(0 : Int) ≤ 0 ∧ 0 < ((3 : Nat) : Int)], by kernel_rfl, (.cons ⟨by omega, by omega⟩ .nil), ?_⟩
    refine dclr hR3 (.int .i64 1) [] [] [true, true, true] .nil ?_
    refine df [17, 18] [] [] [] [] .nil ?_
    refine de (fs := (kt (bdy Try.f68) [1, 0] []).tail) ?_
    refine st0 (fs := (kt (bdy Try.f68) [1, 0] []).tail) ((lsggl_b11 x0 x1 x2 y0 y1 y2 γ1 g2)) [(g2, 3, lsggl_c5), (γ1 1, 67, (lsggl_c3 y0 y1 y2)), (γ1 0, 67, (lsggl_c4 x0 x1 x2))] ?_
    refine rt (.bool false) [] [] (fun W hW => ?_)
    have hg : ltP (x0, x1, x2) (y0, y1, y2) = false := by
      unfold ltP
      exact decide_eq_false (by simp only; omega)
    rw [hg]
    exact ⟨rfl, (hW.old 0 rfl)⟩
  · skip
    refine enter (args := [.agg #[.int .i64 x0, .int .i64 x1, .int .i64 x2], .agg #[.int .i64 y0, .int .i64 y1, .int .i64 y2]]) (fn := Try.f68) rfl (c := bdy Try.f68) (by kernel_rfl) ?_
    refine ck 3 [] [] fun γ1 => ⟨⟨kt (bdy Try.f68) [1, 0] [], (lsgge_b2 x0 x1 x2 y0 y1 y2 γ1), [(γ1 1, 67, (lsgge_c3 y0 y1 y2)), (γ1 0, 67, (lsgge_c4 x0 x1 x2))]⟩, [], [], by kernel_rfl, .nil, ?_⟩
    refine dr [] [] .nil ?_
    refine df [0, 1, 2, 3, 5, 6, 7, 8, 10, 11, 12, 13] [(1, 1), (1, 0), (1, 1), (1, 0), (1, 1), (1, 0)] [] [(1, γ1 0), (1, γ1 1), (1, γ1 0), (1, γ1 1), (1, γ1 0), (1, γ1 1)] [] .nil ?_
    refine dp 4 (fun W hW => cmp_is (r := 1) (cmp_gt h0) W) ?_
    refine dp 9 (fun W hW => cmp_is (r := 1) (cmp_gt h1) W) ?_
    refine dp 14 (fun W hW => cmp_is (r := 0) (cmp_eq h2) W) ?_
    refine dn 15 (v := fun g2 => .slice (some ⟨g2, 0, none⟩) 3 3) (b := fun g2 => (g2, 3, lsgge_c5)) (fun g L => by kernel_rfl) fun g2 => ?_
    refine dcl 16 [] (f := 85) (args := [.slice (some ⟨g2, 0, none⟩) 3 3]) (fn := Try.f85) (c := bdy Try.f85) rfl (fun R3 hR3 => ?_)
    refine ck 5 [] [] fun γ4 => ⟨⟨kt (bdy Try.f85) [1, 1, 0, 1, 0] [], (lsgge_b8 g2), [(g2, 3, lsgge_c5), (γ1 1, 67, (lsgge_c3 y0 y1 y2)), (γ1 0, 67, (lsgge_c4 x0 x1 x2))]⟩, [], [], by kernel_rfl, .nil, ?_⟩
    refine lu 5 (fun I5 hI5 => ?_)
    refine ck 9 [(1, 0)] [] fun γ6 => ⟨⟨ktl [1, 1, 0, 0, 1, 1, 0, 1] (I5 5) (kt (bdy Try.f85) [1, 1, 0, 1, 0] []), upv (lsgge_b8 g2) [(2, .int .i64 1), (5, .int .i64 1), (9, .bool true), (10, .pointer (some ⟨g2, 0, none⟩)), (11, .int .i64 1), (12, .int .i64 1), (13, .int .i64 0), (14, .bool true), (15, .int .i64 1)], [(g2, 3, lsgge_c5), (γ1 1, 67, (lsgge_c3 y0 y1 y2)), (γ1 0, 67, (lsgge_c4 x0 x1 x2))]⟩, [(1, g2)], [(0 : Int) ≤ 0 ∧ 0 < ((3 : Nat) : Int)], by kernel_rfl, (.cons ⟨by omega, by omega⟩ .nil), ?_⟩
    refine dclr hR3 (.int .i64 1) [] [] [true, true, true] .nil ?_
    refine df [17, 18] [] [] [] [] .nil ?_
    refine de (fs := (kt (bdy Try.f68) [1, 0] []).tail) ?_
    refine st0 (fs := (kt (bdy Try.f68) [1, 0] []).tail) ((lsgge_b11 x0 x1 x2 y0 y1 y2 γ1 g2)) [(g2, 3, lsgge_c5), (γ1 1, 67, (lsgge_c3 y0 y1 y2)), (γ1 0, 67, (lsgge_c4 x0 x1 x2))] ?_
    refine rt (.bool false) [] [] (fun W hW => ?_)
    have hg : ltP (x0, x1, x2) (y0, y1, y2) = false := by
      unfold ltP
      exact decide_eq_false (by simp only; omega)
    rw [hg]
    exact ⟨rfl, (hW.old 0 rfl)⟩
  · skip
    refine enter (args := [.agg #[.int .i64 x0, .int .i64 x1, .int .i64 x2], .agg #[.int .i64 y0, .int .i64 y1, .int .i64 y2]]) (fn := Try.f68) rfl (c := bdy Try.f68) (by kernel_rfl) ?_
    refine ck 3 [] [] fun γ1 => ⟨⟨kt (bdy Try.f68) [1, 0] [], (lsggg_b2 x0 x1 x2 y0 y1 y2 γ1), [(γ1 1, 67, (lsggg_c3 y0 y1 y2)), (γ1 0, 67, (lsggg_c4 x0 x1 x2))]⟩, [], [], by kernel_rfl, .nil, ?_⟩
    refine dr [] [] .nil ?_
    refine df [0, 1, 2, 3, 5, 6, 7, 8, 10, 11, 12, 13] [(1, 1), (1, 0), (1, 1), (1, 0), (1, 1), (1, 0)] [] [(1, γ1 0), (1, γ1 1), (1, γ1 0), (1, γ1 1), (1, γ1 0), (1, γ1 1)] [] .nil ?_
    refine dp 4 (fun W hW => cmp_is (r := 1) (cmp_gt h0) W) ?_
    refine dp 9 (fun W hW => cmp_is (r := 1) (cmp_gt h1) W) ?_
    refine dp 14 (fun W hW => cmp_is (r := 1) (cmp_gt h2) W) ?_
    refine dn 15 (v := fun g2 => .slice (some ⟨g2, 0, none⟩) 3 3) (b := fun g2 => (g2, 3, lsggg_c5)) (fun g L => by kernel_rfl) fun g2 => ?_
    refine dcl 16 [] (f := 85) (args := [.slice (some ⟨g2, 0, none⟩) 3 3]) (fn := Try.f85) (c := bdy Try.f85) rfl (fun R3 hR3 => ?_)
    refine ck 5 [] [] fun γ4 => ⟨⟨kt (bdy Try.f85) [1, 1, 0, 1, 0] [], (lsggg_b8 g2), [(g2, 3, lsggg_c5), (γ1 1, 67, (lsggg_c3 y0 y1 y2)), (γ1 0, 67, (lsggg_c4 x0 x1 x2))]⟩, [], [], by kernel_rfl, .nil, ?_⟩
    refine lu 5 (fun I5 hI5 => ?_)
    refine ck 9 [(1, 0)] [] fun γ6 => ⟨⟨ktl [1, 1, 0, 0, 1, 1, 0, 1] (I5 5) (kt (bdy Try.f85) [1, 1, 0, 1, 0] []), upv (lsggg_b8 g2) [(2, .int .i64 1), (5, .int .i64 1), (9, .bool true), (10, .pointer (some ⟨g2, 0, none⟩)), (11, .int .i64 1), (12, .int .i64 1), (13, .int .i64 0), (14, .bool true), (15, .int .i64 1)], [(g2, 3, lsggg_c5), (γ1 1, 67, (lsggg_c3 y0 y1 y2)), (γ1 0, 67, (lsggg_c4 x0 x1 x2))]⟩, [(1, g2)], [(0 : Int) ≤ 0 ∧ 0 < ((3 : Nat) : Int)], by kernel_rfl, (.cons ⟨by omega, by omega⟩ .nil), ?_⟩
    refine dclr hR3 (.int .i64 1) [] [] [true, true, true] .nil ?_
    refine df [17, 18] [] [] [] [] .nil ?_
    refine de (fs := (kt (bdy Try.f68) [1, 0] []).tail) ?_
    refine st0 (fs := (kt (bdy Try.f68) [1, 0] []).tail) ((lsggg_b11 x0 x1 x2 y0 y1 y2 γ1 g2)) [(g2, 3, lsggg_c5), (γ1 1, 67, (lsggg_c3 y0 y1 y2)), (γ1 0, 67, (lsggg_c4 x0 x1 x2))] ?_
    refine rt (.bool false) [] [] (fun W hW => ?_)
    have hg : ltP (x0, x1, x2) (y0, y1, y2) = false := by
      unfold ltP
      exact decide_eq_false (by simp only; omega)
    rw [hg]
    exact ⟨rfl, (hW.old 0 rfl)⟩
theorem less_b {x0 x1 x2 y0 y1 y2 : Int} {b : Bool} (h : ltP (x0, x1, x2) (y0, y1, y2) = b) (w : World) : Calls Try.prog 68 #[.agg #[.int .i64 x0, .int .i64 x1, .int .i64 x2], .agg #[.int .i64 y0, .int .i64 y1, .int .i64 y2]] w fun e w' => e = .returned (.bool b) ∧ Below w.heap.size w w' := by
  subst h
  exact less_raw x0 x1 x2 y0 y1 y2 w
def od0_l0 (x0 : Int) (x1 : Int) (x2 : Int) (y0 : Int) (y1 : Int) (y2 : Int) (γ1 : Nat → Nat) : List Value := [.agg #[.int .i64 x0, .int .i64 x1, .int .i64 x2], .agg #[.int .i64 y0, .int .i64 y1, .int .i64 y2], .pointer (some ⟨γ1 0, 0, none⟩), .pointer (some ⟨γ1 1, 0, none⟩), .int .i64 0, zz, .agg #[.int .i64 x0, .int .i64 x1, .int .i64 x2], .agg #[.int .i64 y0, .int .i64 y1, .int .i64 y2], zz, zz, zz, zz, zz]
def od0_c1 (y0 : Int) (y1 : Int) (y2 : Int) : List Value := [.int .i64 y0, .int .i64 y1, .int .i64 y2]
def od0_c2 (x0 : Int) (x1 : Int) (x2 : Int) : List Value := [.int .i64 x0, .int .i64 x1, .int .i64 x2]
def od1_l0 (x0 : Int) (x1 : Int) (x2 : Int) (y0 : Int) (y1 : Int) (y2 : Int) (γ1 : Nat → Nat) : List Value := [.agg #[.int .i64 x0, .int .i64 x1, .int .i64 x2], .agg #[.int .i64 y0, .int .i64 y1, .int .i64 y2], .pointer (some ⟨γ1 0, 0, none⟩), .pointer (some ⟨γ1 1, 0, none⟩), .int .i64 0, zz, .agg #[.int .i64 x0, .int .i64 x1, .int .i64 x2], .agg #[.int .i64 y0, .int .i64 y1, .int .i64 y2], zz, zz, zz, zz, zz]
def od1_c1 (y0 : Int) (y1 : Int) (y2 : Int) : List Value := [.int .i64 y0, .int .i64 y1, .int .i64 y2]
def od1_c2 (x0 : Int) (x1 : Int) (x2 : Int) : List Value := [.int .i64 x0, .int .i64 x1, .int .i64 x2]
def od2_l0 (x0 : Int) (x1 : Int) (x2 : Int) (y0 : Int) (y1 : Int) (y2 : Int) (γ1 : Nat → Nat) : List Value := [.agg #[.int .i64 x0, .int .i64 x1, .int .i64 x2], .agg #[.int .i64 y0, .int .i64 y1, .int .i64 y2], .pointer (some ⟨γ1 0, 0, none⟩), .pointer (some ⟨γ1 1, 0, none⟩), .int .i64 0, zz, .agg #[.int .i64 x0, .int .i64 x1, .int .i64 x2], .agg #[.int .i64 y0, .int .i64 y1, .int .i64 y2], zz, zz, zz, zz, zz]
def od2_c1 (y0 : Int) (y1 : Int) (y2 : Int) : List Value := [.int .i64 y0, .int .i64 y1, .int .i64 y2]
def od2_c2 (x0 : Int) (x1 : Int) (x2 : Int) : List Value := [.int .i64 x0, .int .i64 x1, .int .i64 x2]
set_option maxHeartbeats 8000000 in
set_option maxRecDepth 100000 in
theorem order_is (x0 x1 x2 y0 y1 y2 : Int) (w : World) : Calls Try.prog 49 #[.agg #[.int .i64 x0, .int .i64 x1, .int .i64 x2], .agg #[.int .i64 y0, .int .i64 y1, .int .i64 y2]] w fun e w' => e = .returned (.int .i64 (ordF (x0, x1, x2) (y0, y1, y2))) ∧ Below w.heap.size w w' := by
  have hq : ltP (x0, x1, x2) (y0, y1, y2) = true ∨ (ltP (x0, x1, x2) (y0, y1, y2) = false ∧ ltP (y0, y1, y2) (x0, x1, x2) = true) ∨ (ltP (x0, x1, x2) (y0, y1, y2) = false ∧ ltP (y0, y1, y2) (x0, x1, x2) = false) := by
    cases ltP (x0, x1, x2) (y0, y1, y2) <;> cases ltP (y0, y1, y2) (x0, x1, x2) <;> simp
  rcases hq with hq | hq | hq
  · skip
    refine enter (args := [.agg #[.int .i64 x0, .int .i64 x1, .int .i64 x2], .agg #[.int .i64 y0, .int .i64 y1, .int .i64 y2]]) (fn := Try.f49) rfl (c := bdy Try.f49) (by kernel_rfl) ?_
    refine ck 5 [(3, 1), (3, 0)] [] fun γ1 => ⟨⟨kt (bdy Try.f49) [1, 0, 0, 0, 2] [], (od0_l0 x0 x1 x2 y0 y1 y2 γ1), [(γ1 1, 67, (od0_c1 y0 y1 y2)), (γ1 0, 67, (od0_c2 x0 x1 x2))]⟩, [(3, γ1 0), (3, γ1 1)], [], by kernel_rfl, .nil, ?_⟩
    refine cp (fun W hW => less_b (b := true) hq W) ?_
    refine ck 2 [] [] fun γ2 => ⟨⟨kt (bdy Try.f49) [1, 0, 0, 1, 0, 1] [], upv (od0_l0 x0 x1 x2 y0 y1 y2 γ1) [(4, .int .i64 (-1)), (5, .bool true), (8, .bool true)], [(γ1 1, 67, (od0_c1 y0 y1 y2)), (γ1 0, 67, (od0_c2 x0 x1 x2))]⟩, [], [], by kernel_rfl, .nil, ?_⟩
    refine rt (.int .i64 (-1)) [] [] (fun W hW => ?_)
    have hg : ordF (x0, x1, x2) (y0, y1, y2) = -1 := by
      unfold ordF
      rw [hq]; rfl
    rw [hg]
    exact ⟨rfl, (hW.old 0 rfl)⟩
  · skip
    refine enter (args := [.agg #[.int .i64 x0, .int .i64 x1, .int .i64 x2], .agg #[.int .i64 y0, .int .i64 y1, .int .i64 y2]]) (fn := Try.f49) rfl (c := bdy Try.f49) (by kernel_rfl) ?_
    refine ck 5 [(3, 1), (3, 0)] [] fun γ1 => ⟨⟨kt (bdy Try.f49) [1, 0, 0, 0, 2] [], (od1_l0 x0 x1 x2 y0 y1 y2 γ1), [(γ1 1, 67, (od1_c1 y0 y1 y2)), (γ1 0, 67, (od1_c2 x0 x1 x2))]⟩, [(3, γ1 0), (3, γ1 1)], [], by kernel_rfl, .nil, ?_⟩
    refine cp (fun W hW => less_b (b := false) hq.1 W) ?_
    refine ck 3 [(3, 0), (3, 1)] [] fun γ2 => ⟨⟨kt (bdy Try.f49) [1, 0, 0, 1, 1, 0, 2] [], upv (od1_l0 x0 x1 x2 y0 y1 y2 γ1) [(5, .bool false), (8, .bool false), (10, .agg #[.int .i64 y0, .int .i64 y1, .int .i64 y2]), (11, .agg #[.int .i64 x0, .int .i64 x1, .int .i64 x2])], [(γ1 1, 67, (od1_c1 y0 y1 y2)), (γ1 0, 67, (od1_c2 x0 x1 x2))]⟩, [(3, γ1 1), (3, γ1 0)], [], by kernel_rfl, .nil, ?_⟩
    refine cp (fun W hW => less_b (b := true) hq.2 W) ?_
    refine ck 2 [] [] fun γ3 => ⟨⟨kt (bdy Try.f49) [1, 0, 0, 1, 1, 1, 0, 1] [], upv (od1_l0 x0 x1 x2 y0 y1 y2 γ1) [(4, .int .i64 1), (5, .bool false), (8, .bool false), (9, .bool true), (10, .agg #[.int .i64 y0, .int .i64 y1, .int .i64 y2]), (11, .agg #[.int .i64 x0, .int .i64 x1, .int .i64 x2]), (12, .bool true)], [(γ1 1, 67, (od1_c1 y0 y1 y2)), (γ1 0, 67, (od1_c2 x0 x1 x2))]⟩, [], [], by kernel_rfl, .nil, ?_⟩
    refine rt (.int .i64 1) [] [] (fun W hW => ?_)
    have hg : ordF (x0, x1, x2) (y0, y1, y2) = 1 := by
      unfold ordF
      rw [hq.1, hq.2]; rfl
    rw [hg]
    exact ⟨rfl, (hW.old 0 rfl)⟩
  · skip
    refine enter (args := [.agg #[.int .i64 x0, .int .i64 x1, .int .i64 x2], .agg #[.int .i64 y0, .int .i64 y1, .int .i64 y2]]) (fn := Try.f49) rfl (c := bdy Try.f49) (by kernel_rfl) ?_
    refine ck 5 [(3, 1), (3, 0)] [] fun γ1 => ⟨⟨kt (bdy Try.f49) [1, 0, 0, 0, 2] [], (od2_l0 x0 x1 x2 y0 y1 y2 γ1), [(γ1 1, 67, (od2_c1 y0 y1 y2)), (γ1 0, 67, (od2_c2 x0 x1 x2))]⟩, [(3, γ1 0), (3, γ1 1)], [], by kernel_rfl, .nil, ?_⟩
    refine cp (fun W hW => less_b (b := false) hq.1 W) ?_
    refine ck 3 [(3, 0), (3, 1)] [] fun γ2 => ⟨⟨kt (bdy Try.f49) [1, 0, 0, 1, 1, 0, 2] [], upv (od2_l0 x0 x1 x2 y0 y1 y2 γ1) [(5, .bool false), (8, .bool false), (10, .agg #[.int .i64 y0, .int .i64 y1, .int .i64 y2]), (11, .agg #[.int .i64 x0, .int .i64 x1, .int .i64 x2])], [(γ1 1, 67, (od2_c1 y0 y1 y2)), (γ1 0, 67, (od2_c2 x0 x1 x2))]⟩, [(3, γ1 1), (3, γ1 0)], [], by kernel_rfl, .nil, ?_⟩
    refine cp (fun W hW => less_b (b := false) hq.2 W) ?_
    refine ck 2 [] [] fun γ3 => ⟨⟨kt (bdy Try.f49) [1, 1, 1] [], upv (od2_l0 x0 x1 x2 y0 y1 y2 γ1) [(5, .bool false), (8, .bool false), (9, .bool false), (10, .agg #[.int .i64 y0, .int .i64 y1, .int .i64 y2]), (11, .agg #[.int .i64 x0, .int .i64 x1, .int .i64 x2]), (12, .bool false)], [(γ1 1, 67, (od2_c1 y0 y1 y2)), (γ1 0, 67, (od2_c2 x0 x1 x2))]⟩, [], [], by kernel_rfl, .nil, ?_⟩
    refine rt (.int .i64 0) [] [] (fun W hW => ?_)
    have hg : ordF (x0, x1, x2) (y0, y1, y2) = 0 := by
      unfold ordF
      rw [hq.1, hq.2]; rfl
    rw [hg]
    exact ⟨rfl, (hW.old 0 rfl)⟩
end Go.Proofs.Ytglkhjjhjhhonaa.Sr
