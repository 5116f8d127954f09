/- New, of both; how many cells. No condition beside those that each theorem names. -/
import Derived.Test.YtbijkflfphppgaaAwP
namespace Go.Proofs.Ytbijkflfphppgaa.Sr
open Go.RowKit Go.Proofs.YtbijkflfphppgaaM.Mach
set_option linter.unusedVariables false
set_option linter.unusedSimpArgs false
def nC (cells : Int) : Nat := if cells < 0 then 0 else if 6 < cells then 6 else cells.toNat
theorem nC_le (cells : Int) : nC cells ≤ 6 := by
  unfold nC
  split
  · omega
  · split <;> omega
abbrev zc : C10 := (0, 0, 0, 0, 0, 0, 0, 0, 0, 0)
def clz (n : Nat) : List C10 := List.replicate n zc
def rlz (n : Nat) : List Int := (List.range n).map fun i => ((i + 1 : Nat) : Int)
theorem clz_len (n : Nat) : (clz n).length = n := by simp [clz]
theorem rlz_len (n : Nat) : (rlz n).length = n := by simp [rlz]
theorem inv_z (n : Nat) : INV (clz n) (rlz n) := by
  refine ⟨fun x hx => ?_, ?_, fun i hi => ?_⟩
  · simp only [rlz, List.mem_map, List.mem_range] at hx
    obtain ⟨a, ha, rfl⟩ := hx
    unfold thr
    rw [clz_len]
    omega
  · unfold rlz
    refine List.nodup_range.map _ fun a b hab => ?_
    omega
  · rw [clz_len] at hi
    have e : (clz n)[i]! = zc := by
      rw [getElem!_pos (clz n) i (by rw [clz_len]; exact hi)]
      simp [clz]
    rw [e]
    refine ⟨fun _ => ?_, fun _ => rfl⟩
    simp only [rlz, List.mem_map, List.mem_range]
    exact ⟨i, hi, by omega⟩
theorem clampn_is (cells : Int) (w : World) : Calls Try.prog 28 #[.int .i64 cells, .int .i64 0, .int .i64 6] w fun e w' => e = .returned (.int .i64 ((nC cells : Nat) : Int)) ∧ Below w.heap.size w w' := by
  have e : clampF cells 0 6 = ((nC cells : Nat) : Int) := by
    unfold clampF nC
    split
    · rfl
    · split
      · rfl
      · omega
  rw [← e]
  exact clamp_is cells 0 6 w
theorem made_c10 (n : Nat) : (madeCells [.int .i64 0, .int .i64 0, .int .i64 0, .int .i64 0, .int .i64 0, .int .i64 0, .int .i64 0, .int .i64 0, .int .i64 0, .int .i64 0].toArray (n * 10)).toList = (clz n).flatMap encT43 := zeros_flat (enc := encT43) zc [.int .i64 0, .int .i64 0, .int .i64 0, .int .i64 0, .int .i64 0, .int .i64 0, .int .i64 0, .int .i64 0, .int .i64 0, .int .i64 0] rfl (by decide) n
theorem clz_s (n : Nat) : clz (n + 1) = clz n ++ [zc] := List.replicate_succ'
theorem rlz_s (n : Nat) : rlz (n + 1) = rlz n ++ [((n + 1 : Nat) : Int)] := by
  unfold rlz
  rw [List.range_succ, List.map_append]
  rfl
def nw_l0 (cells : Int) : List Value := [.int .i64 cells, zz, .pointer none, zz, zz, .int .i64 cells, zz, zz, zz, zz, zz, zz, zz, zz, zz, zz]
def nw_l1 : List Value := [zz, zz, zz, zz, zz, zz, zz, zz, zz, zz, zz, zz, zz, zz, zz]
def nw_b2 (cells : Int) : List Value := (nw_l0 cells) ++ (nw_l1)
def nw_c3 (cells : Int) (g2 : Nat) : List Value := [.slice none 0 0, .bool true, .slice (some ⟨g2, 0, none⟩) (nC cells) (nC cells), .slice none 0 0]
def nw_l4 (cells : Int) (g2 : Nat) (γ3 : Nat → Nat) (z4 : Nat → Value) (i : Nat) : List Value := [.int .i64 cells, zz, .pointer none, .pointer (some ⟨γ3 1, 0, none⟩), z4 4, .int .i64 cells, .int .i64 (((nC cells) : Nat) : Int), .slice (some ⟨g2, 0, none⟩) (nC cells) (nC cells), .agg #[.slice none 0 0, .bool true, .slice (some ⟨g2, 0, none⟩) (nC cells) (nC cells), .slice none 0 0], .pointer (some ⟨γ3 1, 0, none⟩), .pointer (some ⟨γ3 1, 0, none⟩), .pointer (some ⟨γ3 1, 0, none⟩), .pointer (some ⟨γ3 1, 2, none⟩), .slice (some ⟨g2, 0, none⟩) (nC cells) (nC cells), .int .i64 (((nC cells) : Nat) : Int), .int .i64 (i : Int)]
def nw_l5 (z4 : Nat → Value) : List Value := [z4 16, z4 17, z4 18, z4 19, z4 20, z4 21, z4 22, z4 23, z4 24, z4 25, z4 26, z4 27, z4 28, z4 29, zz]
def nw_b6 (cells : Int) (g2 : Nat) (γ3 : Nat → Nat) (z4 : Nat → Value) (i : Nat) : List Value := (nw_l4 cells g2 γ3 z4 i) ++ ((nw_l5 z4))
def nw_c7 (cells : Int) (g2 : Nat) (A : Option Addr) (rl : List Int) (c : Nat) : List Value := [.slice none 0 0, .bool true, .slice (some ⟨g2, 0, none⟩) (nC cells) (nC cells), .slice A rl.length c]
abbrev nw_4X := (Nat → Value) × Nat × (Option Addr) × (List Int) × Nat
def nw_4s (cells : Int) (g2 : Nat) (γ3 : Nat → Nat) (x : nw_4X) : List Value × List Blk := ((nw_b6 cells g2 γ3 (x.1) (x.2.1)), [(γ3 1, 63, (nw_c7 cells g2 (x.2.2.1) (x.2.2.2.1) (x.2.2.2.2)))])
def nw_4k (cells : Int) (g2 : Nat) (γ3 : Nat → Nat) (x : nw_4X) : Prop := (x.2.2.2.1) = rlz (x.2.1) ∧ (x.2.1) ≤ nC cells
def nw_4m (cells : Int) (g2 : Nat) (γ3 : Nat → Nat) (x : nw_4X) : Nat := nC cells - (x.2.1)
def nw_4F (cells : Int) (g2 : Nat) (γ3 : Nat → Nat) (w : World) (x : nw_4X) : List Asrt := [rowA 3 1 (.slice (x.2.2.1) (x.2.2.2.1).length (x.2.2.2.2)) (x.2.2.2.1).length ((x.2.2.2.1).flatMap encT3), rowA 43 10 (.slice (some ⟨g2, 0, none⟩) (nC cells) (nC cells)) (nC cells) ((clz (nC cells)).flatMap encT43), old w]
abbrev nw_4I (cells : Int) (g2 : Nat) (γ3 : Nat → Nat) (w : World) (x : nw_4X) : Act → World → Prop := Inv (nw_4s cells g2 γ3) (nw_4F cells g2 γ3 w) (nw_4k cells g2 γ3) (nw_4m cells g2 γ3) x
def nw_l14 (cells : Int) (g2 : Nat) (γ3 : Nat → Nat) : List Value := [.int .i64 cells, zz, .pointer none, .pointer (some ⟨γ3 1, 0, none⟩), zz, .int .i64 cells, .int .i64 (((nC cells) : Nat) : Int), .slice (some ⟨g2, 0, none⟩) (nC cells) (nC cells), .agg #[.slice none 0 0, .bool true, .slice (some ⟨g2, 0, none⟩) (nC cells) (nC cells), .slice none 0 0], .pointer (some ⟨γ3 1, 0, none⟩), .pointer (some ⟨γ3 1, 0, none⟩), .pointer (some ⟨γ3 1, 0, none⟩), .pointer (some ⟨γ3 1, 2, none⟩), .slice (some ⟨g2, 0, none⟩) (nC cells) (nC cells), .int .i64 (((nC cells) : Nat) : Int), .int .i64 0]
def nw_b15 (cells : Int) (g2 : Nat) (γ3 : Nat → Nat) : List Value := (nw_l14 cells g2 γ3) ++ (nw_l1)
def nw_c16 (i : Nat) : List Value := [.int .i64 ((i + 1 : Nat) : Int)]
def nw_l17 (cells : Int) (g2 : Nat) (γ3 : Nat → Nat) (i : Nat) : List Value := [.int .i64 cells, zz, .pointer none, .pointer (some ⟨γ3 1, 0, none⟩), .int .i64 (i : Int), .int .i64 cells, .int .i64 (((nC cells) : Nat) : Int), .slice (some ⟨g2, 0, none⟩) (nC cells) (nC cells), .agg #[.slice none 0 0, .bool true, .slice (some ⟨g2, 0, none⟩) (nC cells) (nC cells), .slice none 0 0], .pointer (some ⟨γ3 1, 0, none⟩), .pointer (some ⟨γ3 1, 0, none⟩), .pointer (some ⟨γ3 1, 0, none⟩), .pointer (some ⟨γ3 1, 2, none⟩), .slice (some ⟨g2, 0, none⟩) (nC cells) (nC cells), .int .i64 (((nC cells) : Nat) : Int), .int .i64 ((i + 1 : Nat) : Int)]
def nw_l18 (γ3 : Nat → Nat) (i : Nat) (A : Option Addr) (rl : List Int) (c : Nat) (γ5 : Nat → Nat) (A6 : Option Addr) (c6 : Nat) : List Value := [.bool true, .int .i64 (i : Int), .pointer (some ⟨γ3 1, 0, none⟩), .pointer (some ⟨γ3 1, 0, none⟩), .pointer (some ⟨γ3 1, 0, none⟩), .pointer (some ⟨γ3 1, 3, none⟩), .slice A rl.length c, .int .i64 (i : Int), .int .i64 ((i + 1 : Nat) : Int), .slice (some ⟨γ5 10, 0, none⟩) 1 1, .slice A6 ((rl ++ [((i + 1 : Nat) : Int)]).length) c6, .pointer (some ⟨γ3 1, 0, none⟩), .pointer (some ⟨γ3 1, 3, none⟩), .int .i64 ((i + 1 : Nat) : Int), zz]
def nw_b19 (cells : Int) (g2 : Nat) (γ3 : Nat → Nat) (i : Nat) (A : Option Addr) (rl : List Int) (c : Nat) (γ5 : Nat → Nat) (A6 : Option Addr) (c6 : Nat) : List Value := (nw_l17 cells g2 γ3 i) ++ ((nw_l18 γ3 i A rl c γ5 A6 c6))
def nw_c20 (cells : Int) (g2 : Nat) (i : Nat) (rl : List Int) (A6 : Option Addr) (c6 : Nat) : List Value := [.slice none 0 0, .bool true, .slice (some ⟨g2, 0, none⟩) (nC cells) (nC cells), .slice A6 ((rl ++ [((i + 1 : Nat) : Int)]).length) c6]
set_option maxHeartbeats 8000000 in
set_option maxRecDepth 100000 in
theorem new_is (cells : Int) (w : World) : Calls Try.prog 9 #[.int .i64 cells] w fun e W => ∃ x : Nat × Nat × Option Addr × Nat, e = .returned (.pointer (some ⟨x.1, 0, none⟩)) ∧ Fresh w W [blkA (x.1, 63, [.slice none 0 0, .bool true, .slice (some ⟨x.2.1, 0, none⟩) (nC cells) (nC cells), .slice x.2.2.1 (rlz (nC cells)).length x.2.2.2]), rowA 43 10 (.slice (some ⟨x.2.1, 0, none⟩) (nC cells) (nC cells)) (nC cells) ((clz (nC cells)).flatMap encT43), rdA (.slice x.2.2.1 (rlz (nC cells)).length x.2.2.2) 1 encT3 (rlz (nC cells))] := by
  have hn6 := nC_le cells
  refine enter (args := [.int .i64 cells]) (fn := Try.f9) rfl (c := bdy Try.f9) (by kernel_rfl) ?_
  refine ck 2 [] [] fun γ1 => ⟨⟨kt (bdy Try.f9) [1, 0, 1] [], (nw_b2 cells), []⟩, [], [], by kernel_rfl, .nil, ?_⟩
  refine cp (fun W hW => clampn_is cells W) ?_
  refine mks (kl := .i64) (kc := .i64) (t := 26) (e := 43) (bytes := 80) (sz := 10) (z := [.int .i64 0, .int .i64 0, .int .i64 0, .int .i64 0, .int .i64 0, .int .i64 0, .int .i64 0, .int .i64 0, .int .i64 0, .int .i64 0]) (x := (((nC cells) : Nat) : Int)) (y := (((nC cells) : Nat) : Int)) (nC cells) rfl rfl (by first | omega | (simp only [maxLen]; omega)) (by first | omega | (simp only [maxLen]; omega)) ((clz (nC cells)).flatMap encT43) (made_c10 _) (fun g2 => ?_)
  refine torow 0 (g := g2) (e := 43) (cs := (clz (nC cells)).flatMap encT43) (n := nC cells) (sz := 10) ((clz (nC cells)).flatMap encT43) (by rw [flat_len encT43_len, clz_len]) (by simp only [maxLen]; omega) rfl ?_
  refine ck 9 [(1, 0)] [] fun γ3 => ⟨⟨kt (bdy Try.f9) [1, 1, 0, 1, 0] [], upv (nw_b2 cells) [(3, .pointer (some ⟨γ3 1, 0, none⟩)), (6, .int .i64 (((nC cells) : Nat) : Int)), (7, .slice (some ⟨g2, 0, none⟩) (nC cells) (nC cells)), (8, .agg #[.slice none 0 0, .bool true, .slice (some ⟨g2, 0, none⟩) (nC cells) (nC cells), .slice none 0 0]), (9, .pointer (some ⟨γ3 1, 0, none⟩)), (10, .pointer (some ⟨γ3 1, 0, none⟩)), (11, .pointer (some ⟨γ3 1, 0, none⟩)), (12, .pointer (some ⟨γ3 1, 2, none⟩)), (13, .slice (some ⟨g2, 0, none⟩) (nC cells) (nC cells)), (14, .int .i64 (((nC cells) : Nat) : Int)), (15, .int .i64 0)], [(γ3 1, 63, (nw_c3 cells g2))]⟩, [(1, γ3 1)], [], by kernel_rfl, .nil, ?_⟩
  refine nilrow 3 1 ?_
  refine lp (nw_4s cells g2 γ3) (nw_4F cells g2 γ3 w) (nw_4k cells g2 γ3) (nw_4m cells g2 γ3) ((fun mm => ((nw_b15 cells g2 γ3)).getD mm zz, 0, none, ([] : List Int), 0)) (kt (bdy Try.f9) [1, 1, 0, 1, 0] []) ⟨rfl, Nat.zero_le _⟩ rfl ?_
  rintro ⟨z4, i, A, rl, c⟩ hok
  obtain ⟨hrl, hi⟩ : rl = rlz i ∧ i ≤ nC cells := hok
  refine st1 (ktl [] (nw_4I cells g2 γ3 w (z4, i, A, rl, c)) (kt (bdy Try.f9) [1, 1, 0, 1, 0] [])) ((nw_b6 cells g2 γ3 z4 i)) [(γ3 1, 63, (nw_c7 cells g2 A rl c))] ?_
  have hn6 := nC_le cells
  have hll : rl.length = i := by rw [hrl, rlz_len]
  by_cases hin : i < nC cells
  · skip
    refine ck 11 [(1, 0)] [(0, .bool true), (9, .int .i64 ((i + 1 : Nat) : Int))] fun γ5 => ⟨⟨ktl [1, 1, 0, 0, 1, 8] (nw_4I cells g2 γ3 w (z4, i, A, rl, c)) (kt (bdy Try.f9) [1, 1, 0, 1, 0] []), upv (nw_b6 cells g2 γ3 z4 i) [(4, .int .i64 (i : Int)), (16, .bool true), (17, .int .i64 (i : Int)), (18, .pointer (some ⟨γ3 1, 0, none⟩)), (19, .pointer (some ⟨γ3 1, 0, none⟩)), (20, .pointer (some ⟨γ3 1, 0, none⟩)), (21, .pointer (some ⟨γ3 1, 3, none⟩)), (22, .slice A rl.length c), (23, .int .i64 (i : Int)), (24, .int .i64 ((i + 1 : Nat) : Int)), (25, .slice (some ⟨γ5 10, 0, none⟩) 1 1)], [(γ5 10, 3, (nw_c16 i)), (γ3 1, 63, (nw_c7 cells g2 A rl c))]⟩, [(1, γ3 1)], [Value.bool (decide (((i : Int) : Int) < (((nC cells) : Nat) : Int))) = .bool true, Value.int .i64 (IntKind.wrap .i64 ((i : Int) + 1)) = .int .i64 ((i + 1 : Nat) : Int)], by kernel_rfl, (.cons (cbT (by omega)) (.cons (congrArg (Value.int .i64) (by rw [IntKind.wrap_i64]; omega)) .nil)), ?_⟩
    refine ap (m := 1) (c := 1) (g := (γ5 10)) (T := 3) (cs := [.int .i64 ((i + 1 : Nat) : Int)]) 0 0 8 rfl (by first | omega | (simp only [List.length_append, List.length_cons, List.length_nil]; omega)) (by simp only [maxLen]; first | omega | (simp only [List.length_append, List.length_cons, List.length_nil]; omega)) ((rl ++ [((i + 1 : Nat) : Int)]).length) ((rl ++ [((i + 1 : Nat) : Int)]).flatMap encT3) (by simp) (by simp [encT3]) fun A6 c6 => ?_
    refine ck 5 [(1, 1)] [(3, .int .i64 ((i + 1 : Nat) : Int))] fun γ7 => ⟨⟨ktp (nw_4I cells g2 γ3 w (z4, i, A, rl, c)) (kt (bdy Try.f9) [1, 1, 0, 1, 0] []), (nw_b19 cells g2 γ3 i A rl c γ5 A6 c6), [(γ5 10, 3, (nw_c16 i)), (γ3 1, 63, (nw_c20 cells g2 i rl A6 c6))]⟩, [(1, γ3 1)], [Value.int .i64 (IntKind.wrap .i64 ((i : Int) + 1)) = .int .i64 ((i + 1 : Nat) : Int)], by kernel_rfl, (.cons (congrArg (Value.int .i64) (by rw [IntKind.wrap_i64]; omega)) .nil), ?_⟩
    exact nx (st := nw_4s cells g2 γ3) (F' := nw_4F cells g2 γ3 w) (ok := nw_4k cells g2 γ3) (μ := nw_4m cells g2 γ3) (x := (z4, i, A, rl, c)) (fun mm => ((nw_b19 cells g2 γ3 i A rl c γ5 A6 c6)).getD mm zz, (i + 1), A6, rl ++ [((i + 1 : Nat) : Int)], c6) (show (rl ++ [((i + 1 : Nat) : Int)]) = rlz (i + 1) ∧ (i + 1) ≤ nC cells from ⟨by rw [rlz_s, ← hrl], by omega⟩) (by show _ < _; simp only [nw_4m]; omega) 1 0 rfl
  · skip
    have hq : i = nC cells := by omega
    refine ck 3 [] [(0, .bool false)] fun γ8 => ⟨⟨kt (bdy Try.f9) [1, 1, 1, 1] [], upv (nw_b6 cells g2 γ3 z4 i) [(2, .pointer (some ⟨γ3 1, 0, none⟩)), (16, .bool false), (30, .pointer (some ⟨γ3 1, 0, none⟩))], [(γ3 1, 63, (nw_c7 cells g2 A rl c))]⟩, [], [Value.bool (decide (((i : Int) : Int) < (((nC cells) : Nat) : Int))) = .bool false], by kernel_rfl, (.cons (cbF (by omega)) .nil), ?_⟩
    refine fz 0 encT3_len rfl (by first | rfl | simp) ?_
    refine rtL (.pointer (some ⟨γ3 1, 0, none⟩)) [] [] ([(γ3 1, 63, (nw_c7 cells g2 A rl c))]) (fun W hW => ?_)
    obtain rfl : rl = rlz (nC cells) := by rw [hrl, hq]
    exact ⟨(γ3 1, g2, A, c), rfl, Fresh.of (R := [blkA (γ3 1, 63, (nw_c7 cells g2 A (rlz (nC cells)) c)), rowA 43 10 (.slice (some ⟨g2, 0, none⟩) (nC cells) (nC cells)) (nC cells) ((clz (nC cells)).flatMap encT43), rdA (.slice A (rlz (nC cells)).length c) 1 encT3 (rlz (nC cells))]) (hW.ix [0, 2, 1, 3] (by decide) rfl) (List.Sublist.refl _)⟩
theorem nC_q {cells : Int} {i : Nat} (hi : i ≤ nC cells) : (((i + 1 : Nat) : Int) ≤ cells ∧ ((i + 1 : Nat) : Int) ≤ 6 ∧ i < nC cells) ∨ (((i + 1 : Nat) : Int) ≤ cells ∧ ¬ ((i + 1 : Nat) : Int) ≤ 6 ∧ i = nC cells) ∨ (¬ ((i + 1 : Nat) : Int) ≤ cells ∧ i = nC cells) := by
  unfold nC at *
  split at hi
  · rename_i h
    rw [if_pos h]
    omega
  · rename_i h
    rw [if_neg h]
    split at hi
    · rename_i h2
      rw [if_pos h2]
      omega
    · rename_i h2
      rw [if_neg h2]
      omega
def nr_l0 (cells : Int) (γ1 : Nat → Nat) : List Value := [.int .i64 cells, zz, .pointer (some ⟨γ1 0, 0, none⟩), .pointer (some ⟨γ1 1, 0, none⟩), .int .i64 1, zz, zz, zz, zz, zz, zz, zz, zz, zz, zz, zz]
def nr_l1 : List Value := [zz, zz, zz, zz, zz, zz, zz, zz, zz, zz, zz]
def nr_b2 (cells : Int) (γ1 : Nat → Nat) : List Value := (nr_l0 cells γ1) ++ (nr_l1)
def nr_c3 : List Value := [.slice none 0 0, .slice none 0 0]
def nr_l4 (cells : Int) (γ1 : Nat → Nat) (z2 : Nat → Value) (i : Nat) : List Value := [.int .i64 cells, zz, .pointer (some ⟨γ1 0, 0, none⟩), .pointer (some ⟨γ1 1, 0, none⟩), .int .i64 ((i + 1 : Nat) : Int), z2 5, z2 6, z2 7, z2 8, z2 9, z2 10, z2 11, z2 12, z2 13, z2 14, z2 15]
def nr_l5 (z2 : Nat → Value) : List Value := [z2 16, z2 17, z2 18, z2 19, z2 20, z2 21, z2 22, z2 23, z2 24, z2 25, zz]
def nr_b6 (cells : Int) (γ1 : Nat → Nat) (z2 : Nat → Value) (i : Nat) : List Value := (nr_l4 cells γ1 z2 i) ++ ((nr_l5 z2))
def nr_c7 (Ac : Option Addr) (zl : List C10) (kc : Nat) (A : Option Addr) (rl : List Int) (c : Nat) : List Value := [.slice Ac zl.length kc, .slice A rl.length c]
abbrev nr_2X := (Nat → Value) × Nat × (Option Addr) × (List C10) × Nat × (Option Addr) × (List Int) × Nat
def nr_2s (cells : Int) (γ1 : Nat → Nat) (x : nr_2X) : List Value × List Blk := ((nr_b6 cells γ1 (x.1) (x.2.1)), [(γ1 1, 29, (nr_c7 (x.2.2.1) (x.2.2.2.1) (x.2.2.2.2.1) (x.2.2.2.2.2.1) (x.2.2.2.2.2.2.1) (x.2.2.2.2.2.2.2))), (γ1 0, 29, nr_c3)])
def nr_2k (cells : Int) (γ1 : Nat → Nat) (x : nr_2X) : Prop := (x.2.2.2.1) = clz (x.2.1) ∧ (x.2.2.2.2.2.2.1) = rlz (x.2.1) ∧ (x.2.1) ≤ nC cells
def nr_2m (cells : Int) (γ1 : Nat → Nat) (x : nr_2X) : Nat := nC cells - (x.2.1)
def nr_2F (cells : Int) (γ1 : Nat → Nat) (w : World) (x : nr_2X) : List Asrt := [rowA 43 10 (.slice (x.2.2.1) (x.2.2.2.1).length (x.2.2.2.2.1)) (x.2.2.2.1).length ((x.2.2.2.1).flatMap encT43), rowA 3 1 (.slice (x.2.2.2.2.2.1) (x.2.2.2.2.2.2.1).length (x.2.2.2.2.2.2.2)) (x.2.2.2.2.2.2.1).length ((x.2.2.2.2.2.2.1).flatMap encT3), old w]
abbrev nr_2I (cells : Int) (γ1 : Nat → Nat) (w : World) (x : nr_2X) : Act → World → Prop := Inv (nr_2s cells γ1) (nr_2F cells γ1 w) (nr_2k cells γ1) (nr_2m cells γ1) x
def nr_c14 : List Value := [.int .i64 0, .int .i64 0, .int .i64 0, .int .i64 0, .int .i64 0, .int .i64 0, .int .i64 0, .int .i64 0, .int .i64 0, .int .i64 0]
def nr_l15 (cells : Int) (γ1 : Nat → Nat) (z2 : Nat → Value) (i : Nat) (Ac : Option Addr) (zl : List C10) (kc : Nat) : List Value := [.int .i64 cells, zz, .pointer (some ⟨γ1 0, 0, none⟩), .pointer (some ⟨γ1 1, 0, none⟩), .int .i64 ((i + 1 : Nat) : Int), .int .i64 ((i + 1 : Nat) : Int), .int .i64 cells, .bool true, .bool true, .int .i64 ((i + 1 : Nat) : Int), .bool true, .bool true, z2 12, z2 13, .pointer (some ⟨γ1 1, 0, none⟩), .slice Ac zl.length kc]
def nr_l16 (γ1 : Nat → Nat) (z2 : Nat → Value) (i : Nat) (zl : List C10) (A : Option Addr) (rl : List Int) (c : Nat) (γ3 : Nat → Nat) (A4 : Option Addr) (c4 : Nat) (γ5 : Nat → Nat) : List Value := [.agg ⟨nr_c14⟩, .slice (some ⟨γ3 10, 0, none⟩) 1 1, .slice A4 ((zl ++ [(0, 0, 0, 0, 0, 0, 0, 0, 0, 0)]).length) c4, .pointer (some ⟨γ1 1, 0, none⟩), .pointer (some ⟨γ1 1, 1, none⟩), .slice A rl.length c, .int .i64 ((i + 1 : Nat) : Int), .slice (some ⟨γ5 5, 0, none⟩) 1 1, z2 24, z2 25, zz]
def nr_b17 (cells : Int) (γ1 : Nat → Nat) (z2 : Nat → Value) (i : Nat) (Ac : Option Addr) (zl : List C10) (kc : Nat) (A : Option Addr) (rl : List Int) (c : Nat) (γ3 : Nat → Nat) (A4 : Option Addr) (c4 : Nat) (γ5 : Nat → Nat) : List Value := (nr_l15 cells γ1 z2 i Ac zl kc) ++ ((nr_l16 γ1 z2 i zl A rl c γ3 A4 c4 γ5))
def nr_c18 (i : Nat) : List Value := [.int .i64 ((i + 1 : Nat) : Int)]
def nr_c19 (zl : List C10) (A : Option Addr) (rl : List Int) (c : Nat) (A4 : Option Addr) (c4 : Nat) : List Value := [.slice A4 ((zl ++ [(0, 0, 0, 0, 0, 0, 0, 0, 0, 0)]).length) c4, .slice A rl.length c]
def nr_c20 (i : Nat) (zl : List C10) (rl : List Int) (A4 : Option Addr) (c4 : Nat) (A6 : Option Addr) (c6 : Nat) : List Value := [.slice A4 ((zl ++ [(0, 0, 0, 0, 0, 0, 0, 0, 0, 0)]).length) c4, .slice A6 ((rl ++ [((i + 1 : Nat) : Int)]).length) c6]
set_option maxHeartbeats 8000000 in
set_option maxRecDepth 100000 in
theorem rnew_is (cells : Int) (w : World) : Calls Try.prog 10 #[.int .i64 cells] w fun e W => ∃ x : (Option Addr × Nat) × Option Addr × Nat, e = .returned (.agg #[.slice x.1.1 (nC cells) x.1.2, .slice x.2.1 (rlz (nC cells)).length x.2.2]) ∧ Fresh w W [rdA (.slice x.1.1 (nC cells) x.1.2) 10 encT43 (clz (nC cells)), rdA (.slice x.2.1 (rlz (nC cells)).length x.2.2) 1 encT3 (rlz (nC cells))] := by
  refine enter (args := [.int .i64 cells]) (fn := Try.f10) rfl (c := bdy Try.f10) (by kernel_rfl) ?_
  refine ck 3 [] [] fun γ1 => ⟨⟨kt (bdy Try.f10) [1, 1, 0, 1, 0] [], (nr_b2 cells γ1), [(γ1 1, 29, nr_c3), (γ1 0, 29, nr_c3)]⟩, [], [], by kernel_rfl, .nil, ?_⟩
  refine nilrow 3 1 ?_
  refine nilrow 43 10 ?_
  refine lp (nr_2s cells γ1) (nr_2F cells γ1 w) (nr_2k cells γ1) (nr_2m cells γ1) ((fun mm => ((nr_b2 cells γ1)).getD mm zz, 0, none, ([] : List C10), 0, none, ([] : List Int), 0)) (kt (bdy Try.f10) [1, 1, 0, 1, 0] []) ⟨rfl, rfl, Nat.zero_le _⟩ rfl ?_
  rintro ⟨z2, i, Ac, zl, kc, A, rl, c⟩ hok
  obtain ⟨hzl, hrl, hi⟩ : zl = clz i ∧ rl = rlz i ∧ i ≤ nC cells := hok
  refine st1 (ktl [] (nr_2I cells γ1 w (z2, i, Ac, zl, kc, A, rl, c)) (kt (bdy Try.f10) [1, 1, 0, 1, 0] [])) ((nr_b6 cells γ1 z2 i)) [(γ1 1, 29, (nr_c7 Ac zl kc A rl c)), (γ1 0, 29, nr_c3)] ?_
  have hn6 := nC_le cells
  have hll : rl.length = i := by rw [hrl, rlz_len]
  have hlz : zl.length = i := by rw [hzl, clz_len]
  have hq : (((i + 1 : Nat) : Int) ≤ cells ∧ ((i + 1 : Nat) : Int) ≤ 6 ∧ i < nC cells) ∨ (((i + 1 : Nat) : Int) ≤ cells ∧ ¬ ((i + 1 : Nat) : Int) ≤ 6 ∧ i = nC cells) ∨ (¬ ((i + 1 : Nat) : Int) ≤ cells ∧ i = nC cells) := nC_q hi
  rcases hq with ⟨hq1, hq2, hq3⟩ | ⟨hq1, hq2, hq⟩ | ⟨hq1, hq⟩
  · skip
    refine ck 11 [(1, 0)] [(2, .bool true), (5, .bool true)] fun γ3 => ⟨⟨ktl [1, 0, 0, 0, 4] (nr_2I cells γ1 w (z2, i, Ac, zl, kc, A, rl, c)) (kt (bdy Try.f10) [1, 1, 0, 1, 0] []), upv (nr_b6 cells γ1 z2 i) [(5, .int .i64 ((i + 1 : Nat) : Int)), (6, .int .i64 cells), (7, .bool true), (8, .bool true), (9, .int .i64 ((i + 1 : Nat) : Int)), (10, .bool true), (11, .bool true), (14, .pointer (some ⟨γ1 1, 0, none⟩)), (15, .slice Ac zl.length kc), (16, .agg ⟨nr_c14⟩), (17, .slice (some ⟨γ3 10, 0, none⟩) 1 1)], [(γ3 10, 43, nr_c14), (γ1 1, 29, (nr_c7 Ac zl kc A rl c)), (γ1 0, 29, nr_c3)]⟩, [(1, γ1 1)], [Value.bool (decide ((((i + 1 : Nat) : Int) : Int) ≤ cells)) = .bool true, Value.bool (decide ((((i + 1 : Nat) : Int) : Int) ≤ 6)) = .bool true], by kernel_rfl, (.cons (cbT (by omega)) (.cons (cbT (by omega)) .nil)), ?_⟩
    refine ap (m := 1) (c := 1) (g := (γ3 10)) (T := 43) (cs := [.int .i64 0, .int .i64 0, .int .i64 0, .int .i64 0, .int .i64 0, .int .i64 0, .int .i64 0, .int .i64 0, .int .i64 0, .int .i64 0]) 0 0 80 rfl (by first | omega | (simp only [List.length_append, List.length_cons, List.length_nil]; omega)) (by simp only [maxLen]; first | omega | (simp only [List.length_append, List.length_cons, List.length_nil]; omega)) ((zl ++ [(0, 0, 0, 0, 0, 0, 0, 0, 0, 0)]).length) ((zl ++ [(0, 0, 0, 0, 0, 0, 0, 0, 0, 0)]).flatMap encT43) (by simp) (by simp [encT43]) fun A4 c4 => ?_
    refine ck 6 [(2, 1)] [] fun γ5 => ⟨⟨ktl [1, 0, 0, 1, 4] (nr_2I cells γ1 w (z2, i, Ac, zl, kc, A, rl, c)) (kt (bdy Try.f10) [1, 1, 0, 1, 0] []), (nr_b17 cells γ1 z2 i Ac zl kc A rl c γ3 A4 c4 γ5), [(γ5 5, 3, (nr_c18 i)), (γ3 10, 43, nr_c14), (γ1 1, 29, (nr_c19 zl A rl c A4 c4)), (γ1 0, 29, nr_c3)]⟩, [(2, γ1 1)], [], by kernel_rfl, .nil, ?_⟩
    refine ap (m := 1) (c := 1) (g := (γ5 5)) (T := 3) (cs := [.int .i64 ((i + 1 : Nat) : Int)]) 1 0 8 rfl (by first | omega | (simp only [List.length_append, List.length_cons, List.length_nil]; omega)) (by simp only [maxLen]; first | omega | (simp only [List.length_append, List.length_cons, List.length_nil]; omega)) ((rl ++ [((i + 1 : Nat) : Int)]).length) ((rl ++ [((i + 1 : Nat) : Int)]).flatMap encT3) (by simp) (by simp [encT3]) fun A6 c6 => ?_
    refine ck 5 [(1, 2)] [(3, .int .i64 ((i + 1 + 1 : Nat) : Int))] fun γ7 => ⟨⟨ktp (nr_2I cells γ1 w (z2, i, Ac, zl, kc, A, rl, c)) (kt (bdy Try.f10) [1, 1, 0, 1, 0] []), upv (nr_b17 cells γ1 z2 i Ac zl kc A rl c γ3 A4 c4 γ5) [(4, .int .i64 ((i + 1 + 1 : Nat) : Int)), (12, .int .i64 ((i + 1 : Nat) : Int)), (13, .int .i64 ((i + 1 + 1 : Nat) : Int)), (24, .slice A6 ((rl ++ [((i + 1 : Nat) : Int)]).length) c6), (25, .pointer (some ⟨γ1 1, 1, none⟩))], [(γ5 5, 3, (nr_c18 i)), (γ3 10, 43, nr_c14), (γ1 1, 29, (nr_c20 i zl rl A4 c4 A6 c6)), (γ1 0, 29, nr_c3)]⟩, [(1, γ1 1)], [Value.int .i64 (IntKind.wrap .i64 (((i + 1 : Nat) : Int) + 1)) = .int .i64 ((i + 1 + 1 : Nat) : Int)], by kernel_rfl, (.cons (congrArg (Value.int .i64) (by rw [IntKind.wrap_i64]; omega)) .nil), ?_⟩
    exact nx (st := nr_2s cells γ1) (F' := nr_2F cells γ1 w) (ok := nr_2k cells γ1) (μ := nr_2m cells γ1) (x := (z2, i, Ac, zl, kc, A, rl, c)) (fun mm => (upv (nr_b17 cells γ1 z2 i Ac zl kc A rl c γ3 A4 c4 γ5) [(4, .int .i64 ((i + 1 + 1 : Nat) : Int)), (12, .int .i64 ((i + 1 : Nat) : Int)), (13, .int .i64 ((i + 1 + 1 : Nat) : Int)), (24, .slice A6 ((rl ++ [((i + 1 : Nat) : Int)]).length) c6), (25, .pointer (some ⟨γ1 1, 1, none⟩))]).getD mm zz, (i + 1), A4, zl ++ [(0, 0, 0, 0, 0, 0, 0, 0, 0, 0)], c4, A6, rl ++ [((i + 1 : Nat) : Int)], c6) (show (zl ++ [(0, 0, 0, 0, 0, 0, 0, 0, 0, 0)]) = clz (i + 1) ∧ (rl ++ [((i + 1 : Nat) : Int)]) = rlz (i + 1) ∧ (i + 1) ≤ nC cells from ⟨by rw [clz_s, ← hzl], by rw [rlz_s, ← hrl], by omega⟩) (by show _ < _; simp only [nr_2m]; omega) 2 0 rfl
  · skip
    refine ck 9 [(2, 0), (2, 1)] [(2, .bool true), (5, .bool false)] fun γ8 => ⟨⟨kt (bdy Try.f10) [1, 1, 1, 1] [], upv (nr_b6 cells γ1 z2 i) [(5, .int .i64 ((i + 1 : Nat) : Int)), (6, .int .i64 cells), (7, .bool true), (8, .bool true), (9, .int .i64 ((i + 1 : Nat) : Int)), (10, .bool false), (11, .bool false), (26, .agg #[.slice Ac zl.length kc, .slice A rl.length c])], [(γ1 1, 29, (nr_c7 Ac zl kc A rl c)), (γ1 0, 29, (nr_c7 Ac zl kc A rl c))]⟩, [(2, γ1 1), (2, γ1 0)], [Value.bool (decide ((((i + 1 : Nat) : Int) : Int) ≤ cells)) = .bool true, Value.bool (decide ((((i + 1 : Nat) : Int) : Int) ≤ 6)) = .bool false], by kernel_rfl, (.cons (cbT (by omega)) (.cons (cbF (by omega)) .nil)), ?_⟩
    refine fz 0 encT43_len rfl (by first | rfl | simp) ?_
    refine fz 1 encT3_len rfl (by first | rfl | simp) ?_
    refine rtL (.agg #[.slice Ac zl.length kc, .slice A rl.length c]) [(2, 1)] [(2, γ1 0)] ([(γ1 1, 29, (nr_c7 Ac zl kc A rl c)), (γ1 0, 29, (nr_c7 Ac zl kc A rl c))]) (fun W hW => ?_)
    obtain rfl : rl = rlz (nC cells) := by rw [hrl, hq]
    obtain rfl : zl = clz (nC cells) := by rw [hzl, hq]
    have h8 : HoldR W [rdA (.slice Ac (clz (nC cells)).length kc) 10 encT43 (clz (nC cells)), rdA (.slice A (rlz (nC cells)).length c) 1 encT3 (rlz (nC cells)), old w] := hW.ix [2, 3, 4] (by decide) rfl
    have h9 := Fresh.of (R := [rdA (.slice Ac (clz (nC cells)).length kc) 10 encT43 (clz (nC cells)), rdA (.slice A (rlz (nC cells)).length c) 1 encT3 (rlz (nC cells))]) h8 (List.Sublist.refl _)
    rw [show (clz (nC cells)).length = nC cells from clz_len _] at h9 ⊢
    exact ⟨((Ac, kc), A, c), rfl, h9⟩
  · skip
    refine ck 9 [(2, 0), (2, 1)] [(2, .bool false)] fun γ9 => ⟨⟨kt (bdy Try.f10) [1, 1, 1, 1] [], upv (nr_b6 cells γ1 z2 i) [(5, .int .i64 ((i + 1 : Nat) : Int)), (6, .int .i64 cells), (7, .bool false), (8, .bool false), (9, zz), (10, zz), (11, .bool false), (26, .agg #[.slice Ac zl.length kc, .slice A rl.length c])], [(γ1 1, 29, (nr_c7 Ac zl kc A rl c)), (γ1 0, 29, (nr_c7 Ac zl kc A rl c))]⟩, [(2, γ1 1), (2, γ1 0)], [Value.bool (decide ((((i + 1 : Nat) : Int) : Int) ≤ cells)) = .bool false], by kernel_rfl, (.cons (cbF (by omega)) .nil), ?_⟩
    refine fz 0 encT43_len rfl (by first | rfl | simp) ?_
    refine fz 1 encT3_len rfl (by first | rfl | simp) ?_
    refine rtL (.agg #[.slice Ac zl.length kc, .slice A rl.length c]) [(2, 1)] [(2, γ1 0)] ([(γ1 1, 29, (nr_c7 Ac zl kc A rl c)), (γ1 0, 29, (nr_c7 Ac zl kc A rl c))]) (fun W hW => ?_)
    obtain rfl : rl = rlz (nC cells) := by rw [hrl, hq]
    obtain rfl : zl = clz (nC cells) := by rw [hzl, hq]
    have h8 : HoldR W [rdA (.slice Ac (clz (nC cells)).length kc) 10 encT43 (clz (nC cells)), rdA (.slice A (rlz (nC cells)).length c) 1 encT3 (rlz (nC cells)), old w] := hW.ix [2, 3, 4] (by decide) rfl
    have h9 := Fresh.of (R := [rdA (.slice Ac (clz (nC cells)).length kc) 10 encT43 (clz (nC cells)), rdA (.slice A (rlz (nC cells)).length c) 1 encT3 (rlz (nC cells))]) h8 (List.Sublist.refl _)
    rw [show (clz (nC cells)).length = nC cells from clz_len _] at h9 ⊢
    exact ⟨((Ac, kc), A, c), rfl, h9⟩
def ne0_l0 (cells : Int) : List Value := [.int .i64 cells, .int .i64 0, .int .i64 6, zz, zz, zz, .int .i64 0, .int .i64 cells, .int .i64 0, .bool true, .int .i64 0, zz, zz, zz, zz, zz]
def ne1_l0 (cells : Int) : List Value := [.int .i64 cells, .int .i64 0, .int .i64 6, zz, zz, zz, .int .i64 6, .int .i64 cells, .int .i64 0, .bool false, zz, .int .i64 cells, .int .i64 6, .bool true, .int .i64 6, zz]
def ne2_l0 (cells : Int) : List Value := [.int .i64 cells, .int .i64 0, .int .i64 6, zz, zz, zz, .int .i64 cells, .int .i64 cells, .int .i64 0, .bool false, zz, .int .i64 cells, .int .i64 6, .bool false, zz, .int .i64 cells]
set_option maxHeartbeats 8000000 in
set_option maxRecDepth 100000 in
theorem near_is (cells : Int) (w : World) : Calls Try.prog 14 #[.int .i64 cells, .int .i64 0, .int .i64 6] w fun e w' => e = .returned (.int .i64 ((nC cells : Nat) : Int)) ∧ Below w.heap.size w w' := by
  have hc : cells < 0 ∨ 6 < cells ∨ (¬ cells < 0 ∧ ¬ 6 < cells) := by omega
  rcases hc with hc | hc | ⟨hc, hc2⟩
  · skip
    refine enter (args := [.int .i64 cells, .int .i64 0, .int .i64 6]) (fn := Try.f14) rfl (c := bdy Try.f14) (by kernel_rfl) ?_
    refine ck 6 [] [(3, .bool true)] fun γ1 => ⟨⟨kt (bdy Try.f14) [1, 0, 1, 0, 1] [], (ne0_l0 cells), []⟩, [], [Value.bool (decide ((cells : Int) < 0)) = .bool true], by kernel_rfl, (.cons (cbT (by omega)) .nil), ?_⟩
    refine rt (.int .i64 0) [] [] (fun W hW => ?_)
    have e : ((nC cells : Nat) : Int) = 0 := by unfold nC; rw [if_pos hc]; rfl
    rw [e]
    exact ⟨rfl, (hW.old 0 rfl)⟩
  · skip
    refine enter (args := [.int .i64 cells, .int .i64 0, .int .i64 6]) (fn := Try.f14) rfl (c := bdy Try.f14) (by kernel_rfl) ?_
    refine ck 9 [] [(3, .bool false), (6, .bool true)] fun γ1 => ⟨⟨kt (bdy Try.f14) [1, 1, 0, 1, 0, 1] [], (ne1_l0 cells), []⟩, [], [Value.bool (decide ((cells : Int) < 0)) = .bool false, Value.bool (decide ((cells : Int) > 6)) = .bool true], by kernel_rfl, (.cons (cbF (by omega)) (.cons (cbT (by omega)) .nil)), ?_⟩
    refine rt (.int .i64 6) [] [] (fun W hW => ?_)
    have e : ((nC cells : Nat) : Int) = 6 := by unfold nC; rw [if_neg (by omega), if_pos hc]; rfl
    rw [e]
    exact ⟨rfl, (hW.old 0 rfl)⟩
  · skip
    refine enter (args := [.int .i64 cells, .int .i64 0, .int .i64 6]) (fn := Try.f14) rfl (c := bdy Try.f14) (by kernel_rfl) ?_
    refine ck 9 [] [(3, .bool false), (6, .bool false)] fun γ1 => ⟨⟨kt (bdy Try.f14) [1, 1, 1, 1] [], (ne2_l0 cells), []⟩, [], [Value.bool (decide ((cells : Int) < 0)) = .bool false, Value.bool (decide ((cells : Int) > 6)) = .bool false], by kernel_rfl, (.cons (cbF (by omega)) (.cons (cbF (by omega)) .nil)), ?_⟩
    refine rt (.int .i64 cells) [] [] (fun W hW => ?_)
    have e : ((nC cells : Nat) : Int) = cells := by unfold nC; rw [if_neg (by omega), if_neg (by omega)]; omega
    rw [e]
    exact ⟨rfl, (hW.old 0 rfl)⟩
end Go.Proofs.Ytbijkflfphppgaa.Sr
