/- Words and cells. No condition beside those that each theorem names. -/
import Derived.Test.YthcmcekjgecnhabMach
import Derived.Test.YthcmcekjgecnhabChecked
namespace Go.Proofs.Ythcmcekjgecnhab.Sr
open Go.RowKit Go.Proofs.YthcmcekjgecnhabM.Mach
set_option linter.unusedVariables false
set_option linter.unusedSimpArgs false
def encT35 (x : Int × Int × Int) : List Value := [.int .i64 x.1, .int .i64 x.2.1, .int .i64 x.2.2]
theorem encT35_len (x : Int × Int × Int) : (encT35 x).length = 3 := rfl
theorem encT35_cell (x : Int × Int × Int) : ∀ u ∈ encT35 x, cellV u = true := by
  intro u hu
  simp only [encT35, List.mem_cons, List.not_mem_nil, or_false] at hu
  rcases hu with rfl | rfl | rfl <;> rfl
def encT38 (x : Int × Int × Int × Int × Int × Int × Int × Int × Int × Int) : List Value := [.int .i64 x.1, .int .i64 x.2.1, .int .i64 x.2.2.1, .int .i64 x.2.2.2.1, .int .i64 x.2.2.2.2.1, .int .i64 x.2.2.2.2.2.1, .int .i64 x.2.2.2.2.2.2.1, .int .i64 x.2.2.2.2.2.2.2.1, .int .i64 x.2.2.2.2.2.2.2.2.1, .int .i64 x.2.2.2.2.2.2.2.2.2]
theorem encT38_len (x : Int × Int × Int × Int × Int × Int × Int × Int × Int × Int) : (encT38 x).length = 10 := rfl
theorem encT38_cell (x : Int × Int × Int × Int × Int × Int × Int × Int × Int × Int) : ∀ u ∈ encT38 x, cellV u = true := by
  intro u hu
  simp only [encT38, List.mem_cons, List.not_mem_nil, or_false] at hu
  rcases hu with rfl | rfl | rfl | rfl | rfl | rfl | rfl | rfl | rfl | rfl <;> rfl
def encT4 (x : Bool) : List Value := [.bool x]
theorem encT4_len (x : Bool) : (encT4 x).length = 1 := rfl
theorem encT4_cell (x : Bool) : ∀ u ∈ encT4 x, cellV u = true := by
  intro u hu
  simp only [encT4, List.mem_cons, List.not_mem_nil, or_false] at hu
  rcases hu with rfl <;> rfl
def encT71 (x : Int × Int × Int) : List Value := [.int .i64 x.1, .int .i64 x.2.1, .int .i64 x.2.2]
theorem encT71_len (x : Int × Int × Int) : (encT71 x).length = 3 := rfl
theorem encT71_cell (x : Int × Int × Int) : ∀ u ∈ encT71 x, cellV u = true := by
  intro u hu
  simp only [encT71, List.mem_cons, List.not_mem_nil, or_false] at hu
  rcases hu with rfl | rfl | rfl <;> rfl
def encT3 (x : Int) : List Value := [.int .i64 x]
theorem encT3_len (x : Int) : (encT3 x).length = 1 := rfl
theorem encT3_cell (x : Int) : ∀ u ∈ encT3 x, cellV u = true := by
  intro u hu
  simp only [encT3, List.mem_cons, List.not_mem_nil, or_false] at hu
  rcases hu with rfl <;> rfl
abbrev RV := Option Addr × Nat
abbrev W3 := Int × Int × Int
abbrev C10 := Int × Int × Int × Int × Int × Int × Int × Int × Int × Int
def f0 (c : C10) : W3 := (c.2.2.2.2.1, c.2.2.2.2.2.1, c.2.2.2.2.2.2.1)
def f1 (c : C10) : W3 := (c.2.2.2.2.2.2.2.1, c.2.2.2.2.2.2.2.2.1, c.2.2.2.2.2.2.2.2.2)
def thereF (w : W3) (cl : List C10) : Bool := decide (0 < w.2.1 ∧ w.2.1 ≤ (cl.length : Int) ∧ (cl[(w.2.1 - 1).toNat]!).1 ≠ 0 ∧ (cl[(w.2.1 - 1).toNat]!).2.1 = w.2.2)
theorem sub1 {x : Int} (h : 0 < x) (h2 : x ≤ 1000) : IntKind.wrap .i64 (x - 1) = (((x - 1).toNat : Nat) : Int) := by
  rw [IntKind.wrap_i64]
  omega
def tagis0_0_l0 (n0 : Int) (x : Int) (g0 : Int) (γ1 : Nat → Nat) : List Value := [.agg #[.int .i64 n0, .int .i64 x, .int .i64 g0], .pointer (some ⟨γ1 0, 0, none⟩), .bool true, .pointer (some ⟨γ1 0, 1, none⟩), .int .i64 x, .bool true]
def tagis0_1_l0 (n0 : Int) (x : Int) (g0 : Int) (γ1 : Nat → Nat) : List Value := [.agg #[.int .i64 n0, .int .i64 x, .int .i64 g0], .pointer (some ⟨γ1 0, 0, none⟩), .bool false, .pointer (some ⟨γ1 0, 1, none⟩), .int .i64 x, .bool false]
set_option maxHeartbeats 8000000 in
set_option maxRecDepth 100000 in
theorem tagis0 (n0 x g0 : Int) (w : World) : Calls Try.prog 65 #[.agg #[.int .i64 n0, .int .i64 x, .int .i64 g0]] w fun e w' => e = .returned (.bool (decide (0 < x))) ∧ Below w.heap.size w w' := by
  by_cases hx : 0 < x
  · skip
    refine enter (args := [.agg #[.int .i64 n0, .int .i64 x, .int .i64 g0]]) (fn := Try.f65) rfl (c := bdy Try.f65) (by kernel_rfl) ?_
    refine ck 6 [(1, 0)] [(4, .bool true)] fun γ1 => ⟨⟨kt (bdy Try.f65) [1, 1] [], (tagis0_0_l0 n0 x g0 γ1), [(γ1 0, 35, [.int .i64 n0, .int .i64 x, .int .i64 g0])]⟩, [(1, γ1 0)], [Value.bool (decide ((x : Int) > 0)) = .bool true], by kernel_rfl, (.cons (cbT (by omega)) .nil), ?_⟩
    refine rt (.bool true) [] [] (fun W hW => ?_)
    exact ⟨by rw [decide_eq_true (by omega)], (hW.old 0 rfl)⟩
  · skip
    refine enter (args := [.agg #[.int .i64 n0, .int .i64 x, .int .i64 g0]]) (fn := Try.f65) rfl (c := bdy Try.f65) (by kernel_rfl) ?_
    refine ck 6 [(1, 0)] [(4, .bool false)] fun γ1 => ⟨⟨kt (bdy Try.f65) [1, 1] [], (tagis0_1_l0 n0 x g0 γ1), [(γ1 0, 35, [.int .i64 n0, .int .i64 x, .int .i64 g0])]⟩, [(1, γ1 0)], [Value.bool (decide ((x : Int) > 0)) = .bool false], by kernel_rfl, (.cons (cbF (by omega)) .nil), ?_⟩
    refine rt (.bool false) [] [] (fun W hW => ?_)
    exact ⟨by rw [decide_eq_false (by omega)], (hW.old 0 rfl)⟩
theorem tagis (n0 x g0 : Int) {b : Bool} (h : decide (0 < x) = b) (w : World) : Calls Try.prog 65 #[.agg #[.int .i64 n0, .int .i64 x, .int .i64 g0]] w fun e w' => e = .returned (.bool b) ∧ Below w.heap.size w w' := by
  subst h
  exact tagis0 n0 x g0 w
def tr0_l0 (n0 : Int) (x : Int) (g0 : Int) (cl : List C10) (Ac : Option Addr) (kc : Nat) (γ1 : Nat → Nat) : List Value := [.agg #[.int .i64 n0, .int .i64 x, .int .i64 g0], .slice Ac cl.length kc, .pointer (some ⟨γ1 0, 0, none⟩), zz, .bool false, zz, .agg #[.int .i64 n0, .int .i64 x, .int .i64 g0], zz, zz, zz, zz, zz, zz, zz, zz, zz]
def tr0_l1 : List Value := [zz, zz, zz, zz, zz, zz, zz, zz, zz, zz, zz, zz, zz, zz, zz, zz]
def tr0_b2 (n0 : Int) (x : Int) (g0 : Int) (cl : List C10) (Ac : Option Addr) (kc : Nat) (γ1 : Nat → Nat) : List Value := (tr0_l0 n0 x g0 cl Ac kc γ1) ++ (tr0_l1)
def tr0_c3 (n0 : Int) (x : Int) (g0 : Int) : List Value := [.int .i64 n0, .int .i64 x, .int .i64 g0]
def tr1_l0 (n0 : Int) (x : Int) (g0 : Int) (cl : List C10) (Ac : Option Addr) (kc : Nat) (γ1 : Nat → Nat) : List Value := [.agg #[.int .i64 n0, .int .i64 x, .int .i64 g0], .slice Ac cl.length kc, .pointer (some ⟨γ1 0, 0, none⟩), zz, .bool false, zz, .agg #[.int .i64 n0, .int .i64 x, .int .i64 g0], zz, zz, zz, zz, zz, zz, zz, zz, zz]
def tr1_l1 : List Value := [zz, zz, zz, zz, zz, zz, zz, zz, zz, zz, zz, zz, zz, zz, zz, zz]
def tr1_b2 (n0 : Int) (x : Int) (g0 : Int) (cl : List C10) (Ac : Option Addr) (kc : Nat) (γ1 : Nat → Nat) : List Value := (tr1_l0 n0 x g0 cl Ac kc γ1) ++ (tr1_l1)
def tr1_c3 (n0 : Int) (x : Int) (g0 : Int) : List Value := [.int .i64 n0, .int .i64 x, .int .i64 g0]
def tr2_l0 (n0 : Int) (x : Int) (g0 : Int) (cl : List C10) (Ac : Option Addr) (kc : Nat) (γ1 : Nat → Nat) : List Value := [.agg #[.int .i64 n0, .int .i64 x, .int .i64 g0], .slice Ac cl.length kc, .pointer (some ⟨γ1 0, 0, none⟩), zz, .bool false, zz, .agg #[.int .i64 n0, .int .i64 x, .int .i64 g0], zz, zz, zz, zz, zz, zz, zz, zz, zz]
def tr2_l1 : List Value := [zz, zz, zz, zz, zz, zz, zz, zz, zz, zz, zz, zz, zz, zz, zz, zz]
def tr2_b2 (n0 : Int) (x : Int) (g0 : Int) (cl : List C10) (Ac : Option Addr) (kc : Nat) (γ1 : Nat → Nat) : List Value := (tr2_l0 n0 x g0 cl Ac kc γ1) ++ (tr2_l1)
def tr2_c3 (n0 : Int) (x : Int) (g0 : Int) : List Value := [.int .i64 n0, .int .i64 x, .int .i64 g0]
def tr2_l4 (n0 : Int) (x : Int) (g0 : Int) (cl : List C10) (Ac : Option Addr) (kc : Nat) (γ1 : Nat → Nat) : List Value := [.agg #[.int .i64 n0, .int .i64 x, .int .i64 g0], .slice Ac cl.length kc, .pointer (some ⟨γ1 0, 0, none⟩), zz, .bool false, zz, .agg #[.int .i64 n0, .int .i64 x, .int .i64 g0], .bool true, .bool false, .bool false, .pointer (some ⟨γ1 0, 1, none⟩), .int .i64 x, .slice Ac cl.length kc, .int .i64 ((cl.length : Nat) : Int), .bool false, .bool false]
def tr2_l5 (x : Int) (cl : List C10) (Ac : Option Addr) (kc : Nat) (γ1 : Nat → Nat) : List Value := [.slice Ac cl.length kc, .pointer (some ⟨γ1 0, 1, none⟩), .int .i64 x, .int .i64 (((x - 1).toNat : Nat) : Int), zz, zz, zz, zz, zz, zz, zz, zz, zz, zz, zz, zz]
def tr2_b6 (n0 : Int) (x : Int) (g0 : Int) (cl : List C10) (Ac : Option Addr) (kc : Nat) (γ1 : Nat → Nat) : List Value := (tr2_l4 n0 x g0 cl Ac kc γ1) ++ ((tr2_l5 x cl Ac kc γ1))
def tr2_c7 (x : Int) (cl : List C10) : List Value := [.int .i64 ((cl[(x - 1).toNat]!).1), .int .i64 ((cl[(x - 1).toNat]!).2.1), .int .i64 ((cl[(x - 1).toNat]!).2.2.1), .int .i64 ((cl[(x - 1).toNat]!).2.2.2.1), .int .i64 ((cl[(x - 1).toNat]!).2.2.2.2.1), .int .i64 ((cl[(x - 1).toNat]!).2.2.2.2.2.1), .int .i64 ((cl[(x - 1).toNat]!).2.2.2.2.2.2.1), .int .i64 ((cl[(x - 1).toNat]!).2.2.2.2.2.2.2.1), .int .i64 ((cl[(x - 1).toNat]!).2.2.2.2.2.2.2.2.1), .int .i64 ((cl[(x - 1).toNat]!).2.2.2.2.2.2.2.2.2)]
def tr3_l0 (n0 : Int) (x : Int) (g0 : Int) (cl : List C10) (Ac : Option Addr) (kc : Nat) (γ1 : Nat → Nat) : List Value := [.agg #[.int .i64 n0, .int .i64 x, .int .i64 g0], .slice Ac cl.length kc, .pointer (some ⟨γ1 0, 0, none⟩), zz, .bool false, zz, .agg #[.int .i64 n0, .int .i64 x, .int .i64 g0], zz, zz, zz, zz, zz, zz, zz, zz, zz]
def tr3_l1 : List Value := [zz, zz, zz, zz, zz, zz, zz, zz, zz, zz, zz, zz, zz, zz, zz, zz]
def tr3_b2 (n0 : Int) (x : Int) (g0 : Int) (cl : List C10) (Ac : Option Addr) (kc : Nat) (γ1 : Nat → Nat) : List Value := (tr3_l0 n0 x g0 cl Ac kc γ1) ++ (tr3_l1)
def tr3_c3 (n0 : Int) (x : Int) (g0 : Int) : List Value := [.int .i64 n0, .int .i64 x, .int .i64 g0]
def tr3_l4 (n0 : Int) (x : Int) (g0 : Int) (cl : List C10) (Ac : Option Addr) (kc : Nat) (γ1 : Nat → Nat) : List Value := [.agg #[.int .i64 n0, .int .i64 x, .int .i64 g0], .slice Ac cl.length kc, .pointer (some ⟨γ1 0, 0, none⟩), zz, .bool false, zz, .agg #[.int .i64 n0, .int .i64 x, .int .i64 g0], .bool true, .bool false, .bool false, .pointer (some ⟨γ1 0, 1, none⟩), .int .i64 x, .slice Ac cl.length kc, .int .i64 ((cl.length : Nat) : Int), .bool false, .bool false]
def tr3_l5 (x : Int) (cl : List C10) (Ac : Option Addr) (kc : Nat) (γ1 : Nat → Nat) : List Value := [.slice Ac cl.length kc, .pointer (some ⟨γ1 0, 1, none⟩), .int .i64 x, .int .i64 (((x - 1).toNat : Nat) : Int), zz, zz, zz, zz, zz, zz, zz, zz, zz, zz, zz, zz]
def tr3_b6 (n0 : Int) (x : Int) (g0 : Int) (cl : List C10) (Ac : Option Addr) (kc : Nat) (γ1 : Nat → Nat) : List Value := (tr3_l4 n0 x g0 cl Ac kc γ1) ++ ((tr3_l5 x cl Ac kc γ1))
def tr3_c7 (x : Int) (cl : List C10) : List Value := [.int .i64 ((cl[(x - 1).toNat]!).1), .int .i64 ((cl[(x - 1).toNat]!).2.1), .int .i64 ((cl[(x - 1).toNat]!).2.2.1), .int .i64 ((cl[(x - 1).toNat]!).2.2.2.1), .int .i64 ((cl[(x - 1).toNat]!).2.2.2.2.1), .int .i64 ((cl[(x - 1).toNat]!).2.2.2.2.2.1), .int .i64 ((cl[(x - 1).toNat]!).2.2.2.2.2.2.1), .int .i64 ((cl[(x - 1).toNat]!).2.2.2.2.2.2.2.1), .int .i64 ((cl[(x - 1).toNat]!).2.2.2.2.2.2.2.2.1), .int .i64 ((cl[(x - 1).toNat]!).2.2.2.2.2.2.2.2.2)]
def tr3_l8 (n0 : Int) (x : Int) (g0 : Int) (cl : List C10) (Ac : Option Addr) (kc : Nat) (γ1 : Nat → Nat) (γ5 : Nat → Nat) : List Value := [.agg #[.int .i64 n0, .int .i64 x, .int .i64 g0], .slice Ac cl.length kc, .pointer (some ⟨γ1 0, 0, none⟩), zz, .bool false, .pointer (some ⟨γ5 0, 0, none⟩), .agg #[.int .i64 n0, .int .i64 x, .int .i64 g0], .bool true, .bool false, .bool false, .pointer (some ⟨γ1 0, 1, none⟩), .int .i64 x, .slice Ac cl.length kc, .int .i64 ((cl.length : Nat) : Int), .bool false, .bool false]
def tr3_l9 (x : Int) (g0 : Int) (cl : List C10) (Ac : Option Addr) (kc : Nat) (γ1 : Nat → Nat) (B3 : Nat) (o4 : Nat) (γ5 : Nat → Nat) : List Value := [.slice Ac cl.length kc, .pointer (some ⟨γ1 0, 1, none⟩), .int .i64 x, .int .i64 (((x - 1).toNat : Nat) : Int), .pointer (some ⟨B3, o4 + ((x - 1).toNat) * 10, none⟩), .agg ⟨(tr3_c7 x cl)⟩, .pointer (some ⟨γ5 0, 0, none⟩), .int .i64 ((cl[(x - 1).toNat]!).1), .bool true, .bool true, .pointer (some ⟨γ5 0, 1, none⟩), .int .i64 ((cl[(x - 1).toNat]!).2.1), .pointer (some ⟨γ1 0, 2, none⟩), .int .i64 g0, .bool false, .bool false]
def tr3_b10 (n0 : Int) (x : Int) (g0 : Int) (cl : List C10) (Ac : Option Addr) (kc : Nat) (γ1 : Nat → Nat) (B3 : Nat) (o4 : Nat) (γ5 : Nat → Nat) : List Value := (tr3_l8 n0 x g0 cl Ac kc γ1 γ5) ++ ((tr3_l9 x g0 cl Ac kc γ1 B3 o4 γ5))
def tr4_l0 (n0 : Int) (x : Int) (g0 : Int) (cl : List C10) (Ac : Option Addr) (kc : Nat) (γ1 : Nat → Nat) : List Value := [.agg #[.int .i64 n0, .int .i64 x, .int .i64 g0], .slice Ac cl.length kc, .pointer (some ⟨γ1 0, 0, none⟩), zz, .bool false, zz, .agg #[.int .i64 n0, .int .i64 x, .int .i64 g0], zz, zz, zz, zz, zz, zz, zz, zz, zz]
def tr4_l1 : List Value := [zz, zz, zz, zz, zz, zz, zz, zz, zz, zz, zz, zz, zz, zz, zz, zz]
def tr4_b2 (n0 : Int) (x : Int) (g0 : Int) (cl : List C10) (Ac : Option Addr) (kc : Nat) (γ1 : Nat → Nat) : List Value := (tr4_l0 n0 x g0 cl Ac kc γ1) ++ (tr4_l1)
def tr4_c3 (n0 : Int) (x : Int) (g0 : Int) : List Value := [.int .i64 n0, .int .i64 x, .int .i64 g0]
def tr4_l4 (n0 : Int) (x : Int) (g0 : Int) (cl : List C10) (Ac : Option Addr) (kc : Nat) (γ1 : Nat → Nat) : List Value := [.agg #[.int .i64 n0, .int .i64 x, .int .i64 g0], .slice Ac cl.length kc, .pointer (some ⟨γ1 0, 0, none⟩), zz, .bool false, zz, .agg #[.int .i64 n0, .int .i64 x, .int .i64 g0], .bool true, .bool false, .bool false, .pointer (some ⟨γ1 0, 1, none⟩), .int .i64 x, .slice Ac cl.length kc, .int .i64 ((cl.length : Nat) : Int), .bool false, .bool false]
def tr4_l5 (x : Int) (cl : List C10) (Ac : Option Addr) (kc : Nat) (γ1 : Nat → Nat) : List Value := [.slice Ac cl.length kc, .pointer (some ⟨γ1 0, 1, none⟩), .int .i64 x, .int .i64 (((x - 1).toNat : Nat) : Int), zz, zz, zz, zz, zz, zz, zz, zz, zz, zz, zz, zz]
def tr4_b6 (n0 : Int) (x : Int) (g0 : Int) (cl : List C10) (Ac : Option Addr) (kc : Nat) (γ1 : Nat → Nat) : List Value := (tr4_l4 n0 x g0 cl Ac kc γ1) ++ ((tr4_l5 x cl Ac kc γ1))
def tr4_c7 (x : Int) (cl : List C10) : List Value := [.int .i64 ((cl[(x - 1).toNat]!).1), .int .i64 ((cl[(x - 1).toNat]!).2.1), .int .i64 ((cl[(x - 1).toNat]!).2.2.1), .int .i64 ((cl[(x - 1).toNat]!).2.2.2.1), .int .i64 ((cl[(x - 1).toNat]!).2.2.2.2.1), .int .i64 ((cl[(x - 1).toNat]!).2.2.2.2.2.1), .int .i64 ((cl[(x - 1).toNat]!).2.2.2.2.2.2.1), .int .i64 ((cl[(x - 1).toNat]!).2.2.2.2.2.2.2.1), .int .i64 ((cl[(x - 1).toNat]!).2.2.2.2.2.2.2.2.1), .int .i64 ((cl[(x - 1).toNat]!).2.2.2.2.2.2.2.2.2)]
def tr4_l8 (n0 : Int) (x : Int) (g0 : Int) (cl : List C10) (Ac : Option Addr) (kc : Nat) (γ1 : Nat → Nat) (γ5 : Nat → Nat) : List Value := [.agg #[.int .i64 n0, .int .i64 x, .int .i64 g0], .slice Ac cl.length kc, .pointer (some ⟨γ1 0, 0, none⟩), zz, .bool true, .pointer (some ⟨γ5 0, 0, none⟩), .agg #[.int .i64 n0, .int .i64 x, .int .i64 g0], .bool true, .bool false, .bool false, .pointer (some ⟨γ1 0, 1, none⟩), .int .i64 x, .slice Ac cl.length kc, .int .i64 ((cl.length : Nat) : Int), .bool false, .bool false]
def tr4_l9 (x : Int) (g0 : Int) (cl : List C10) (Ac : Option Addr) (kc : Nat) (γ1 : Nat → Nat) (B3 : Nat) (o4 : Nat) (γ5 : Nat → Nat) : List Value := [.slice Ac cl.length kc, .pointer (some ⟨γ1 0, 1, none⟩), .int .i64 x, .int .i64 (((x - 1).toNat : Nat) : Int), .pointer (some ⟨B3, o4 + ((x - 1).toNat) * 10, none⟩), .agg ⟨(tr4_c7 x cl)⟩, .pointer (some ⟨γ5 0, 0, none⟩), .int .i64 ((cl[(x - 1).toNat]!).1), .bool true, .bool true, .pointer (some ⟨γ5 0, 1, none⟩), .int .i64 ((cl[(x - 1).toNat]!).2.1), .pointer (some ⟨γ1 0, 2, none⟩), .int .i64 g0, .bool true, .bool true]
def tr4_b10 (n0 : Int) (x : Int) (g0 : Int) (cl : List C10) (Ac : Option Addr) (kc : Nat) (γ1 : Nat → Nat) (B3 : Nat) (o4 : Nat) (γ5 : Nat → Nat) : List Value := (tr4_l8 n0 x g0 cl Ac kc γ1 γ5) ++ ((tr4_l9 x g0 cl Ac kc γ1 B3 o4 γ5))
set_option maxHeartbeats 8000000 in
set_option maxRecDepth 100000 in
theorem there_is (n0 x g0 : Int) {w : World} {cl : List C10} {Ac : Option Addr} {kc : Nat} (hc : Rd w (.slice Ac cl.length kc) 10 encT38 cl) (hcl : cl.length ≤ 1000) : Calls Try.prog 34 #[.agg #[.int .i64 n0, .int .i64 x, .int .i64 g0], .slice Ac cl.length kc] w fun e w' => e = .returned (.bool (thereF (n0, x, g0) cl)) ∧ Below w.heap.size w w' := by
  have hq : ¬ 0 < x ∨ (0 < x ∧ (cl.length : Int) < x) ∨ (0 < x ∧ x ≤ cl.length ∧ (cl[(x - 1).toNat]!).1 = 0) ∨ (0 < x ∧ x ≤ cl.length ∧ (cl[(x - 1).toNat]!).1 ≠ 0 ∧ (cl[(x - 1).toNat]!).2.1 ≠ g0) ∨ (0 < x ∧ x ≤ cl.length ∧ (cl[(x - 1).toNat]!).1 ≠ 0 ∧ (cl[(x - 1).toNat]!).2.1 = g0) := by omega
  rcases hq with hq | hq | hq | hq | hq
  · skip
    refine enter (args := [.agg #[.int .i64 n0, .int .i64 x, .int .i64 g0], .slice Ac cl.length kc]) (fn := Try.f34) rfl (c := bdy Try.f34) (by kernel_rfl) ?_
    refine ck 3 [(3, 0)] [] fun γ1 => ⟨⟨kt (bdy Try.f34) [1, 0, 0, 1] [], (tr0_b2 n0 x g0 cl Ac kc γ1), [(γ1 0, 35, (tr0_c3 n0 x g0))]⟩, [(3, γ1 0)], [], by kernel_rfl, .nil, ?_⟩
    refine cp (fun W hW => tagis n0 x g0 (by first | exact decide_eq_true (by omega) | exact decide_eq_false (by omega)) W) ?_
    refine ck 9 [] [] fun γ2 => ⟨⟨kt (bdy Try.f34) [1, 0, 1, 0, 1] [], upv (tr0_b2 n0 x g0 cl Ac kc γ1) [(7, .bool false), (8, .bool true), (9, .bool true), (15, .bool true)], [(γ1 0, 35, (tr0_c3 n0 x g0))]⟩, [], [], by kernel_rfl, .nil, ?_⟩
    refine rt (.bool false) [] [] (fun W hW => ?_)
    refine ⟨?_, (hW.old 0 rfl)⟩
    have ht : thereF (n0, x, g0) cl = false := by
      unfold thereF
      exact decide_eq_false (by first | omega | (simp only; omega) | (simp only [not_and]; omega))
    rw [ht]
  · skip
    refine enter (args := [.agg #[.int .i64 n0, .int .i64 x, .int .i64 g0], .slice Ac cl.length kc]) (fn := Try.f34) rfl (c := bdy Try.f34) (by kernel_rfl) ?_
    refine ck 3 [(3, 0)] [] fun γ1 => ⟨⟨kt (bdy Try.f34) [1, 0, 0, 1] [], (tr1_b2 n0 x g0 cl Ac kc γ1), [(γ1 0, 35, (tr1_c3 n0 x g0))]⟩, [(3, γ1 0)], [], by kernel_rfl, .nil, ?_⟩
    refine cp (fun W hW => tagis n0 x g0 (by first | exact decide_eq_true (by omega) | exact decide_eq_false (by omega)) W) ?_
    refine ck 9 [(1, 0)] [(6, .bool true)] fun γ2 => ⟨⟨kt (bdy Try.f34) [1, 0, 1, 0, 1] [], upv (tr1_b2 n0 x g0 cl Ac kc γ1) [(7, .bool true), (8, .bool false), (9, .bool false), (10, .pointer (some ⟨γ1 0, 1, none⟩)), (11, .int .i64 x), (12, .slice Ac cl.length kc), (13, .int .i64 ((cl.length : Nat) : Int)), (14, .bool true), (15, .bool true)], [(γ1 0, 35, (tr1_c3 n0 x g0))]⟩, [(1, γ1 0)], [Value.bool (decide ((x : Int) > ((cl.length : Nat) : Int))) = .bool true], by kernel_rfl, (.cons (cbT (by omega)) .nil), ?_⟩
    refine rt (.bool false) [] [] (fun W hW => ?_)
    refine ⟨?_, (hW.old 0 rfl)⟩
    have ht : thereF (n0, x, g0) cl = false := by
      unfold thereF
      exact decide_eq_false (by first | omega | (simp only; omega) | (simp only [not_and]; omega))
    rw [ht]
  · skip
    refine enter (args := [.agg #[.int .i64 n0, .int .i64 x, .int .i64 g0], .slice Ac cl.length kc]) (fn := Try.f34) rfl (c := bdy Try.f34) (by kernel_rfl) ?_
    refine ck 3 [(3, 0)] [] fun γ1 => ⟨⟨kt (bdy Try.f34) [1, 0, 0, 1] [], (tr2_b2 n0 x g0 cl Ac kc γ1), [(γ1 0, 35, (tr2_c3 n0 x g0))]⟩, [(3, γ1 0)], [], by kernel_rfl, .nil, ?_⟩
    refine cp (fun W hW => tagis n0 x g0 (by first | exact decide_eq_true (by omega) | exact decide_eq_false (by omega)) W) ?_
    refine ck 12 [(2, 0)] [(6, .bool false), (11, .int .i64 (((x - 1).toNat : Nat) : Int))] fun γ2 => ⟨⟨kt (bdy Try.f34) [1, 1, 0, 4] [], (tr2_b6 n0 x g0 cl Ac kc γ1), [(γ1 0, 35, (tr2_c3 n0 x g0))]⟩, [(2, γ1 0)], [Value.bool (decide ((x : Int) > ((cl.length : Nat) : Int))) = .bool false, Value.int .i64 (IntKind.wrap .i64 (x - 1)) = .int .i64 (((x - 1).toNat : Nat) : Int)], by kernel_rfl, (.cons (cbF (by omega)) (.cons (congrArg (Value.int .i64) (sub1 (by omega) (by omega))) .nil)), ?_⟩
    refine ixs (fun W hW => (hc.below (hW.old 0 rfl))) ((x - 1).toNat) (by first | omega | decide) (fun B3 o4 hB3 => ?_)
    refine ldr (n := 10) (row := true) [.int .i64 ((cl[(x - 1).toNat]!).1), .int .i64 ((cl[(x - 1).toNat]!).2.1), .int .i64 ((cl[(x - 1).toNat]!).2.2.1), .int .i64 ((cl[(x - 1).toNat]!).2.2.2.1), .int .i64 ((cl[(x - 1).toNat]!).2.2.2.2.1), .int .i64 ((cl[(x - 1).toNat]!).2.2.2.2.2.1), .int .i64 ((cl[(x - 1).toNat]!).2.2.2.2.2.2.1), .int .i64 ((cl[(x - 1).toNat]!).2.2.2.2.2.2.2.1), .int .i64 ((cl[(x - 1).toNat]!).2.2.2.2.2.2.2.2.1), .int .i64 ((cl[(x - 1).toNat]!).2.2.2.2.2.2.2.2.2)] (fun W hW => ((Rd.atE (hc.below (hW.old 0 rfl)) hB3 (by first | omega | simp))).ld (i := (x - 1).toNat) (by first | omega | simp) 0 [.int .i64 ((cl[(x - 1).toNat]!).1), .int .i64 ((cl[(x - 1).toNat]!).2.1), .int .i64 ((cl[(x - 1).toNat]!).2.2.1), .int .i64 ((cl[(x - 1).toNat]!).2.2.2.1), .int .i64 ((cl[(x - 1).toNat]!).2.2.2.2.1), .int .i64 ((cl[(x - 1).toNat]!).2.2.2.2.2.1), .int .i64 ((cl[(x - 1).toNat]!).2.2.2.2.2.2.1), .int .i64 ((cl[(x - 1).toNat]!).2.2.2.2.2.2.2.1), .int .i64 ((cl[(x - 1).toNat]!).2.2.2.2.2.2.2.2.1), .int .i64 ((cl[(x - 1).toNat]!).2.2.2.2.2.2.2.2.2)] rfl) ?_
    refine ck 13 [(11, 0)] [(4, .bool false)] fun γ5 => ⟨⟨kt (bdy Try.f34) [1, 1, 1, 1] [], upv (tr2_b6 n0 x g0 cl Ac kc γ1) [(5, .pointer (some ⟨γ5 0, 0, none⟩)), (20, .pointer (some ⟨B3, o4 + ((x - 1).toNat) * 10, none⟩)), (21, .agg ⟨(tr2_c7 x cl)⟩), (22, .pointer (some ⟨γ5 0, 0, none⟩)), (23, .int .i64 ((cl[(x - 1).toNat]!).1)), (24, .bool false), (25, .bool false), (31, .bool false)], [(γ5 0, 38, (tr2_c7 x cl)), (γ1 0, 35, (tr2_c3 n0 x g0))]⟩, [(11, γ5 0)], [Value.bool ((((cl[(x - 1).toNat]!).1) : Int) != 0) = .bool false], by kernel_rfl, (.cons (cnF (by omega)) .nil), ?_⟩
    refine rt (.bool false) [] [] (fun W hW => ?_)
    refine ⟨?_, (hW.old 0 rfl)⟩
    have ht : thereF (n0, x, g0) cl = false := by
      unfold thereF
      exact decide_eq_false (by first | omega | (simp only; omega) | (simp only [not_and]; omega))
    rw [ht]
  · skip
    refine enter (args := [.agg #[.int .i64 n0, .int .i64 x, .int .i64 g0], .slice Ac cl.length kc]) (fn := Try.f34) rfl (c := bdy Try.f34) (by kernel_rfl) ?_
    refine ck 3 [(3, 0)] [] fun γ1 => ⟨⟨kt (bdy Try.f34) [1, 0, 0, 1] [], (tr3_b2 n0 x g0 cl Ac kc γ1), [(γ1 0, 35, (tr3_c3 n0 x g0))]⟩, [(3, γ1 0)], [], by kernel_rfl, .nil, ?_⟩
    refine cp (fun W hW => tagis n0 x g0 (by first | exact decide_eq_true (by omega) | exact decide_eq_false (by omega)) W) ?_
    refine ck 12 [(2, 0)] [(6, .bool false), (11, .int .i64 (((x - 1).toNat : Nat) : Int))] fun γ2 => ⟨⟨kt (bdy Try.f34) [1, 1, 0, 4] [], (tr3_b6 n0 x g0 cl Ac kc γ1), [(γ1 0, 35, (tr3_c3 n0 x g0))]⟩, [(2, γ1 0)], [Value.bool (decide ((x : Int) > ((cl.length : Nat) : Int))) = .bool false, Value.int .i64 (IntKind.wrap .i64 (x - 1)) = .int .i64 (((x - 1).toNat : Nat) : Int)], by kernel_rfl, (.cons (cbF (by omega)) (.cons (congrArg (Value.int .i64) (sub1 (by omega) (by omega))) .nil)), ?_⟩
    refine ixs (fun W hW => (hc.below (hW.old 0 rfl))) ((x - 1).toNat) (by first | omega | decide) (fun B3 o4 hB3 => ?_)
    refine ldr (n := 10) (row := true) [.int .i64 ((cl[(x - 1).toNat]!).1), .int .i64 ((cl[(x - 1).toNat]!).2.1), .int .i64 ((cl[(x - 1).toNat]!).2.2.1), .int .i64 ((cl[(x - 1).toNat]!).2.2.2.1), .int .i64 ((cl[(x - 1).toNat]!).2.2.2.2.1), .int .i64 ((cl[(x - 1).toNat]!).2.2.2.2.2.1), .int .i64 ((cl[(x - 1).toNat]!).2.2.2.2.2.2.1), .int .i64 ((cl[(x - 1).toNat]!).2.2.2.2.2.2.2.1), .int .i64 ((cl[(x - 1).toNat]!).2.2.2.2.2.2.2.2.1), .int .i64 ((cl[(x - 1).toNat]!).2.2.2.2.2.2.2.2.2)] (fun W hW => ((Rd.atE (hc.below (hW.old 0 rfl)) hB3 (by first | omega | simp))).ld (i := (x - 1).toNat) (by first | omega | simp) 0 [.int .i64 ((cl[(x - 1).toNat]!).1), .int .i64 ((cl[(x - 1).toNat]!).2.1), .int .i64 ((cl[(x - 1).toNat]!).2.2.1), .int .i64 ((cl[(x - 1).toNat]!).2.2.2.1), .int .i64 ((cl[(x - 1).toNat]!).2.2.2.2.1), .int .i64 ((cl[(x - 1).toNat]!).2.2.2.2.2.1), .int .i64 ((cl[(x - 1).toNat]!).2.2.2.2.2.2.1), .int .i64 ((cl[(x - 1).toNat]!).2.2.2.2.2.2.2.1), .int .i64 ((cl[(x - 1).toNat]!).2.2.2.2.2.2.2.2.1), .int .i64 ((cl[(x - 1).toNat]!).2.2.2.2.2.2.2.2.2)] rfl) ?_
    refine ck 13 [(12, 0), (1, 1)] [(4, .bool true), (10, .bool false)] fun γ5 => ⟨⟨kt (bdy Try.f34) [1, 1, 1, 1] [], (tr3_b10 n0 x g0 cl Ac kc γ1 B3 o4 γ5), [(γ5 0, 38, (tr3_c7 x cl)), (γ1 0, 35, (tr3_c3 n0 x g0))]⟩, [(12, γ5 0), (1, γ1 0)], [Value.bool ((((cl[(x - 1).toNat]!).1) : Int) != 0) = .bool true, Value.bool ((((cl[(x - 1).toNat]!).2.1) : Int) == g0) = .bool false], by kernel_rfl, (.cons (cnT (by omega)) (.cons (cbN (by omega)) .nil)), ?_⟩
    refine rt (.bool false) [] [] (fun W hW => ?_)
    refine ⟨?_, (hW.old 0 rfl)⟩
    have ht : thereF (n0, x, g0) cl = false := by
      unfold thereF
      exact decide_eq_false (by first | omega | (simp only; omega) | (simp only [not_and]; omega))
    rw [ht]
  · skip
    refine enter (args := [.agg #[.int .i64 n0, .int .i64 x, .int .i64 g0], .slice Ac cl.length kc]) (fn := Try.f34) rfl (c := bdy Try.f34) (by kernel_rfl) ?_
    refine ck 3 [(3, 0)] [] fun γ1 => ⟨⟨kt (bdy Try.f34) [1, 0, 0, 1] [], (tr4_b2 n0 x g0 cl Ac kc γ1), [(γ1 0, 35, (tr4_c3 n0 x g0))]⟩, [(3, γ1 0)], [], by kernel_rfl, .nil, ?_⟩
    refine cp (fun W hW => tagis n0 x g0 (by first | exact decide_eq_true (by omega) | exact decide_eq_false (by omega)) W) ?_
    refine ck 12 [(2, 0)] [(6, .bool false), (11, .int .i64 (((x - 1).toNat : Nat) : Int))] fun γ2 => ⟨⟨kt (bdy Try.f34) [1, 1, 0, 4] [], (tr4_b6 n0 x g0 cl Ac kc γ1), [(γ1 0, 35, (tr4_c3 n0 x g0))]⟩, [(2, γ1 0)], [Value.bool (decide ((x : Int) > ((cl.length : Nat) : Int))) = .bool false, Value.int .i64 (IntKind.wrap .i64 (x - 1)) = .int .i64 (((x - 1).toNat : Nat) : Int)], by kernel_rfl, (.cons (cbF (by omega)) (.cons (congrArg (Value.int .i64) (sub1 (by omega) (by omega))) .nil)), ?_⟩
    refine ixs (fun W hW => (hc.below (hW.old 0 rfl))) ((x - 1).toNat) (by first | omega | decide) (fun B3 o4 hB3 => ?_)
    refine ldr (n := 10) (row := true) [.int .i64 ((cl[(x - 1).toNat]!).1), .int .i64 ((cl[(x - 1).toNat]!).2.1), .int .i64 ((cl[(x - 1).toNat]!).2.2.1), .int .i64 ((cl[(x - 1).toNat]!).2.2.2.1), .int .i64 ((cl[(x - 1).toNat]!).2.2.2.2.1), .int .i64 ((cl[(x - 1).toNat]!).2.2.2.2.2.1), .int .i64 ((cl[(x - 1).toNat]!).2.2.2.2.2.2.1), .int .i64 ((cl[(x - 1).toNat]!).2.2.2.2.2.2.2.1), .int .i64 ((cl[(x - 1).toNat]!).2.2.2.2.2.2.2.2.1), .int .i64 ((cl[(x - 1).toNat]!).2.2.2.2.2.2.2.2.2)] (fun W hW => ((Rd.atE (hc.below (hW.old 0 rfl)) hB3 (by first | omega | simp))).ld (i := (x - 1).toNat) (by first | omega | simp) 0 [.int .i64 ((cl[(x - 1).toNat]!).1), .int .i64 ((cl[(x - 1).toNat]!).2.1), .int .i64 ((cl[(x - 1).toNat]!).2.2.1), .int .i64 ((cl[(x - 1).toNat]!).2.2.2.1), .int .i64 ((cl[(x - 1).toNat]!).2.2.2.2.1), .int .i64 ((cl[(x - 1).toNat]!).2.2.2.2.2.1), .int .i64 ((cl[(x - 1).toNat]!).2.2.2.2.2.2.1), .int .i64 ((cl[(x - 1).toNat]!).2.2.2.2.2.2.2.1), .int .i64 ((cl[(x - 1).toNat]!).2.2.2.2.2.2.2.2.1), .int .i64 ((cl[(x - 1).toNat]!).2.2.2.2.2.2.2.2.2)] rfl) ?_
    refine ck 13 [(12, 0), (1, 1)] [(4, .bool true), (10, .bool true)] fun γ5 => ⟨⟨kt (bdy Try.f34) [1, 1, 1, 1] [], (tr4_b10 n0 x g0 cl Ac kc γ1 B3 o4 γ5), [(γ5 0, 38, (tr4_c7 x cl)), (γ1 0, 35, (tr4_c3 n0 x g0))]⟩, [(12, γ5 0), (1, γ1 0)], [Value.bool ((((cl[(x - 1).toNat]!).1) : Int) != 0) = .bool true, Value.bool ((((cl[(x - 1).toNat]!).2.1) : Int) == g0) = .bool true], by kernel_rfl, (.cons (cnT (by omega)) (.cons (cbE (by omega)) .nil)), ?_⟩
    refine rt (.bool true) [] [] (fun W hW => ?_)
    refine ⟨?_, (hW.old 0 rfl)⟩
    have ht : thereF (n0, x, g0) cl = true := by
      unfold thereF
      exact decide_eq_true (by first | omega | (simp only; omega) | (simp only [not_and]; omega))
    rw [ht]
end Go.Proofs.Ythcmcekjgecnhab.Sr
