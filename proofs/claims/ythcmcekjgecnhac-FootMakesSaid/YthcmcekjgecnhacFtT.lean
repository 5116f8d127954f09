/- Feet held against each other. No condition beside those that each theorem names. -/
import Derived.Test.YthcmcekjgecnhacFtR
import Derived.Test.YthcmcekjgecnhacFtS
namespace Go.Proofs.Ythcmcekjgecnhac.Sr
open Go.RowKit Go.Proofs.YthcmcekjgecnhacM.Mach
set_option linter.unusedVariables false
set_option linter.unusedSimpArgs false
def sameB (a1 a2 b1 b2 : List P3) : Bool := decide (nrmF a1 = nrmF b1 ∧ nrmF a2 = nrmF b2)
def eqF (a1 a2 b1 b2 : List P3) : Bool := decide (a1 = b1 ∧ a2 = b2)
theorem equal_b {w : World} {A A1 : Option Addr} {c c1 : Nat} {xs ys : List P3} {b : Bool} (hb : decide (xs = ys) = b) (h : Rd w (.slice A xs.length c) 3 encT46 xs) (h1 : Rd w (.slice A1 ys.length c1) 3 encT46 ys) (hl : xs.length ≤ 1000) (hl1 : ys.length ≤ 1000) : Calls Try.prog 35 #[.slice A xs.length c, .slice A1 ys.length c1] w fun e w' => e = .returned (.bool b) ∧ Below w.heap.size w w' := by
  subst hb
  exact equal_is h h1 hl hl1
theorem places_b {w : World} {A A1 : Option Addr} {c c1 : Nat} {xs ys : List P3} {b : Bool} (hb : decide (xs = ys) = b) (h : Rd w (.slice A xs.length c) 3 encT46 xs) (h1 : Rd w (.slice A1 ys.length c1) 3 encT46 ys) (hl : xs.length ≤ 1000) (hl1 : ys.length ≤ 1000) : Calls Try.prog 31 #[.slice A xs.length c, .slice A1 ys.length c1] w fun e w' => e = .returned (.bool b) ∧ Below w.heap.size w w' := by
  subst hb
  exact places_is h h1 hl hl1
def ln_l0 (Aa1 : Option Addr) (ca1 : Nat) (a1 : List P3) (Aa2 : Option Addr) (ca2 : Nat) (a2 : List P3) (γ1 : Nat → Nat) : List Value := [.agg #[.slice Aa1 a1.length ca1, .slice Aa2 a2.length ca2], .pointer (some ⟨γ1 0, 0, none⟩), .pointer (some ⟨γ1 1, 0, none⟩), zz, zz, zz, zz, zz, zz, zz]
def ln_c1 : List Value := [.slice none 0 0, .slice none 0 0]
def ln_c2 (Aa1 : Option Addr) (ca1 : Nat) (a1 : List P3) (Aa2 : Option Addr) (ca2 : Nat) (a2 : List P3) : List Value := [.slice Aa1 a1.length ca1, .slice Aa2 a2.length ca2]
def ln_c3 (a1 : List P3) (a2 : List P3) (As2 : Option Addr) (cs2 : Nat) (As3 : Option Addr) (cs3 : Nat) : List Value := [.slice As2 ((nrmF a1).length) cs2, .slice As3 ((nrmF a2).length) cs3]
set_option maxHeartbeats 8000000 in
set_option maxRecDepth 100000 in
theorem lnorm_is {w : World} {Aa1 : Option Addr} {ca1 : Nat} {a1 : List P3} (ha1 : Rd w (.slice Aa1 a1.length ca1) 3 encT46 a1) (hla1 : a1.length ≤ 1000) {Aa2 : Option Addr} {ca2 : Nat} {a2 : List P3} (ha2 : Rd w (.slice Aa2 a2.length ca2) 3 encT46 a2) (hla2 : a2.length ≤ 1000) : Calls Try.prog 15 #[.agg #[.slice Aa1 a1.length ca1, .slice Aa2 a2.length ca2]] w fun e w' => ∃ x : (Option Addr × Nat) × Option Addr × Nat, e = .returned (.agg #[.slice x.1.1 (nrmF a1).length x.1.2, .slice x.2.1 (nrmF a2).length x.2.2]) ∧ Fresh w w' [rowA 46 3 (.slice x.1.1 (nrmF a1).length x.1.2) (nrmF a1).length ((nrmF a1).flatMap encT46), rowA 46 3 (.slice x.2.1 (nrmF a2).length x.2.2) (nrmF a2).length ((nrmF a2).flatMap encT46)] := by
  refine enter (args := [.agg #[.slice Aa1 a1.length ca1, .slice Aa2 a2.length ca2]]) (fn := Try.f15) rfl (c := bdy Try.f15) (by kernel_rfl) ?_
  refine ck 2 [] [] fun γ1 => ⟨⟨kt (bdy Try.f15) [1, 0] [], (ln_l0 Aa1 ca1 a1 Aa2 ca2 a2 γ1), [(γ1 1, 24, ln_c1), (γ1 0, 24, (ln_c2 Aa1 ca1 a1 Aa2 ca2 a2))]⟩, [], [], by kernel_rfl, .nil, ?_⟩
  refine dr [] [] .nil ?_
  refine df [0, 1, 3, 4] [(2, 1)] [] [(2, γ1 0)] [] .nil ?_
  refine df' 2 (fun W hW => sorted_is (ha1.below (hW.old 0 rfl)) (by omega)) ?_
  rintro ⟨As2, cs2⟩
  refine df' 5 (fun W hW => sorted_is (ha2.below (hW.old 1 rfl)) (by omega)) ?_
  rintro ⟨As3, cs3⟩
  refine df [6] [] [] [] [] .nil ?_
  refine ds 7 [(2, 0)] [(2, γ1 1)] ?_
  refine de (fs := (kt (bdy Try.f15) [1, 0] []).tail) ?_
  refine st0 (fs := (kt (bdy Try.f15) [1, 0] []).tail) (upv (ln_l0 Aa1 ca1 a1 Aa2 ca2 a2 γ1) [(3, .pointer (some ⟨γ1 0, 0, none⟩)), (4, .slice Aa1 a1.length ca1), (5, .slice As2 ((nrmF a1).length) cs2), (6, .pointer (some ⟨γ1 0, 1, none⟩)), (7, .slice Aa2 a2.length ca2), (8, .slice As3 ((nrmF a2).length) cs3), (9, .agg #[.slice As2 ((nrmF a1).length) cs2, .slice As3 ((nrmF a2).length) cs3])]) [(γ1 1, 24, (ln_c3 a1 a2 As2 cs2 As3 cs3)), (γ1 0, 24, (ln_c2 Aa1 ca1 a1 Aa2 ca2 a2))] ?_
  refine rt (.agg #[.slice As2 ((nrmF a1).length) cs2, .slice As3 ((nrmF a2).length) cs3]) [(2, 0)] [(2, γ1 1)] (fun W hW => ?_)
  exact ⟨((As2, cs2), (As3, cs3)), rfl, Fresh.of (R := [rowA 46 3 (.slice As2 ((nrmF a1).length) cs2) (nrmF a1).length ((nrmF a1).flatMap encT46), rowA 46 3 (.slice As3 ((nrmF a2).length) cs3) (nrmF a2).length ((nrmF a2).flatMap encT46)]) (hW.perm (permIx [1, 0, 2] rfl (permB _ _ rfl))) (.cons_cons _ (.cons_cons _ (.cons_cons _ (.slnil))))⟩
def pf_l0 (Aa1 : Option Addr) (ca1 : Nat) (a1 : List P3) (Aa2 : Option Addr) (ca2 : Nat) (a2 : List P3) (Ab1 : Option Addr) (cb1 : Nat) (b1 : List P3) (Ab2 : Option Addr) (cb2 : Nat) (b2 : List P3) (γ1 : Nat → Nat) : List Value := [.agg #[.slice Aa1 a1.length ca1, .slice Aa2 a2.length ca2], .agg #[.slice Ab1 b1.length cb1, .slice Ab2 b2.length cb2], .pointer (some ⟨γ1 0, 0, none⟩), .pointer (some ⟨γ1 1, 0, none⟩), .bool false, zz, zz, zz, zz, zz, zz, zz, zz, zz, zz, zz]
def pf_l1 : List Value := [zz]
def pf_b2 (Aa1 : Option Addr) (ca1 : Nat) (a1 : List P3) (Aa2 : Option Addr) (ca2 : Nat) (a2 : List P3) (Ab1 : Option Addr) (cb1 : Nat) (b1 : List P3) (Ab2 : Option Addr) (cb2 : Nat) (b2 : List P3) (γ1 : Nat → Nat) : List Value := (pf_l0 Aa1 ca1 a1 Aa2 ca2 a2 Ab1 cb1 b1 Ab2 cb2 b2 γ1) ++ (pf_l1)
def pf_c3 (Ab1 : Option Addr) (cb1 : Nat) (b1 : List P3) (Ab2 : Option Addr) (cb2 : Nat) (b2 : List P3) : List Value := [.slice Ab1 b1.length cb1, .slice Ab2 b2.length cb2]
def pf_c4 (Aa1 : Option Addr) (ca1 : Nat) (a1 : List P3) (Aa2 : Option Addr) (ca2 : Nat) (a2 : List P3) : List Value := [.slice Aa1 a1.length ca1, .slice Aa2 a2.length ca2]
def pf_l5 (Aa1 : Option Addr) (ca1 : Nat) (a1 : List P3) (Aa2 : Option Addr) (ca2 : Nat) (a2 : List P3) (Ab1 : Option Addr) (cb1 : Nat) (b1 : List P3) (Ab2 : Option Addr) (cb2 : Nat) (b2 : List P3) (γ1 : Nat → Nat) : List Value := [.agg #[.slice Aa1 a1.length ca1, .slice Aa2 a2.length ca2], .agg #[.slice Ab1 b1.length cb1, .slice Ab2 b2.length cb2], .pointer (some ⟨γ1 0, 0, none⟩), .pointer (some ⟨γ1 1, 0, none⟩), .bool true, .pointer (some ⟨γ1 0, 0, none⟩), .slice Aa1 a1.length ca1, .pointer (some ⟨γ1 1, 0, none⟩), .slice Ab1 b1.length cb1, .bool true, .bool true, .pointer (some ⟨γ1 0, 1, none⟩), .slice Aa2 a2.length ca2, .pointer (some ⟨γ1 1, 1, none⟩), .slice Ab2 b2.length cb2, .bool true]
def pf_l6 : List Value := [.bool true]
def pf_b7 (Aa1 : Option Addr) (ca1 : Nat) (a1 : List P3) (Aa2 : Option Addr) (ca2 : Nat) (a2 : List P3) (Ab1 : Option Addr) (cb1 : Nat) (b1 : List P3) (Ab2 : Option Addr) (cb2 : Nat) (b2 : List P3) (γ1 : Nat → Nat) : List Value := (pf_l5 Aa1 ca1 a1 Aa2 ca2 a2 Ab1 cb1 b1 Ab2 cb2 b2 γ1) ++ (pf_l6)
set_option maxHeartbeats 8000000 in
set_option maxRecDepth 100000 in
theorem pfoot_is {w : World} {Aa1 : Option Addr} {ca1 : Nat} {a1 : List P3} (ha1 : Rd w (.slice Aa1 a1.length ca1) 3 encT46 a1) (hla1 : a1.length ≤ 1000) {Aa2 : Option Addr} {ca2 : Nat} {a2 : List P3} (ha2 : Rd w (.slice Aa2 a2.length ca2) 3 encT46 a2) (hla2 : a2.length ≤ 1000) {Ab1 : Option Addr} {cb1 : Nat} {b1 : List P3} (hb1 : Rd w (.slice Ab1 b1.length cb1) 3 encT46 b1) (hlb1 : b1.length ≤ 1000) {Ab2 : Option Addr} {cb2 : Nat} {b2 : List P3} (hb2 : Rd w (.slice Ab2 b2.length cb2) 3 encT46 b2) (hlb2 : b2.length ≤ 1000) : Calls Try.prog 14 #[.agg #[.slice Aa1 a1.length ca1, .slice Aa2 a2.length ca2], .agg #[.slice Ab1 b1.length cb1, .slice Ab2 b2.length cb2]] w fun e w' => e = .returned (.bool (eqF a1 a2 b1 b2)) ∧ Below w.heap.size w w' := by
  refine enter (args := [.agg #[.slice Aa1 a1.length ca1, .slice Aa2 a2.length ca2], .agg #[.slice Ab1 b1.length cb1, .slice Ab2 b2.length cb2]]) (fn := Try.f14) rfl (c := bdy Try.f14) (by kernel_rfl) ?_
  refine ck 3 [] [] fun γ1 => ⟨⟨kt (bdy Try.f14) [1, 0, 0] [], (pf_b2 Aa1 ca1 a1 Aa2 ca2 a2 Ab1 cb1 b1 Ab2 cb2 b2 γ1), [(γ1 1, 24, (pf_c3 Ab1 cb1 b1 Ab2 cb2 b2)), (γ1 0, 24, (pf_c4 Aa1 ca1 a1 Aa2 ca2 a2))]⟩, [], [], by kernel_rfl, .nil, ?_⟩
  have hq : (a1 = b1 ∧ a2 = b2) ∨ (a1 = b1 ∧ ¬ a2 = b2) ∨ ¬ a1 = b1 := by
    by_cases h8 : a1 = b1 <;> by_cases h9 : a2 = b2 <;> simp [h8, h9]
  rcases hq with hq | hq | hq
  · skip
    refine ck 4 [(1, 1), (1, 0)] [] fun γ2 => ⟨⟨kt (bdy Try.f14) [1, 0, 4] [], upv (pf_b2 Aa1 ca1 a1 Aa2 ca2 a2 Ab1 cb1 b1 Ab2 cb2 b2 γ1) [(5, .pointer (some ⟨γ1 0, 0, none⟩)), (6, .slice Aa1 a1.length ca1), (7, .pointer (some ⟨γ1 1, 0, none⟩)), (8, .slice Ab1 b1.length cb1)], [(γ1 1, 24, (pf_c3 Ab1 cb1 b1 Ab2 cb2 b2)), (γ1 0, 24, (pf_c4 Aa1 ca1 a1 Aa2 ca2 a2))]⟩, [(1, γ1 0), (1, γ1 1)], [], by kernel_rfl, .nil, ?_⟩
    refine cp (fun W hW => places_b (b := true) (decide_eq_true hq.1) (ha1.below (hW.old 0 rfl)) (hb1.below (hW.old 0 rfl)) (by omega) (by omega)) ?_
    refine ck 5 [(1, 1), (1, 0)] [] fun γ3 => ⟨⟨kt (bdy Try.f14) [1, 0, 10] [], upv (pf_b2 Aa1 ca1 a1 Aa2 ca2 a2 Ab1 cb1 b1 Ab2 cb2 b2 γ1) [(5, .pointer (some ⟨γ1 0, 0, none⟩)), (6, .slice Aa1 a1.length ca1), (7, .pointer (some ⟨γ1 1, 0, none⟩)), (8, .slice Ab1 b1.length cb1), (9, .bool true), (10, .bool true), (11, .pointer (some ⟨γ1 0, 1, none⟩)), (12, .slice Aa2 a2.length ca2), (13, .pointer (some ⟨γ1 1, 1, none⟩)), (14, .slice Ab2 b2.length cb2)], [(γ1 1, 24, (pf_c3 Ab1 cb1 b1 Ab2 cb2 b2)), (γ1 0, 24, (pf_c4 Aa1 ca1 a1 Aa2 ca2 a2))]⟩, [(1, γ1 0), (1, γ1 1)], [], by kernel_rfl, .nil, ?_⟩
    refine cp (fun W hW => places_b (b := true) (decide_eq_true hq.2) (ha2.below (hW.old 0 rfl)) (hb2.below (hW.old 0 rfl)) (by omega) (by omega)) ?_
    refine ck 2 [] [] fun γ4 => ⟨⟨kt (bdy Try.f14) [1, 1] [], (pf_b7 Aa1 ca1 a1 Aa2 ca2 a2 Ab1 cb1 b1 Ab2 cb2 b2 γ1), [(γ1 1, 24, (pf_c3 Ab1 cb1 b1 Ab2 cb2 b2)), (γ1 0, 24, (pf_c4 Aa1 ca1 a1 Aa2 ca2 a2))]⟩, [], [], by kernel_rfl, .nil, ?_⟩
    refine rt (.bool true) [] [] (fun W hW => ?_)
    have hg : eqF a1 a2 b1 b2 = true := decide_eq_true hq
    rw [hg]
    exact ⟨rfl, (hW.old 0 rfl)⟩
  · skip
    refine ck 4 [(1, 1), (1, 0)] [] fun γ5 => ⟨⟨kt (bdy Try.f14) [1, 0, 4] [], upv (pf_b2 Aa1 ca1 a1 Aa2 ca2 a2 Ab1 cb1 b1 Ab2 cb2 b2 γ1) [(5, .pointer (some ⟨γ1 0, 0, none⟩)), (6, .slice Aa1 a1.length ca1), (7, .pointer (some ⟨γ1 1, 0, none⟩)), (8, .slice Ab1 b1.length cb1)], [(γ1 1, 24, (pf_c3 Ab1 cb1 b1 Ab2 cb2 b2)), (γ1 0, 24, (pf_c4 Aa1 ca1 a1 Aa2 ca2 a2))]⟩, [(1, γ1 0), (1, γ1 1)], [], by kernel_rfl, .nil, ?_⟩
    refine cp (fun W hW => places_b (b := true) (decide_eq_true hq.1) (ha1.below (hW.old 0 rfl)) (hb1.below (hW.old 0 rfl)) (by omega) (by omega)) ?_
    refine ck 5 [(1, 1), (1, 0)] [] fun γ6 => ⟨⟨kt (bdy Try.f14) [1, 0, 10] [], upv (pf_b2 Aa1 ca1 a1 Aa2 ca2 a2 Ab1 cb1 b1 Ab2 cb2 b2 γ1) [(5, .pointer (some ⟨γ1 0, 0, none⟩)), (6, .slice Aa1 a1.length ca1), (7, .pointer (some ⟨γ1 1, 0, none⟩)), (8, .slice Ab1 b1.length cb1), (9, .bool true), (10, .bool true), (11, .pointer (some ⟨γ1 0, 1, none⟩)), (12, .slice Aa2 a2.length ca2), (13, .pointer (some ⟨γ1 1, 1, none⟩)), (14, .slice Ab2 b2.length cb2)], [(γ1 1, 24, (pf_c3 Ab1 cb1 b1 Ab2 cb2 b2)), (γ1 0, 24, (pf_c4 Aa1 ca1 a1 Aa2 ca2 a2))]⟩, [(1, γ1 0), (1, γ1 1)], [], by kernel_rfl, .nil, ?_⟩
    refine cp (fun W hW => places_b (b := false) (decide_eq_false hq.2) (ha2.below (hW.old 0 rfl)) (hb2.below (hW.old 0 rfl)) (by omega) (by omega)) ?_
    refine ck 2 [] [] fun γ7 => ⟨⟨kt (bdy Try.f14) [1, 1] [], upv (pf_b2 Aa1 ca1 a1 Aa2 ca2 a2 Ab1 cb1 b1 Ab2 cb2 b2 γ1) [(5, .pointer (some ⟨γ1 0, 0, none⟩)), (6, .slice Aa1 a1.length ca1), (7, .pointer (some ⟨γ1 1, 0, none⟩)), (8, .slice Ab1 b1.length cb1), (9, .bool true), (10, .bool true), (11, .pointer (some ⟨γ1 0, 1, none⟩)), (12, .slice Aa2 a2.length ca2), (13, .pointer (some ⟨γ1 1, 1, none⟩)), (14, .slice Ab2 b2.length cb2), (15, .bool false), (16, .bool false)], [(γ1 1, 24, (pf_c3 Ab1 cb1 b1 Ab2 cb2 b2)), (γ1 0, 24, (pf_c4 Aa1 ca1 a1 Aa2 ca2 a2))]⟩, [], [], by kernel_rfl, .nil, ?_⟩
    refine rt (.bool false) [] [] (fun W hW => ?_)
    have hg : eqF a1 a2 b1 b2 = false := decide_eq_false (fun h9 => hq.2 h9.2)
    rw [hg]
    exact ⟨rfl, (hW.old 0 rfl)⟩
  · skip
    refine ck 4 [(1, 1), (1, 0)] [] fun γ8 => ⟨⟨kt (bdy Try.f14) [1, 0, 4] [], upv (pf_b2 Aa1 ca1 a1 Aa2 ca2 a2 Ab1 cb1 b1 Ab2 cb2 b2 γ1) [(5, .pointer (some ⟨γ1 0, 0, none⟩)), (6, .slice Aa1 a1.length ca1), (7, .pointer (some ⟨γ1 1, 0, none⟩)), (8, .slice Ab1 b1.length cb1)], [(γ1 1, 24, (pf_c3 Ab1 cb1 b1 Ab2 cb2 b2)), (γ1 0, 24, (pf_c4 Aa1 ca1 a1 Aa2 ca2 a2))]⟩, [(1, γ1 0), (1, γ1 1)], [], by kernel_rfl, .nil, ?_⟩
    refine cp (fun W hW => places_b (b := false) (decide_eq_false hq) (ha1.below (hW.old 0 rfl)) (hb1.below (hW.old 0 rfl)) (by omega) (by omega)) ?_
    refine ck 8 [] [] fun γ9 => ⟨⟨kt (bdy Try.f14) [1, 1] [], upv (pf_b2 Aa1 ca1 a1 Aa2 ca2 a2 Ab1 cb1 b1 Ab2 cb2 b2 γ1) [(5, .pointer (some ⟨γ1 0, 0, none⟩)), (6, .slice Aa1 a1.length ca1), (7, .pointer (some ⟨γ1 1, 0, none⟩)), (8, .slice Ab1 b1.length cb1), (9, .bool false), (10, .bool false), (16, .bool false)], [(γ1 1, 24, (pf_c3 Ab1 cb1 b1 Ab2 cb2 b2)), (γ1 0, 24, (pf_c4 Aa1 ca1 a1 Aa2 ca2 a2))]⟩, [], [], by kernel_rfl, .nil, ?_⟩
    refine rt (.bool false) [] [] (fun W hW => ?_)
    have hg : eqF a1 a2 b1 b2 = false := decide_eq_false (fun h9 => hq h9.1)
    rw [hg]
    exact ⟨rfl, (hW.old 0 rfl)⟩
def sa_l0 (Aa1 : Option Addr) (ca1 : Nat) (a1 : List P3) (Aa2 : Option Addr) (ca2 : Nat) (a2 : List P3) (Ab1 : Option Addr) (cb1 : Nat) (b1 : List P3) (Ab2 : Option Addr) (cb2 : Nat) (b2 : List P3) (γ1 : Nat → Nat) : List Value := [.agg #[.slice Aa1 a1.length ca1, .slice Aa2 a2.length ca2], .agg #[.slice Ab1 b1.length cb1, .slice Ab2 b2.length cb2], .pointer (some ⟨γ1 0, 0, none⟩), .pointer (some ⟨γ1 1, 0, none⟩), .bool false, zz, zz, zz, zz, zz, zz, zz, zz, zz, zz, zz]
def sa_l1 : List Value := [zz, zz, zz, zz, zz, zz, zz, zz, zz, zz, zz, zz, zz]
def sa_b2 (Aa1 : Option Addr) (ca1 : Nat) (a1 : List P3) (Aa2 : Option Addr) (ca2 : Nat) (a2 : List P3) (Ab1 : Option Addr) (cb1 : Nat) (b1 : List P3) (Ab2 : Option Addr) (cb2 : Nat) (b2 : List P3) (γ1 : Nat → Nat) : List Value := (sa_l0 Aa1 ca1 a1 Aa2 ca2 a2 Ab1 cb1 b1 Ab2 cb2 b2 γ1) ++ (sa_l1)
def sa_c3 (Ab1 : Option Addr) (cb1 : Nat) (b1 : List P3) (Ab2 : Option Addr) (cb2 : Nat) (b2 : List P3) : List Value := [.slice Ab1 b1.length cb1, .slice Ab2 b2.length cb2]
def sa_c4 (Aa1 : Option Addr) (ca1 : Nat) (a1 : List P3) (Aa2 : Option Addr) (ca2 : Nat) (a2 : List P3) : List Value := [.slice Aa1 a1.length ca1, .slice Aa2 a2.length ca2]
def sa_c5 : List Value := [.slice none 0 0, .slice none 0 0]
def sa_c6 (a1 : List P3) (a2 : List P3) (Af20 : Option Addr) (Af21 : Option Addr) (cf20 : Nat) (cf21 : Nat) : List Value := [.slice Af20 ((nrmF a1).length) cf20, .slice Af21 ((nrmF a2).length) cf21]
def sa_c7 (b1 : List P3) (b2 : List P3) (Af30 : Option Addr) (Af31 : Option Addr) (cf30 : Nat) (cf31 : Nat) : List Value := [.slice Af30 ((nrmF b1).length) cf30, .slice Af31 ((nrmF b2).length) cf31]
def sa_l8 (Aa1 : Option Addr) (ca1 : Nat) (a1 : List P3) (Aa2 : Option Addr) (ca2 : Nat) (a2 : List P3) (Ab1 : Option Addr) (cb1 : Nat) (b1 : List P3) (Ab2 : Option Addr) (cb2 : Nat) (b2 : List P3) (γ1 : Nat → Nat) (Af20 : Option Addr) (Af21 : Option Addr) (cf20 : Nat) (cf21 : Nat) (γ4 : Nat → Nat) : List Value := [.agg #[.slice Aa1 a1.length ca1, .slice Aa2 a2.length ca2], .agg #[.slice Ab1 b1.length cb1, .slice Ab2 b2.length cb2], .pointer (some ⟨γ1 0, 0, none⟩), .pointer (some ⟨γ1 1, 0, none⟩), .bool false, .pointer (some ⟨γ4 10, 0, none⟩), .pointer (some ⟨γ4 11, 0, none⟩), .pointer (some ⟨γ1 0, 0, none⟩), .slice Aa1 a1.length ca1, .pointer (some ⟨γ1 0, 1, none⟩), .slice Aa2 a2.length ca2, .agg #[.slice Af20 ((nrmF a1).length) cf20, .slice Af21 ((nrmF a2).length) cf21], .pointer (some ⟨γ1 1, 0, none⟩), .slice Ab1 b1.length cb1, .pointer (some ⟨γ1 1, 1, none⟩), .slice Ab2 b2.length cb2]
def sa_l9 (a1 : List P3) (b1 : List P3) (b2 : List P3) (Af20 : Option Addr) (cf20 : Nat) (Af30 : Option Addr) (Af31 : Option Addr) (cf30 : Nat) (cf31 : Nat) (γ4 : Nat → Nat) : List Value := [.agg #[.slice Af30 ((nrmF b1).length) cf30, .slice Af31 ((nrmF b2).length) cf31], .pointer (some ⟨γ4 10, 0, none⟩), .slice Af20 ((nrmF a1).length) cf20, .pointer (some ⟨γ4 11, 0, none⟩), .slice Af30 ((nrmF b1).length) cf30, zz, zz, zz, zz, zz, zz, zz, zz]
def sa_b10 (Aa1 : Option Addr) (ca1 : Nat) (a1 : List P3) (Aa2 : Option Addr) (ca2 : Nat) (a2 : List P3) (Ab1 : Option Addr) (cb1 : Nat) (b1 : List P3) (Ab2 : Option Addr) (cb2 : Nat) (b2 : List P3) (γ1 : Nat → Nat) (Af20 : Option Addr) (Af21 : Option Addr) (cf20 : Nat) (cf21 : Nat) (Af30 : Option Addr) (Af31 : Option Addr) (cf30 : Nat) (cf31 : Nat) (γ4 : Nat → Nat) : List Value := (sa_l8 Aa1 ca1 a1 Aa2 ca2 a2 Ab1 cb1 b1 Ab2 cb2 b2 γ1 Af20 Af21 cf20 cf21 γ4) ++ ((sa_l9 a1 b1 b2 Af20 cf20 Af30 Af31 cf30 cf31 γ4))
set_option maxHeartbeats 8000000 in
set_option maxRecDepth 100000 in
theorem same_is {w : World} {Aa1 : Option Addr} {ca1 : Nat} {a1 : List P3} (ha1 : Rd w (.slice Aa1 a1.length ca1) 3 encT46 a1) (hla1 : a1.length ≤ 12) {Aa2 : Option Addr} {ca2 : Nat} {a2 : List P3} (ha2 : Rd w (.slice Aa2 a2.length ca2) 3 encT46 a2) (hla2 : a2.length ≤ 12) {Ab1 : Option Addr} {cb1 : Nat} {b1 : List P3} (hb1 : Rd w (.slice Ab1 b1.length cb1) 3 encT46 b1) (hlb1 : b1.length ≤ 12) {Ab2 : Option Addr} {cb2 : Nat} {b2 : List P3} (hb2 : Rd w (.slice Ab2 b2.length cb2) 3 encT46 b2) (hlb2 : b2.length ≤ 12) : Calls Try.prog 18 #[.agg #[.slice Aa1 a1.length ca1, .slice Aa2 a2.length ca2], .agg #[.slice Ab1 b1.length cb1, .slice Ab2 b2.length cb2]] w fun e w' => e = .returned (.bool (sameB a1 a2 b1 b2)) ∧ Below w.heap.size w w' := by
  have hna1 := nrm_len a1
  have hna2 := nrm_len a2
  have hnb1 := nrm_len b1
  have hnb2 := nrm_len b2
  refine enter (args := [.agg #[.slice Aa1 a1.length ca1, .slice Aa2 a2.length ca2], .agg #[.slice Ab1 b1.length cb1, .slice Ab2 b2.length cb2]]) (fn := Try.f18) rfl (c := bdy Try.f18) (by kernel_rfl) ?_
  refine ck 3 [] [] fun γ1 => ⟨⟨kt (bdy Try.f18) [1, 0] [], (sa_b2 Aa1 ca1 a1 Aa2 ca2 a2 Ab1 cb1 b1 Ab2 cb2 b2 γ1), [(γ1 1, 24, (sa_c3 Ab1 cb1 b1 Ab2 cb2 b2)), (γ1 0, 24, (sa_c4 Aa1 ca1 a1 Aa2 ca2 a2))]⟩, [], [], by kernel_rfl, .nil, ?_⟩
  refine dr [] [(10, 24, sa_c5), (11, 24, sa_c5)] (.cons (fun g L => by kernel_rfl) (.cons (fun g L => by kernel_rfl) .nil)) ?_
  refine df [0, 1, 2, 3, 5, 6, 7, 8] [(2, 1), (2, 0)] [] [(2, γ1 0), (2, γ1 1)] [] .nil ?_
  refine df' 4 (fun W hW => of_is (ha1.below (hW.old 0 rfl)) (by first | omega | assumption) (ha2.below (hW.old 0 rfl)) (by first | omega | assumption)) ?_
  rintro ⟨⟨Af20, cf20⟩, Af21, cf21⟩
  refine df' 9 (fun W hW => of_is (hb1.below (hW.old 2 rfl)) (by first | omega | assumption) (hb2.below (hW.old 2 rfl)) (by first | omega | assumption)) ?_
  rintro ⟨⟨Af30, cf30⟩, Af31, cf31⟩
  refine dfl fun γ4 => ?_
  refine ds 12 [(2, 0)] [(2, γ4 10)] ?_
  refine ds 13 [(2, 1)] [(2, γ4 11)] ?_
  refine de (fs := (kt (bdy Try.f18) [1, 0] []).tail) ?_
  refine st0 (fs := (kt (bdy Try.f18) [1, 0] []).tail) (upv (sa_b2 Aa1 ca1 a1 Aa2 ca2 a2 Ab1 cb1 b1 Ab2 cb2 b2 γ1) [(5, .pointer (some ⟨γ4 10, 0, none⟩)), (6, .pointer (some ⟨γ4 11, 0, none⟩)), (7, .pointer (some ⟨γ1 0, 0, none⟩)), (8, .slice Aa1 a1.length ca1), (9, .pointer (some ⟨γ1 0, 1, none⟩)), (10, .slice Aa2 a2.length ca2), (11, .agg #[.slice Af20 ((nrmF a1).length) cf20, .slice Af21 ((nrmF a2).length) cf21]), (12, .pointer (some ⟨γ1 1, 0, none⟩)), (13, .slice Ab1 b1.length cb1), (14, .pointer (some ⟨γ1 1, 1, none⟩)), (15, .slice Ab2 b2.length cb2), (16, .agg #[.slice Af30 ((nrmF b1).length) cf30, .slice Af31 ((nrmF b2).length) cf31])]) [(γ4 10, 24, (sa_c6 a1 a2 Af20 Af21 cf20 cf21)), (γ4 11, 24, (sa_c7 b1 b2 Af30 Af31 cf30 cf31)), (γ1 1, 24, (sa_c3 Ab1 cb1 b1 Ab2 cb2 b2)), (γ1 0, 24, (sa_c4 Aa1 ca1 a1 Aa2 ca2 a2))] ?_
  have hq : (nrmF a1 = nrmF b1 ∧ nrmF a2 = nrmF b2) ∨ (nrmF a1 = nrmF b1 ∧ ¬ nrmF a2 = nrmF b2) ∨ ¬ nrmF a1 = nrmF b1 := by
    by_cases h8 : nrmF a1 = nrmF b1 <;> by_cases h9 : nrmF a2 = nrmF b2 <;> simp [h8, h9]
  rcases hq with hq | hq | hq
  · skip
    refine ck 4 [(1, 0), (1, 1)] [] fun γ5 => ⟨⟨kt (bdy Try.f18) [1, 1, 0, 4] [], (sa_b10 Aa1 ca1 a1 Aa2 ca2 a2 Ab1 cb1 b1 Ab2 cb2 b2 γ1 Af20 Af21 cf20 cf21 Af30 Af31 cf30 cf31 γ4), [(γ4 10, 24, (sa_c6 a1 a2 Af20 Af21 cf20 cf21)), (γ4 11, 24, (sa_c7 b1 b2 Af30 Af31 cf30 cf31)), (γ1 1, 24, (sa_c3 Ab1 cb1 b1 Ab2 cb2 b2)), (γ1 0, 24, (sa_c4 Aa1 ca1 a1 Aa2 ca2 a2))]⟩, [(1, γ4 10), (1, γ4 11)], [], by kernel_rfl, .nil, ?_⟩
    refine cp (fun W hW => equal_b (b := true) (decide_eq_true hq.1) (own_rd encT46_len (hW.at 2 rfl)) (own_rd encT46_len (hW.at 0 rfl)) (by omega) (by omega)) ?_
    refine ck 5 [(1, 0), (1, 1)] [] fun γ6 => ⟨⟨kt (bdy Try.f18) [1, 1, 0, 10] [], upv (sa_b10 Aa1 ca1 a1 Aa2 ca2 a2 Ab1 cb1 b1 Ab2 cb2 b2 γ1 Af20 Af21 cf20 cf21 Af30 Af31 cf30 cf31 γ4) [(21, .bool true), (22, .bool true), (23, .pointer (some ⟨γ4 10, 1, none⟩)), (24, .slice Af21 ((nrmF a2).length) cf21), (25, .pointer (some ⟨γ4 11, 1, none⟩)), (26, .slice Af31 ((nrmF b2).length) cf31)], [(γ4 10, 24, (sa_c6 a1 a2 Af20 Af21 cf20 cf21)), (γ4 11, 24, (sa_c7 b1 b2 Af30 Af31 cf30 cf31)), (γ1 1, 24, (sa_c3 Ab1 cb1 b1 Ab2 cb2 b2)), (γ1 0, 24, (sa_c4 Aa1 ca1 a1 Aa2 ca2 a2))]⟩, [(1, γ4 10), (1, γ4 11)], [], by kernel_rfl, .nil, ?_⟩
    refine cp (fun W hW => equal_b (b := true) (decide_eq_true hq.2) (own_rd encT46_len (hW.at 3 rfl)) (own_rd encT46_len (hW.at 1 rfl)) (by omega) (by omega)) ?_
    refine ck 2 [] [] fun γ7 => ⟨⟨kt (bdy Try.f18) [1, 1, 1] [], upv (sa_b10 Aa1 ca1 a1 Aa2 ca2 a2 Ab1 cb1 b1 Ab2 cb2 b2 γ1 Af20 Af21 cf20 cf21 Af30 Af31 cf30 cf31 γ4) [(4, .bool true), (21, .bool true), (22, .bool true), (23, .pointer (some ⟨γ4 10, 1, none⟩)), (24, .slice Af21 ((nrmF a2).length) cf21), (25, .pointer (some ⟨γ4 11, 1, none⟩)), (26, .slice Af31 ((nrmF b2).length) cf31), (27, .bool true), (28, .bool true)], [(γ4 10, 24, (sa_c6 a1 a2 Af20 Af21 cf20 cf21)), (γ4 11, 24, (sa_c7 b1 b2 Af30 Af31 cf30 cf31)), (γ1 1, 24, (sa_c3 Ab1 cb1 b1 Ab2 cb2 b2)), (γ1 0, 24, (sa_c4 Aa1 ca1 a1 Aa2 ca2 a2))]⟩, [], [], by kernel_rfl, .nil, ?_⟩
    refine rt (.bool true) [] [] (fun W hW => ?_)
    have hg : sameB a1 a2 b1 b2 = true := decide_eq_true hq
    rw [hg]
    exact ⟨rfl, (hW.old 4 rfl)⟩
  · skip
    refine ck 4 [(1, 0), (1, 1)] [] fun γ8 => ⟨⟨kt (bdy Try.f18) [1, 1, 0, 4] [], (sa_b10 Aa1 ca1 a1 Aa2 ca2 a2 Ab1 cb1 b1 Ab2 cb2 b2 γ1 Af20 Af21 cf20 cf21 Af30 Af31 cf30 cf31 γ4), [(γ4 10, 24, (sa_c6 a1 a2 Af20 Af21 cf20 cf21)), (γ4 11, 24, (sa_c7 b1 b2 Af30 Af31 cf30 cf31)), (γ1 1, 24, (sa_c3 Ab1 cb1 b1 Ab2 cb2 b2)), (γ1 0, 24, (sa_c4 Aa1 ca1 a1 Aa2 ca2 a2))]⟩, [(1, γ4 10), (1, γ4 11)], [], by kernel_rfl, .nil, ?_⟩
    refine cp (fun W hW => equal_b (b := true) (decide_eq_true hq.1) (own_rd encT46_len (hW.at 2 rfl)) (own_rd encT46_len (hW.at 0 rfl)) (by omega) (by omega)) ?_
    refine ck 5 [(1, 0), (1, 1)] [] fun γ9 => ⟨⟨kt (bdy Try.f18) [1, 1, 0, 10] [], upv (sa_b10 Aa1 ca1 a1 Aa2 ca2 a2 Ab1 cb1 b1 Ab2 cb2 b2 γ1 Af20 Af21 cf20 cf21 Af30 Af31 cf30 cf31 γ4) [(21, .bool true), (22, .bool true), (23, .pointer (some ⟨γ4 10, 1, none⟩)), (24, .slice Af21 ((nrmF a2).length) cf21), (25, .pointer (some ⟨γ4 11, 1, none⟩)), (26, .slice Af31 ((nrmF b2).length) cf31)], [(γ4 10, 24, (sa_c6 a1 a2 Af20 Af21 cf20 cf21)), (γ4 11, 24, (sa_c7 b1 b2 Af30 Af31 cf30 cf31)), (γ1 1, 24, (sa_c3 Ab1 cb1 b1 Ab2 cb2 b2)), (γ1 0, 24, (sa_c4 Aa1 ca1 a1 Aa2 ca2 a2))]⟩, [(1, γ4 10), (1, γ4 11)], [], by kernel_rfl, .nil, ?_⟩
    refine cp (fun W hW => equal_b (b := false) (decide_eq_false hq.2) (own_rd encT46_len (hW.at 3 rfl)) (own_rd encT46_len (hW.at 1 rfl)) (by omega) (by omega)) ?_
    refine ck 2 [] [] fun γ10 => ⟨⟨kt (bdy Try.f18) [1, 1, 1] [], upv (sa_b10 Aa1 ca1 a1 Aa2 ca2 a2 Ab1 cb1 b1 Ab2 cb2 b2 γ1 Af20 Af21 cf20 cf21 Af30 Af31 cf30 cf31 γ4) [(21, .bool true), (22, .bool true), (23, .pointer (some ⟨γ4 10, 1, none⟩)), (24, .slice Af21 ((nrmF a2).length) cf21), (25, .pointer (some ⟨γ4 11, 1, none⟩)), (26, .slice Af31 ((nrmF b2).length) cf31), (27, .bool false), (28, .bool false)], [(γ4 10, 24, (sa_c6 a1 a2 Af20 Af21 cf20 cf21)), (γ4 11, 24, (sa_c7 b1 b2 Af30 Af31 cf30 cf31)), (γ1 1, 24, (sa_c3 Ab1 cb1 b1 Ab2 cb2 b2)), (γ1 0, 24, (sa_c4 Aa1 ca1 a1 Aa2 ca2 a2))]⟩, [], [], by kernel_rfl, .nil, ?_⟩
    refine rt (.bool false) [] [] (fun W hW => ?_)
    have hg : sameB a1 a2 b1 b2 = false := decide_eq_false (fun h9 => hq.2 h9.2)
    rw [hg]
    exact ⟨rfl, (hW.old 4 rfl)⟩
  · skip
    refine ck 4 [(1, 0), (1, 1)] [] fun γ11 => ⟨⟨kt (bdy Try.f18) [1, 1, 0, 4] [], (sa_b10 Aa1 ca1 a1 Aa2 ca2 a2 Ab1 cb1 b1 Ab2 cb2 b2 γ1 Af20 Af21 cf20 cf21 Af30 Af31 cf30 cf31 γ4), [(γ4 10, 24, (sa_c6 a1 a2 Af20 Af21 cf20 cf21)), (γ4 11, 24, (sa_c7 b1 b2 Af30 Af31 cf30 cf31)), (γ1 1, 24, (sa_c3 Ab1 cb1 b1 Ab2 cb2 b2)), (γ1 0, 24, (sa_c4 Aa1 ca1 a1 Aa2 ca2 a2))]⟩, [(1, γ4 10), (1, γ4 11)], [], by kernel_rfl, .nil, ?_⟩
    refine cp (fun W hW => equal_b (b := false) (decide_eq_false hq) (own_rd encT46_len (hW.at 2 rfl)) (own_rd encT46_len (hW.at 0 rfl)) (by omega) (by omega)) ?_
    refine ck 8 [] [] fun γ12 => ⟨⟨kt (bdy Try.f18) [1, 1, 1] [], upv (sa_b10 Aa1 ca1 a1 Aa2 ca2 a2 Ab1 cb1 b1 Ab2 cb2 b2 γ1 Af20 Af21 cf20 cf21 Af30 Af31 cf30 cf31 γ4) [(21, .bool false), (22, .bool false), (28, .bool false)], [(γ4 10, 24, (sa_c6 a1 a2 Af20 Af21 cf20 cf21)), (γ4 11, 24, (sa_c7 b1 b2 Af30 Af31 cf30 cf31)), (γ1 1, 24, (sa_c3 Ab1 cb1 b1 Ab2 cb2 b2)), (γ1 0, 24, (sa_c4 Aa1 ca1 a1 Aa2 ca2 a2))]⟩, [], [], by kernel_rfl, .nil, ?_⟩
    refine rt (.bool false) [] [] (fun W hW => ?_)
    have hg : sameB a1 a2 b1 b2 = false := decide_eq_false (fun h9 => hq h9.1)
    rw [hg]
    exact ⟨rfl, (hW.old 4 rfl)⟩
end Go.Proofs.Ythcmcekjgecnhac.Sr
