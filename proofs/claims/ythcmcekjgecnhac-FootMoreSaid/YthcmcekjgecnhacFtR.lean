/- foot.Of: each place once, rising. No condition beside those that each theorem names. -/
import Derived.Test.YthcmcekjgecnhacFtQ
import Derived.Test.YthcmcekjgecnhacFtJ
import Derived.Test.YthcmcekjgecnhacFtO
namespace Go.Proofs.Ythcmcekjgecnhac.Sr
open Go.RowKit Go.Proofs.YthcmcekjgecnhacM.Mach
set_option linter.unusedVariables false
set_option linter.unusedSimpArgs false
def gr0_l0 (n : Nat) : List Value := [.slice none 0 0, .int .i64 ((n : Nat) : Int), zz, zz, .slice none 0 0, .int .i64 ((n : Nat) : Int), .bool false, zz, .int .i64 ((n : Nat) : Int), .slice none 0 0, .int .i64 0, .slice none 0 0, .int .i64 0, .int .i64 0, .int .i64 ((n : Nat) : Int), .int .i64 ((n : Nat) : Int)]
def gr0_l1 : List Value := [.bool false, zz, zz, zz, zz, zz, zz, zz, zz, zz, .slice none 0 0]
def gr0_b2 (n : Nat) : List Value := (gr0_l0 n) ++ (gr0_l1)
def gr1_l0 (n : Nat) : List Value := [.slice none 0 0, .int .i64 ((n : Nat) : Int), zz, zz, .slice none 0 0, .int .i64 ((n : Nat) : Int), .bool false, zz, .int .i64 ((n : Nat) : Int), .slice none 0 0, .int .i64 0, .slice none 0 0, .int .i64 0, .int .i64 0, .int .i64 ((n : Nat) : Int), .int .i64 ((n : Nat) : Int)]
def gr1_l1 : List Value := [.bool true, .slice none 0 0, .slice none 0 0, .int .i64 0, zz, zz, zz, zz, zz, zz, zz]
def gr1_b2 (n : Nat) : List Value := (gr1_l0 n) ++ (gr1_l1)
set_option maxHeartbeats 8000000 in
set_option maxRecDepth 100000 in
theorem grow_is (n : Nat) (hn : n ≤ 1000) (w : World) : Calls Try.prog 77 #[.slice none 0 0, .int .i64 ((n : Nat) : Int)] w fun e w' => ∃ x : Option Addr × Nat, e = .returned (.slice x.1 0 x.2) ∧ Fresh w w' [rowA 46 3 (.slice x.1 0 x.2) ([] : List (P3)).length (([] : List (P3)).flatMap encT46)] := by
  by_cases h0 : n = 0
  · skip
    refine enter (args := [.slice none 0 0, .int .i64 ((n : Nat) : Int)]) (fn := Try.f77) rfl (c := bdy Try.f77) (by kernel_rfl) ?_
    refine ck 15 [] [(2, .bool false), (9, .int .i64 ((n : Nat) : Int)), (12, .bool false)] fun γ1 => ⟨⟨kt (bdy Try.f77) [1, 1, 1, 1] [], (gr0_b2 n), []⟩, [], [Value.bool (decide ((((n : Nat) : Int) : Int) < 0)) = .bool false, Value.int .i64 (IntKind.wrap .i64 (((n : Nat) : Int) - 0)) = .int .i64 ((n : Nat) : Int), Value.bool (decide ((((n : Nat) : Int) : Int) > 0)) = .bool false], by kernel_rfl, (.cons (cbF (by omega)) (.cons (congrArg (Value.int .i64) (by rw [IntKind.wrap_i64]; omega)) (.cons (cbF (by omega)) .nil))), ?_⟩
    refine nilrow 46 3 ?_
    refine rt (.slice none 0 0) [] [] (fun W hW => ?_)
    exact ⟨(none, 0), rfl, Fresh.of (R := [rowA 46 3 (.slice none 0 0) ([] : List (P3)).length (([] : List (P3)).flatMap encT46)]) (hW.perm (List.Perm.refl _)) (.cons_cons _ (.cons_cons _ (.slnil)))⟩
  · skip
    refine enter (args := [.slice none 0 0, .int .i64 ((n : Nat) : Int)]) (fn := Try.f77) rfl (c := bdy Try.f77) (by kernel_rfl) ?_
    refine ck 16 [] [(2, .bool false), (9, .int .i64 ((n : Nat) : Int)), (12, .bool true)] fun γ1 => ⟨⟨kt (bdy Try.f77) [1, 1, 0, 1, 1, 0, 3] [], (gr1_b2 n), []⟩, [], [Value.bool (decide ((((n : Nat) : Int) : Int) < 0)) = .bool false, Value.int .i64 (IntKind.wrap .i64 (((n : Nat) : Int) - 0)) = .int .i64 ((n : Nat) : Int), Value.bool (decide ((((n : Nat) : Int) : Int) > 0)) = .bool true], by kernel_rfl, (.cons (cbF (by omega)) (.cons (congrArg (Value.int .i64) (by rw [IntKind.wrap_i64]; omega)) (.cons (cbT (by omega)) .nil))), ?_⟩
    refine sl0 (A := none) (n := 0) (c := 0) (sz := 3) (some (.int .i64 0)) none 0 0 rfl rfl rfl (by omega) (by omega) ?_ none rfl
    refine ck 1 [] [] fun γ2 => ⟨⟨kt (bdy Try.f77) [1, 1, 0, 1, 1, 0, 5] [], upv (gr1_b2 n) [(20, .slice none 0 0), (21, .int .i64 ((n : Nat) : Int))], []⟩, [], [], by kernel_rfl, .nil, ?_⟩
    refine apz (e := 46) (x := ((n : Nat) : Int)) (kk := .i64) (sz := 3) (bytes := 24) n (by rfl) (by first | decide | omega | (simp only [maxLen]; omega)) (by first | decide | omega | (simp only [maxLen]; omega)) (by first | decide | omega | (simp only [maxLen]; omega)) (by decide) (fun g3 c4 hcp4 => ?_)
    refine ck 2 [] [] fun γ5 => ⟨⟨kt (bdy Try.f77) [1, 1, 0, 1, 1, 0, 8] [], upv (gr1_b2 n) [(20, .slice none 0 0), (21, .int .i64 ((n : Nat) : Int)), (22, .slice (some ⟨g3, 0, none⟩) n c4), (23, .slice none 0 0), (24, .int .i64 0)], []⟩, [], [], by kernel_rfl, .nil, ?_⟩
    refine sl0 (A := some ⟨g3, 0, none⟩) (n := n) (c := c4) (sz := 3) (some (.int .i64 0)) none 0 c4 rfl rfl rfl (by omega) (by omega) ?_ none rfl
    refine ck 3 [] [] fun γ6 => ⟨⟨kt (bdy Try.f77) [1, 1, 1, 1] [], upv (gr1_b2 n) [(0, .slice (some ⟨g3, 0, none⟩) 0 c4), (4, .slice (some ⟨g3, 0, none⟩) 0 c4), (20, .slice none 0 0), (21, .int .i64 ((n : Nat) : Int)), (22, .slice (some ⟨g3, 0, none⟩) n c4), (23, .slice none 0 0), (24, .int .i64 0), (25, .slice (some ⟨g3, 0, none⟩) 0 c4), (26, .slice (some ⟨g3, 0, none⟩) 0 c4)], []⟩, [], [], by kernel_rfl, .nil, ?_⟩
    refine rt (.slice (some ⟨g3, 0, none⟩) 0 c4) [] [] (fun W hW => ?_)
    exact ⟨(some ⟨g3, 0, none⟩, c4), rfl, Fresh.of (R := [rowA 46 3 (.slice (some ⟨g3, 0, none⟩) 0 c4) ([] : List (Int × Int × Int)).length (([] : List (Int × Int × Int)).flatMap encT46)]) (hW.perm (List.Perm.refl _)) (.cons_cons _ (.cons_cons _ (.slnil)))⟩
theorem compact_n {w : World} {A : Option Addr} {n c : Nat} {a ks0 : List P3} (hlen : ks0.length = n) (hn : n ≤ 1000) (hp : a.Perm ks0) (hs : ∀ p q, p < q → q < n → ltP ks0[q]! ks0[p]! = false) (hown : ownR w 46 3 (.slice A n c) n (ks0.flatMap encT46)) : Calls Try.prog 55 #[.slice A n c] w fun e w' => ∃ x : Unit, e = .returned (.slice A (nrmF a).length c) ∧ Turned (.slice A n c) w w' ∧ ownR w' 46 3 (.slice A n c) n ((nrmF a ++ List.replicate (n - (nrmF a).length) (0, 0, 0)).flatMap encT46) := by
  have e := nrm_uniq hp (sorted_pw hlen hs)
  refine (compact_is hlen hn hown).mono fun e' w' h => ?_
  obtain ⟨x, h1, h2, h3⟩ := h
  unfold cpd at h3
  rw [e, hlen] at h3
  rw [e] at h1
  exact ⟨x, h1, h2, h3⟩
def of_l0 (Aa1 : Option Addr) (ca1 : Nat) (a1 : List P3) (Aa2 : Option Addr) (ca2 : Nat) (a2 : List P3) (γ1 : Nat → Nat) : List Value := [.slice Aa1 a1.length ca1, .slice Aa2 a2.length ca2, zz, zz, .pointer (some ⟨γ1 0, 0, none⟩), .slice Aa1 a1.length ca1, .slice (some ⟨γ1 2, 0, none⟩) 1 1, zz, zz, zz, zz, zz]
def of_c1 : List Value := [.slice none 0 0, .slice none 0 0]
def of_l2 (γ1 : Nat → Nat) : List Value := [.slice (some ⟨γ1 2, 0, none⟩) 1 1, zz, .slice none 0 0, zz, .slice (some ⟨γ1 2, 0, none⟩) 1 1, zz, zz, zz, zz, zz]
def of_l3 (γ1 : Nat → Nat) : List Value := [.slice (some ⟨γ1 2, 0, none⟩) 1 1, zz, .slice none 0 0, .int .i64 0, zz, zz, zz, zz, zz, .slice (some ⟨γ1 2, 0, none⟩) 1 1, .int .i64 1, .int .i64 0, zz, zz, zz, zz]
def of_l4 : List Value := [zz, zz, zz, zz, zz, zz, zz, zz, zz, zz, zz, zz, zz, zz, zz, zz]
def of_l5 : List Value := [zz, zz, zz, zz]
def of_b6 (γ1 : Nat → Nat) : List Value := (of_l3 γ1) ++ (of_l4 ++ (of_l5))
def of_l7 (Aa1 : Option Addr) (ca1 : Nat) (a1 : List P3) (γ1 : Nat → Nat) : List Value := [.slice (some ⟨γ1 2, 0, none⟩) 1 1, zz, .slice none 0 0, .int .i64 ((a1.length : Nat) : Int), zz, .slice Aa1 a1.length ca1, zz, zz, zz, .slice (some ⟨γ1 2, 0, none⟩) 1 1, .int .i64 1, .int .i64 1, .bool true, .pointer (some ⟨γ1 2, 0, none⟩), .slice Aa1 a1.length ca1, .int .i64 0]
def of_l8 (Aa1 : Option Addr) (ca1 : Nat) (a1 : List P3) : List Value := [.slice Aa1 a1.length ca1, .int .i64 ((a1.length : Nat) : Int), .int .i64 ((a1.length : Nat) : Int), .int .i64 ((a1.length : Nat) : Int), .bool false, zz, .int .i64 1, zz, zz, zz, zz, zz, zz, zz, zz, zz]
def of_b9 (Aa1 : Option Addr) (ca1 : Nat) (a1 : List P3) (γ1 : Nat → Nat) : List Value := (of_l7 Aa1 ca1 a1 γ1) ++ ((of_l8 Aa1 ca1 a1) ++ (of_l5))
def of_l10 (Aa1 : Option Addr) (ca1 : Nat) (a1 : List P3) (γ1 : Nat → Nat) (Ag9 : Option Addr) (cg9 : Nat) : List Value := [.slice (some ⟨γ1 2, 0, none⟩) 1 1, zz, .slice none 0 0, .int .i64 ((a1.length : Nat) : Int), zz, .slice Aa1 a1.length ca1, .slice Ag9 0 cg9, zz, .slice Aa1 a1.length ca1, .slice (some ⟨γ1 2, 0, none⟩) 1 1, .int .i64 1, .int .i64 1, .bool false, .pointer (some ⟨γ1 2, 0, none⟩), .slice Aa1 a1.length ca1, .int .i64 0]
def of_l11 (Aa1 : Option Addr) (ca1 : Nat) (a1 : List P3) (γ1 : Nat → Nat) (Ag9 : Option Addr) (cg9 : Nat) : List Value := [.slice Aa1 a1.length ca1, .int .i64 ((a1.length : Nat) : Int), .int .i64 ((a1.length : Nat) : Int), .int .i64 ((a1.length : Nat) : Int), .bool false, zz, .int .i64 1, .int .i64 ((a1.length : Nat) : Int), .slice Ag9 0 cg9, .slice (some ⟨γ1 2, 0, none⟩) 1 1, .int .i64 1, .int .i64 0, .bool true, .pointer (some ⟨γ1 2, 0, none⟩), .slice Aa1 a1.length ca1, .slice Ag9 0 cg9]
def of_l12 (Aa1 : Option Addr) (ca1 : Nat) (a1 : List P3) : List Value := [.slice Aa1 a1.length ca1, zz, zz, zz]
def of_b13 (Aa1 : Option Addr) (ca1 : Nat) (a1 : List P3) (γ1 : Nat → Nat) (Ag9 : Option Addr) (cg9 : Nat) : List Value := (of_l10 Aa1 ca1 a1 γ1 Ag9 cg9) ++ ((of_l11 Aa1 ca1 a1 γ1 Ag9 cg9) ++ ((of_l12 Aa1 ca1 a1)))
def of_l14 (a1 : List P3) (γ1 : Nat → Nat) (A13 : Option Addr) (c13 : Nat) : List Value := [.slice (some ⟨γ1 2, 0, none⟩) 1 1, zz, .slice none 0 0, .slice A13 a1.length c13, .slice (some ⟨γ1 2, 0, none⟩) 1 1, .slice A13 a1.length c13, .slice A13 a1.length c13, zz, zz, zz]
def of_l15 (Aa1 : Option Addr) (ca1 : Nat) (a1 : List P3) (Aa2 : Option Addr) (ca2 : Nat) (a2 : List P3) (γ1 : Nat → Nat) (A13 : Option Addr) (c13 : Nat) (γ20 : Nat → Nat) : List Value := [.slice Aa1 a1.length ca1, .slice Aa2 a2.length ca2, zz, zz, .pointer (some ⟨γ1 0, 0, none⟩), .slice Aa1 a1.length ca1, .slice (some ⟨γ1 2, 0, none⟩) 1 1, .slice A13 ((nrmF a1).length) c13, .slice Aa2 a2.length ca2, .slice (some ⟨γ20 1, 0, none⟩) 1 1, zz, zz]
def of_l16 (γ20 : Nat → Nat) : List Value := [.slice (some ⟨γ20 1, 0, none⟩) 1 1, zz, .slice none 0 0, zz, .slice (some ⟨γ20 1, 0, none⟩) 1 1, zz, zz, zz, zz, zz]
def of_l17 (γ20 : Nat → Nat) : List Value := [.slice (some ⟨γ20 1, 0, none⟩) 1 1, zz, .slice none 0 0, .int .i64 0, zz, zz, zz, zz, zz, .slice (some ⟨γ20 1, 0, none⟩) 1 1, .int .i64 1, .int .i64 0, zz, zz, zz, zz]
def of_b18 (γ20 : Nat → Nat) : List Value := (of_l17 γ20) ++ (of_l4 ++ (of_l5))
def of_l19 (Aa2 : Option Addr) (ca2 : Nat) (a2 : List P3) (γ20 : Nat → Nat) : List Value := [.slice (some ⟨γ20 1, 0, none⟩) 1 1, zz, .slice none 0 0, .int .i64 ((a2.length : Nat) : Int), zz, .slice Aa2 a2.length ca2, zz, zz, zz, .slice (some ⟨γ20 1, 0, none⟩) 1 1, .int .i64 1, .int .i64 1, .bool true, .pointer (some ⟨γ20 1, 0, none⟩), .slice Aa2 a2.length ca2, .int .i64 0]
def of_l20 (Aa2 : Option Addr) (ca2 : Nat) (a2 : List P3) : List Value := [.slice Aa2 a2.length ca2, .int .i64 ((a2.length : Nat) : Int), .int .i64 ((a2.length : Nat) : Int), .int .i64 ((a2.length : Nat) : Int), .bool false, zz, .int .i64 1, zz, zz, zz, zz, zz, zz, zz, zz, zz]
def of_b21 (Aa2 : Option Addr) (ca2 : Nat) (a2 : List P3) (γ20 : Nat → Nat) : List Value := (of_l19 Aa2 ca2 a2 γ20) ++ ((of_l20 Aa2 ca2 a2) ++ (of_l5))
def of_l22 (Aa2 : Option Addr) (ca2 : Nat) (a2 : List P3) (γ20 : Nat → Nat) (Ag28 : Option Addr) (cg28 : Nat) : List Value := [.slice (some ⟨γ20 1, 0, none⟩) 1 1, zz, .slice none 0 0, .int .i64 ((a2.length : Nat) : Int), zz, .slice Aa2 a2.length ca2, .slice Ag28 0 cg28, zz, .slice Aa2 a2.length ca2, .slice (some ⟨γ20 1, 0, none⟩) 1 1, .int .i64 1, .int .i64 1, .bool false, .pointer (some ⟨γ20 1, 0, none⟩), .slice Aa2 a2.length ca2, .int .i64 0]
def of_l23 (Aa2 : Option Addr) (ca2 : Nat) (a2 : List P3) (γ20 : Nat → Nat) (Ag28 : Option Addr) (cg28 : Nat) : List Value := [.slice Aa2 a2.length ca2, .int .i64 ((a2.length : Nat) : Int), .int .i64 ((a2.length : Nat) : Int), .int .i64 ((a2.length : Nat) : Int), .bool false, zz, .int .i64 1, .int .i64 ((a2.length : Nat) : Int), .slice Ag28 0 cg28, .slice (some ⟨γ20 1, 0, none⟩) 1 1, .int .i64 1, .int .i64 0, .bool true, .pointer (some ⟨γ20 1, 0, none⟩), .slice Aa2 a2.length ca2, .slice Ag28 0 cg28]
def of_l24 (Aa2 : Option Addr) (ca2 : Nat) (a2 : List P3) : List Value := [.slice Aa2 a2.length ca2, zz, zz, zz]
def of_b25 (Aa2 : Option Addr) (ca2 : Nat) (a2 : List P3) (γ20 : Nat → Nat) (Ag28 : Option Addr) (cg28 : Nat) : List Value := (of_l22 Aa2 ca2 a2 γ20 Ag28 cg28) ++ ((of_l23 Aa2 ca2 a2 γ20 Ag28 cg28) ++ ((of_l24 Aa2 ca2 a2)))
def of_l26 (a2 : List P3) (γ20 : Nat → Nat) (A32 : Option Addr) (c32 : Nat) : List Value := [.slice (some ⟨γ20 1, 0, none⟩) 1 1, zz, .slice none 0 0, .slice A32 a2.length c32, .slice (some ⟨γ20 1, 0, none⟩) 1 1, .slice A32 a2.length c32, .slice A32 a2.length c32, zz, zz, zz]
def of_l27 (Aa1 : Option Addr) (ca1 : Nat) (a1 : List P3) (Aa2 : Option Addr) (ca2 : Nat) (a2 : List P3) (γ1 : Nat → Nat) (A13 : Option Addr) (c13 : Nat) (γ20 : Nat → Nat) (A32 : Option Addr) (c32 : Nat) : List Value := [.slice Aa1 a1.length ca1, .slice Aa2 a2.length ca2, zz, zz, .pointer (some ⟨γ1 0, 0, none⟩), .slice Aa1 a1.length ca1, .slice (some ⟨γ1 2, 0, none⟩) 1 1, .slice A13 ((nrmF a1).length) c13, .slice Aa2 a2.length ca2, .slice (some ⟨γ20 1, 0, none⟩) 1 1, .slice A32 ((nrmF a2).length) c32, .agg #[.slice A13 ((nrmF a1).length) c13, .slice A32 ((nrmF a2).length) c32]]
def of_c28 (a1 : List P3) (a2 : List P3) (A13 : Option Addr) (c13 : Nat) (A32 : Option Addr) (c32 : Nat) : List Value := [.slice A13 ((nrmF a1).length) c13, .slice A32 ((nrmF a2).length) c32]
set_option maxHeartbeats 8000000 in
set_option maxRecDepth 100000 in
theorem of_is {w : World} {Aa1 : Option Addr} {ca1 : Nat} {a1 : List P3} (ha1 : Rd w (.slice Aa1 a1.length ca1) 3 encT46 a1) (hla1 : a1.length ≤ 12) {Aa2 : Option Addr} {ca2 : Nat} {a2 : List P3} (ha2 : Rd w (.slice Aa2 a2.length ca2) 3 encT46 a2) (hla2 : a2.length ≤ 12) : Calls Try.prog 12 #[.slice Aa1 a1.length ca1, .slice Aa2 a2.length ca2] w fun e w' => ∃ x : (Option Addr × Nat) × Option Addr × Nat, e = .returned (.agg #[.slice x.1.1 (nrmF a1).length x.1.2, .slice x.2.1 (nrmF a2).length x.2.2]) ∧ Fresh w w' [rowA 46 3 (.slice x.1.1 (nrmF a1).length x.1.2) (nrmF a1).length ((nrmF a1).flatMap encT46), rowA 46 3 (.slice x.2.1 (nrmF a2).length x.2.2) (nrmF a2).length ((nrmF a2).flatMap encT46)] := by
  refine enter (args := [.slice Aa1 a1.length ca1, .slice Aa2 a2.length ca2]) (fn := Try.f12) rfl (c := bdy Try.f12) (by kernel_rfl) ?_
  refine ck 3 [] [] fun γ1 => ⟨⟨kt (bdy Try.f12) [1, 0, 2] [], (of_l0 Aa1 ca1 a1 Aa2 ca2 a2 γ1), [(γ1 2, 22, [.slice Aa1 a1.length ca1]), (γ1 0, 24, of_c1)]⟩, [], [], by kernel_rfl, .nil, ?_⟩
  refine ci (f := 30) (args := [.slice (some ⟨γ1 2, 0, none⟩) 1 1]) (fn := Try.f30) (c := bdy Try.f30) rfl (fun R2 hR2 => ?_)
  refine ck 2 [] [] fun γ3 => ⟨⟨kt (bdy Try.f30) [1, 0, 1] [], (of_l2 γ1), [(γ1 2, 22, [.slice Aa1 a1.length ca1]), (γ1 0, 24, of_c1)]⟩, [], [], by kernel_rfl, .nil, ?_⟩
  refine ci (f := 52) (args := [.slice (some ⟨γ1 2, 0, none⟩) 1 1]) (fn := Try.f52) (c := bdy Try.f52) rfl (fun R4 hR4 => ?_)
  refine ck 5 [] [] fun γ5 => ⟨⟨kt (bdy Try.f52) [1, 1, 0, 1, 0] [], (of_b6 γ1), [(γ1 2, 22, [.slice Aa1 a1.length ca1]), (γ1 0, 24, of_c1)]⟩, [], [], by kernel_rfl, .nil, ?_⟩
  refine lu 4 (fun I6 hI6 => ?_)
  refine ck 13 [(1, 0)] [(7, .int .i64 ((a1.length : Nat) : Int)), (10, .bool false)] fun γ7 => ⟨⟨ktp (I6 4) (kt (bdy Try.f52) [1, 1, 0, 1, 0] []), (of_b9 Aa1 ca1 a1 γ1), [(γ1 2, 22, [.slice Aa1 a1.length ca1]), (γ1 0, 24, of_c1)]⟩, [(1, γ1 2)], [(0 : Int) ≤ 0 ∧ 0 < ((1 : Nat) : Int), Value.int .i64 (IntKind.wrap .i64 (0 + ((a1.length : Nat) : Int))) = .int .i64 ((a1.length : Nat) : Int), Value.bool (decide ((((a1.length : Nat) : Int) : Int) < 0)) = .bool false], by kernel_rfl, (.cons ⟨by omega, by omega⟩ (.cons (congrArg (Value.int .i64) (by rw [IntKind.wrap_i64]; omega)) (.cons (cbF (by omega)) .nil))), ?_⟩
  refine lv hI6 3 ?_
  refine ck 2 [] [] fun γ8 => ⟨⟨kt (bdy Try.f52) [1, 1, 1, 0, 1] [], upv (of_b9 Aa1 ca1 a1 γ1) [(12, .bool false), (23, .int .i64 ((a1.length : Nat) : Int))], [(γ1 2, 22, [.slice Aa1 a1.length ca1]), (γ1 0, 24, of_c1)]⟩, [], [], by kernel_rfl, .nil, ?_⟩
  refine cf (fun W hW => grow_is (a1.length) (by omega) W) ?_
  rintro ⟨Ag9, cg9⟩
  refine ck 4 [] [] fun γ10 => ⟨⟨kt (bdy Try.f52) [1, 1, 1, 1, 0, 1, 0] [], upv (of_b9 Aa1 ca1 a1 γ1) [(6, .slice Ag9 0 cg9), (12, .bool false), (23, .int .i64 ((a1.length : Nat) : Int)), (24, .slice Ag9 0 cg9), (25, .slice (some ⟨γ1 2, 0, none⟩) 1 1), (26, .int .i64 1), (27, .int .i64 0)], [(γ1 2, 22, [.slice Aa1 a1.length ca1]), (γ1 0, 24, of_c1)]⟩, [], [], by kernel_rfl, .nil, ?_⟩
  refine lu 4 (fun I11 hI11 => ?_)
  refine ck 6 [(1, 0)] [] fun γ12 => ⟨⟨ktl [1, 1, 0, 0, 1, 2] (I11 4) (kt (bdy Try.f52) [1, 1, 1, 1, 0, 1, 0] []), (of_b13 Aa1 ca1 a1 γ1 Ag9 cg9), [(γ1 2, 22, [.slice Aa1 a1.length ca1]), (γ1 0, 24, of_c1)]⟩, [(1, γ1 2)], [(0 : Int) ≤ 0 ∧ 0 < ((1 : Nat) : Int)], by kernel_rfl, (.cons ⟨by omega, by omega⟩ .nil), ?_⟩
  refine aps (enc := encT46) (l := a1) 0 24 rfl (fun W hW => (ha1.below (hW.old 1 rfl))) encT46_len encT46_cell (by first | omega | (simp only [List.length_append, List.length_cons, List.length_nil]; omega)) (by simp only [maxLen]; first | omega | (simp only [List.length_append, List.length_cons, List.length_nil]; omega)) (a1.length) (a1.flatMap encT46) (by simp) (by simp) fun A13 c13 => ?_
  refine ck 3 [] [] fun γ14 => ⟨⟨ktp (I11 4) (kt (bdy Try.f52) [1, 1, 1, 1, 0, 1, 0] []), upv (of_b13 Aa1 ca1 a1 γ1 Ag9 cg9) [(6, .slice A13 a1.length c13), (27, .int .i64 1), (33, .slice A13 a1.length c13), (34, .int .i64 1)], [(γ1 2, 22, [.slice Aa1 a1.length ca1]), (γ1 0, 24, of_c1)]⟩, [], [], by kernel_rfl, .nil, ?_⟩
  refine lv hI11 3 ?_
  refine ck 3 [] [] fun γ15 => ⟨⟨kt (bdy Try.f52) [1, 1, 1, 1, 1, 1] [], upv (of_b13 Aa1 ca1 a1 γ1 Ag9 cg9) [(2, .slice A13 a1.length c13), (6, .slice A13 a1.length c13), (27, .int .i64 1), (28, .bool false), (33, .slice A13 a1.length c13), (34, .int .i64 1), (35, .slice A13 a1.length c13)], [(γ1 2, 22, [.slice Aa1 a1.length ca1]), (γ1 0, 24, of_c1)]⟩, [], [], by kernel_rfl, .nil, ?_⟩
  refine crm hR4 (.slice A13 a1.length c13) [] [] [false, true] ?_
  refine ck 2 [] [] fun γ16 => ⟨⟨kt (bdy Try.f30) [1, 1, 0, 1] [], (of_l14 a1 γ1 A13 c13), [(γ1 0, 24, of_c1)]⟩, [], [], by kernel_rfl, .nil, ?_⟩
  refine cm 0 rfl (fun W hW => sort_is rfl (by first | omega | (simp only [List.length_append]; omega)) (hW.at 0 rfl)) ?_
  rintro ⟨ks17, hl17, hp17, hs17⟩
  refine ck 1 [] [] fun γ18 => ⟨⟨kt (bdy Try.f30) [1, 1, 1, 0, 1] [], upv (of_l14 a1 γ1 A13 c13) [(7, .tuple #[]), (8, .slice A13 a1.length c13)], [(γ1 0, 24, of_c1)]⟩, [], [], by kernel_rfl, .nil, ?_⟩
  refine cm 0 rfl (fun W hW => compact_n (a := a1) hl17 (by first | omega | (simp only [List.length_append]; omega)) hp17 hs17 (hW.at 0 rfl)) ?_
  rintro ⟨⟩
  refine rsh 0 (n := (a1.length)) (c := c13) (A := A13) (xs := (nrmF a1 ++ List.replicate (a1.length - (nrmF a1).length) (0, 0, 0)).flatMap encT46) rfl (nrmF a1).length (nrm_len a1) ((nrmF a1).flatMap encT46) (by rw [flat_take encT46_len, List.take_left]) ?_
  refine ck 1 [] [] fun γ19 => ⟨⟨kt (bdy Try.f30) [1, 1, 1, 1] [], upv (of_l14 a1 γ1 A13 c13) [(2, .slice A13 ((nrmF a1).length) c13), (7, .tuple #[]), (8, .slice A13 a1.length c13), (9, .slice A13 ((nrmF a1).length) c13)], [(γ1 0, 24, of_c1)]⟩, [], [], by kernel_rfl, .nil, ?_⟩
  refine crm hR2 (.slice A13 ((nrmF a1).length) c13) [] [] [true] ?_
  refine ck 2 [] [] fun γ20 => ⟨⟨kt (bdy Try.f12) [1, 0, 5] [], (of_l15 Aa1 ca1 a1 Aa2 ca2 a2 γ1 A13 c13 γ20), [(γ20 1, 22, [.slice Aa2 a2.length ca2]), (γ1 0, 24, of_c1)]⟩, [], [], by kernel_rfl, .nil, ?_⟩
  refine ci (f := 30) (args := [.slice (some ⟨γ20 1, 0, none⟩) 1 1]) (fn := Try.f30) (c := bdy Try.f30) rfl (fun R21 hR21 => ?_)
  refine ck 2 [] [] fun γ22 => ⟨⟨kt (bdy Try.f30) [1, 0, 1] [], (of_l16 γ20), [(γ20 1, 22, [.slice Aa2 a2.length ca2]), (γ1 0, 24, of_c1)]⟩, [], [], by kernel_rfl, .nil, ?_⟩
  refine ci (f := 52) (args := [.slice (some ⟨γ20 1, 0, none⟩) 1 1]) (fn := Try.f52) (c := bdy Try.f52) rfl (fun R23 hR23 => ?_)
  refine ck 5 [] [] fun γ24 => ⟨⟨kt (bdy Try.f52) [1, 1, 0, 1, 0] [], (of_b18 γ20), [(γ20 1, 22, [.slice Aa2 a2.length ca2]), (γ1 0, 24, of_c1)]⟩, [], [], by kernel_rfl, .nil, ?_⟩
  refine lu 4 (fun I25 hI25 => ?_)
  refine ck 13 [(1, 0)] [(7, .int .i64 ((a2.length : Nat) : Int)), (10, .bool false)] fun γ26 => ⟨⟨ktp (I25 4) (kt (bdy Try.f52) [1, 1, 0, 1, 0] []), (of_b21 Aa2 ca2 a2 γ20), [(γ20 1, 22, [.slice Aa2 a2.length ca2]), (γ1 0, 24, of_c1)]⟩, [(1, γ20 1)], [(0 : Int) ≤ 0 ∧ 0 < ((1 : Nat) : Int), Value.int .i64 (IntKind.wrap .i64 (0 + ((a2.length : Nat) : Int))) = .int .i64 ((a2.length : Nat) : Int), Value.bool (decide ((((a2.length : Nat) : Int) : Int) < 0)) = .bool false], by kernel_rfl, (.cons ⟨by omega, by omega⟩ (.cons (congrArg (Value.int .i64) (by rw [IntKind.wrap_i64]; omega)) (.cons (cbF (by omega)) .nil))), ?_⟩
  refine lv hI25 3 ?_
  refine ck 2 [] [] fun γ27 => ⟨⟨kt (bdy Try.f52) [1, 1, 1, 0, 1] [], upv (of_b21 Aa2 ca2 a2 γ20) [(12, .bool false), (23, .int .i64 ((a2.length : Nat) : Int))], [(γ20 1, 22, [.slice Aa2 a2.length ca2]), (γ1 0, 24, of_c1)]⟩, [], [], by kernel_rfl, .nil, ?_⟩
  refine cf (fun W hW => grow_is (a2.length) (by omega) W) ?_
  rintro ⟨Ag28, cg28⟩
  refine ck 4 [] [] fun γ29 => ⟨⟨kt (bdy Try.f52) [1, 1, 1, 1, 0, 1, 0] [], upv (of_b21 Aa2 ca2 a2 γ20) [(6, .slice Ag28 0 cg28), (12, .bool false), (23, .int .i64 ((a2.length : Nat) : Int)), (24, .slice Ag28 0 cg28), (25, .slice (some ⟨γ20 1, 0, none⟩) 1 1), (26, .int .i64 1), (27, .int .i64 0)], [(γ20 1, 22, [.slice Aa2 a2.length ca2]), (γ1 0, 24, of_c1)]⟩, [], [], by kernel_rfl, .nil, ?_⟩
  refine lu 4 (fun I30 hI30 => ?_)
  refine ck 6 [(1, 0)] [] fun γ31 => ⟨⟨ktl [1, 1, 0, 0, 1, 2] (I30 4) (kt (bdy Try.f52) [1, 1, 1, 1, 0, 1, 0] []), (of_b25 Aa2 ca2 a2 γ20 Ag28 cg28), [(γ20 1, 22, [.slice Aa2 a2.length ca2]), (γ1 0, 24, of_c1)]⟩, [(1, γ20 1)], [(0 : Int) ≤ 0 ∧ 0 < ((1 : Nat) : Int)], by kernel_rfl, (.cons ⟨by omega, by omega⟩ .nil), ?_⟩
  refine aps (enc := encT46) (l := a2) 0 24 rfl (fun W hW => (ha2.below (hW.old 2 rfl))) encT46_len encT46_cell (by first | omega | (simp only [List.length_append, List.length_cons, List.length_nil]; omega)) (by simp only [maxLen]; first | omega | (simp only [List.length_append, List.length_cons, List.length_nil]; omega)) (a2.length) (a2.flatMap encT46) (by simp) (by simp) fun A32 c32 => ?_
  refine ck 3 [] [] fun γ33 => ⟨⟨ktp (I30 4) (kt (bdy Try.f52) [1, 1, 1, 1, 0, 1, 0] []), upv (of_b25 Aa2 ca2 a2 γ20 Ag28 cg28) [(6, .slice A32 a2.length c32), (27, .int .i64 1), (33, .slice A32 a2.length c32), (34, .int .i64 1)], [(γ20 1, 22, [.slice Aa2 a2.length ca2]), (γ1 0, 24, of_c1)]⟩, [], [], by kernel_rfl, .nil, ?_⟩
  refine lv hI30 3 ?_
  refine ck 3 [] [] fun γ34 => ⟨⟨kt (bdy Try.f52) [1, 1, 1, 1, 1, 1] [], upv (of_b25 Aa2 ca2 a2 γ20 Ag28 cg28) [(2, .slice A32 a2.length c32), (6, .slice A32 a2.length c32), (27, .int .i64 1), (28, .bool false), (33, .slice A32 a2.length c32), (34, .int .i64 1), (35, .slice A32 a2.length c32)], [(γ20 1, 22, [.slice Aa2 a2.length ca2]), (γ1 0, 24, of_c1)]⟩, [], [], by kernel_rfl, .nil, ?_⟩
  refine crm hR23 (.slice A32 a2.length c32) [] [] [false, true] ?_
  refine ck 2 [] [] fun γ35 => ⟨⟨kt (bdy Try.f30) [1, 1, 0, 1] [], (of_l26 a2 γ20 A32 c32), [(γ1 0, 24, of_c1)]⟩, [], [], by kernel_rfl, .nil, ?_⟩
  refine cm 0 rfl (fun W hW => sort_is rfl (by first | omega | (simp only [List.length_append]; omega)) (hW.at 0 rfl)) ?_
  rintro ⟨ks36, hl36, hp36, hs36⟩
  refine ck 1 [] [] fun γ37 => ⟨⟨kt (bdy Try.f30) [1, 1, 1, 0, 1] [], upv (of_l26 a2 γ20 A32 c32) [(7, .tuple #[]), (8, .slice A32 a2.length c32)], [(γ1 0, 24, of_c1)]⟩, [], [], by kernel_rfl, .nil, ?_⟩
  refine cm 0 rfl (fun W hW => compact_n (a := a2) hl36 (by first | omega | (simp only [List.length_append]; omega)) hp36 hs36 (hW.at 0 rfl)) ?_
  rintro ⟨⟩
  refine rsh 0 (n := (a2.length)) (c := c32) (A := A32) (xs := (nrmF a2 ++ List.replicate (a2.length - (nrmF a2).length) (0, 0, 0)).flatMap encT46) rfl (nrmF a2).length (nrm_len a2) ((nrmF a2).flatMap encT46) (by rw [flat_take encT46_len, List.take_left]) ?_
  refine ck 1 [] [] fun γ38 => ⟨⟨kt (bdy Try.f30) [1, 1, 1, 1] [], upv (of_l26 a2 γ20 A32 c32) [(2, .slice A32 ((nrmF a2).length) c32), (7, .tuple #[]), (8, .slice A32 a2.length c32), (9, .slice A32 ((nrmF a2).length) c32)], [(γ1 0, 24, of_c1)]⟩, [], [], by kernel_rfl, .nil, ?_⟩
  refine crm hR21 (.slice A32 ((nrmF a2).length) c32) [] [] [true] ?_
  refine ck 2 [(2, 0)] [] fun γ39 => ⟨⟨kt (bdy Try.f12) [1, 1] [], (of_l27 Aa1 ca1 a1 Aa2 ca2 a2 γ1 A13 c13 γ20 A32 c32), [(γ1 0, 24, (of_c28 a1 a2 A13 c13 A32 c32))]⟩, [(2, γ1 0)], [], by kernel_rfl, .nil, ?_⟩
  refine rt (.agg #[.slice A13 ((nrmF a1).length) c13, .slice A32 ((nrmF a2).length) c32]) [(2, 0)] [(2, γ1 0)] (fun W hW => ?_)
  exact ⟨((A13, c13), (A32, c32)), rfl, Fresh.of (R := [rowA 46 3 (.slice A13 ((nrmF a1).length) c13) (nrmF a1).length ((nrmF a1).flatMap encT46), rowA 46 3 (.slice A32 ((nrmF a2).length) c32) (nrmF a2).length ((nrmF a2).flatMap encT46)]) (hW.perm (permIx [1, 0, 2] rfl (permB _ _ rfl))) (.cons_cons _ (.cons_cons _ (.cons_cons _ (.slnil))))⟩
end Go.Proofs.Ythcmcekjgecnhac.Sr
