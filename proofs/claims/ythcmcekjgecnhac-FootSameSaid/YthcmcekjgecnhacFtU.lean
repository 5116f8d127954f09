/- The walk of the law FootSame. No condition beside those that each theorem names. -/
import Derived.Test.YthcmcekjgecnhacFtT
import Derived.Test.YthcmcekjgecnhacFtC
namespace Go.Proofs.Ythcmcekjgecnhac.Sr
open Go.RowKit Go.Proofs.YthcmcekjgecnhacM.Mach
set_option linter.unusedVariables false
set_option linter.unusedSimpArgs false
def few_is_0_l0 (A : Option Addr) (n : Nat) (c : Nat) (A2 : Option Addr) (n2 : Nat) (c2 : Nat) (γ1 : Nat → Nat) : List Value := [.agg #[.slice A n c, .slice A2 n2 c2], .pointer (some ⟨γ1 0, 0, none⟩), .pointer (some ⟨γ1 1, 0, none⟩), .pointer (some ⟨γ1 0, 0, none⟩), .slice A n c, .int .i64 ((n : Nat) : Int), .bool true, .pointer (some ⟨γ1 0, 0, none⟩), .slice A n c, zz, zz, zz, zz, zz, zz, zz]
def few_is_0_l1 : List Value := [zz, zz, zz, zz]
def few_is_0_b2 (A : Option Addr) (n : Nat) (c : Nat) (A2 : Option Addr) (n2 : Nat) (c2 : Nat) (γ1 : Nat → Nat) : List Value := (few_is_0_l0 A n c A2 n2 c2 γ1) ++ (few_is_0_l1)
def few_is_0_c3 : List Value := [.slice none 0 0, .slice none 0 0]
def few_is_0_c4 (A : Option Addr) (n : Nat) (c : Nat) (A2 : Option Addr) (n2 : Nat) (c2 : Nat) : List Value := [.slice A n c, .slice A2 n2 c2]
def few_is_0_c5 (A : Option Addr) (c : Nat) (A2 : Option Addr) (n2 : Nat) (c2 : Nat) : List Value := [.slice A 12 c, .slice A2 n2 c2]
def few_is_0_c6 (A : Option Addr) (c : Nat) (A2 : Option Addr) (c2 : Nat) : List Value := [.slice A 12 c, .slice A2 12 c2]
def few_is_1_l0 (A : Option Addr) (n : Nat) (c : Nat) (A2 : Option Addr) (n2 : Nat) (c2 : Nat) (γ1 : Nat → Nat) : List Value := [.agg #[.slice A n c, .slice A2 n2 c2], .pointer (some ⟨γ1 0, 0, none⟩), .pointer (some ⟨γ1 1, 0, none⟩), .pointer (some ⟨γ1 0, 0, none⟩), .slice A n c, .int .i64 ((n : Nat) : Int), .bool true, .pointer (some ⟨γ1 0, 0, none⟩), .slice A n c, zz, zz, zz, zz, zz, zz, zz]
def few_is_1_l1 : List Value := [zz, zz, zz, zz]
def few_is_1_b2 (A : Option Addr) (n : Nat) (c : Nat) (A2 : Option Addr) (n2 : Nat) (c2 : Nat) (γ1 : Nat → Nat) : List Value := (few_is_1_l0 A n c A2 n2 c2 γ1) ++ (few_is_1_l1)
def few_is_1_c3 : List Value := [.slice none 0 0, .slice none 0 0]
def few_is_1_c4 (A : Option Addr) (n : Nat) (c : Nat) (A2 : Option Addr) (n2 : Nat) (c2 : Nat) : List Value := [.slice A n c, .slice A2 n2 c2]
def few_is_1_c5 (A : Option Addr) (c : Nat) (A2 : Option Addr) (n2 : Nat) (c2 : Nat) : List Value := [.slice A 12 c, .slice A2 n2 c2]
def few_is_2_l0 (A : Option Addr) (n : Nat) (c : Nat) (A2 : Option Addr) (n2 : Nat) (c2 : Nat) (γ1 : Nat → Nat) : List Value := [.agg #[.slice A n c, .slice A2 n2 c2], .pointer (some ⟨γ1 0, 0, none⟩), .pointer (some ⟨γ1 1, 0, none⟩), .pointer (some ⟨γ1 0, 0, none⟩), .slice A n c, .int .i64 ((n : Nat) : Int), .bool false, zz, zz, zz, zz, .pointer (some ⟨γ1 0, 1, none⟩), .slice A2 n2 c2, .int .i64 ((n2 : Nat) : Int), .bool true, .pointer (some ⟨γ1 0, 1, none⟩)]
def few_is_2_l1 (A2 : Option Addr) (n2 : Nat) (c2 : Nat) : List Value := [.slice A2 n2 c2, zz, zz, zz]
def few_is_2_b2 (A : Option Addr) (n : Nat) (c : Nat) (A2 : Option Addr) (n2 : Nat) (c2 : Nat) (γ1 : Nat → Nat) : List Value := (few_is_2_l0 A n c A2 n2 c2 γ1) ++ ((few_is_2_l1 A2 n2 c2))
def few_is_2_c3 : List Value := [.slice none 0 0, .slice none 0 0]
def few_is_2_c4 (A : Option Addr) (n : Nat) (c : Nat) (A2 : Option Addr) (n2 : Nat) (c2 : Nat) : List Value := [.slice A n c, .slice A2 n2 c2]
def few_is_2_c5 (A : Option Addr) (n : Nat) (c : Nat) (A2 : Option Addr) (c2 : Nat) : List Value := [.slice A n c, .slice A2 12 c2]
def few_is_3_l0 (A : Option Addr) (n : Nat) (c : Nat) (A2 : Option Addr) (n2 : Nat) (c2 : Nat) (γ1 : Nat → Nat) : List Value := [.agg #[.slice A n c, .slice A2 n2 c2], .pointer (some ⟨γ1 0, 0, none⟩), .pointer (some ⟨γ1 1, 0, none⟩), .pointer (some ⟨γ1 0, 0, none⟩), .slice A n c, .int .i64 ((n : Nat) : Int), .bool false, zz, zz, zz, zz, .pointer (some ⟨γ1 0, 1, none⟩), .slice A2 n2 c2, .int .i64 ((n2 : Nat) : Int), .bool false, zz]
def few_is_3_l1 (A : Option Addr) (n : Nat) (c : Nat) (A2 : Option Addr) (n2 : Nat) (c2 : Nat) : List Value := [zz, zz, zz, .agg #[.slice A n c, .slice A2 n2 c2]]
def few_is_3_b2 (A : Option Addr) (n : Nat) (c : Nat) (A2 : Option Addr) (n2 : Nat) (c2 : Nat) (γ1 : Nat → Nat) : List Value := (few_is_3_l0 A n c A2 n2 c2 γ1) ++ ((few_is_3_l1 A n c A2 n2 c2))
def few_is_3_c3 (A : Option Addr) (n : Nat) (c : Nat) (A2 : Option Addr) (n2 : Nat) (c2 : Nat) : List Value := [.slice A n c, .slice A2 n2 c2]
set_option maxHeartbeats 8000000 in
set_option maxRecDepth 100000 in
theorem few_is {A A2 : Option Addr} {n c n2 c2 : Nat} (hn : n ≤ c) (hn2 : n2 ≤ c2) (w : World) : Calls Try.prog 10 #[.agg #[.slice A n c, .slice A2 n2 c2]] w fun e w' => e = .returned (.agg #[.slice A (min n 12) c, .slice A2 (min n2 12) c2]) ∧ Below w.heap.size w w' := by
  have hq : (n > 12 ∧ n2 > 12) ∨ (n > 12 ∧ ¬ n2 > 12) ∨ (¬ n > 12 ∧ n2 > 12) ∨ (¬ n > 12 ∧ ¬ n2 > 12) := by omega
  rcases hq with hq | hq | hq | hq
  · skip
    refine enter (args := [.agg #[.slice A n c, .slice A2 n2 c2]]) (fn := Try.f10) rfl (c := bdy Try.f10) (by kernel_rfl) ?_
    refine ck 8 [(2, 1)] [(5, .bool true)] fun γ1 => ⟨⟨kt (bdy Try.f10) [1, 0, 1, 0, 2] [], (few_is_0_b2 A n c A2 n2 c2 γ1), [(γ1 1, 24, few_is_0_c3), (γ1 0, 24, (few_is_0_c4 A n c A2 n2 c2))]⟩, [(2, γ1 0)], [Value.bool (decide ((((n : Nat) : Int) : Int) > 12)) = .bool true], by kernel_rfl, (.cons (cbT (by omega)) .nil), ?_⟩
    refine sl0 (A := A) (n := n) (c := c) (sz := 3) (some (.int .i64 12)) none 12 c rfl rfl rfl (by omega) (by omega) ?_ none rfl
    refine ck 8 [(3, 1)] [(5, .bool true)] fun γ2 => ⟨⟨kt (bdy Try.f10) [1, 1, 0, 1, 0, 2] [], upv (few_is_0_b2 A n c A2 n2 c2 γ1) [(9, .slice A 12 c), (10, .pointer (some ⟨γ1 0, 0, none⟩)), (11, .pointer (some ⟨γ1 0, 1, none⟩)), (12, .slice A2 n2 c2), (13, .int .i64 ((n2 : Nat) : Int)), (14, .bool true), (15, .pointer (some ⟨γ1 0, 1, none⟩)), (16, .slice A2 n2 c2)], [(γ1 1, 24, few_is_0_c3), (γ1 0, 24, (few_is_0_c5 A c A2 n2 c2))]⟩, [(3, γ1 0)], [Value.bool (decide ((((n2 : Nat) : Int) : Int) > 12)) = .bool true], by kernel_rfl, (.cons (cbT (by omega)) .nil), ?_⟩
    refine sl0 (A := A2) (n := n2) (c := c2) (sz := 3) (some (.int .i64 12)) none 12 c2 rfl rfl rfl (by omega) (by omega) ?_ none rfl
    refine ck 4 [(3, 1), (2, 0)] [] fun γ3 => ⟨⟨kt (bdy Try.f10) [1, 1, 1, 1] [], upv (few_is_0_b2 A n c A2 n2 c2 γ1) [(9, .slice A 12 c), (10, .pointer (some ⟨γ1 0, 0, none⟩)), (11, .pointer (some ⟨γ1 0, 1, none⟩)), (12, .slice A2 n2 c2), (13, .int .i64 ((n2 : Nat) : Int)), (14, .bool true), (15, .pointer (some ⟨γ1 0, 1, none⟩)), (16, .slice A2 n2 c2), (17, .slice A2 12 c2), (18, .pointer (some ⟨γ1 0, 1, none⟩)), (19, .agg #[.slice A 12 c, .slice A2 12 c2])], [(γ1 1, 24, (few_is_0_c6 A c A2 c2)), (γ1 0, 24, (few_is_0_c6 A c A2 c2))]⟩, [(3, γ1 0), (2, γ1 1)], [], by kernel_rfl, .nil, ?_⟩
    refine rt (.agg #[.slice A 12 c, .slice A2 12 c2]) [(2, 0)] [(2, γ1 1)] (fun W hW => ?_)
    rw [Nat.min_eq_right (by omega), Nat.min_eq_right (by omega)]
    exact ⟨rfl, (hW.old 0 rfl)⟩
  · skip
    refine enter (args := [.agg #[.slice A n c, .slice A2 n2 c2]]) (fn := Try.f10) rfl (c := bdy Try.f10) (by kernel_rfl) ?_
    refine ck 8 [(2, 1)] [(5, .bool true)] fun γ1 => ⟨⟨kt (bdy Try.f10) [1, 0, 1, 0, 2] [], (few_is_1_b2 A n c A2 n2 c2 γ1), [(γ1 1, 24, few_is_1_c3), (γ1 0, 24, (few_is_1_c4 A n c A2 n2 c2))]⟩, [(2, γ1 0)], [Value.bool (decide ((((n : Nat) : Int) : Int) > 12)) = .bool true], by kernel_rfl, (.cons (cbT (by omega)) .nil), ?_⟩
    refine sl0 (A := A) (n := n) (c := c) (sz := 3) (some (.int .i64 12)) none 12 c rfl rfl rfl (by omega) (by omega) ?_ none rfl
    refine ck 8 [(4, 1), (2, 0)] [(5, .bool false)] fun γ2 => ⟨⟨kt (bdy Try.f10) [1, 1, 1, 1] [], upv (few_is_1_b2 A n c A2 n2 c2 γ1) [(9, .slice A 12 c), (10, .pointer (some ⟨γ1 0, 0, none⟩)), (11, .pointer (some ⟨γ1 0, 1, none⟩)), (12, .slice A2 n2 c2), (13, .int .i64 ((n2 : Nat) : Int)), (14, .bool false), (19, .agg #[.slice A 12 c, .slice A2 n2 c2])], [(γ1 1, 24, (few_is_1_c5 A c A2 n2 c2)), (γ1 0, 24, (few_is_1_c5 A c A2 n2 c2))]⟩, [(4, γ1 0), (2, γ1 1)], [Value.bool (decide ((((n2 : Nat) : Int) : Int) > 12)) = .bool false], by kernel_rfl, (.cons (cbF (by omega)) .nil), ?_⟩
    refine rt (.agg #[.slice A 12 c, .slice A2 n2 c2]) [(2, 0)] [(2, γ1 1)] (fun W hW => ?_)
    rw [Nat.min_eq_right (by omega), Nat.min_eq_left (by omega)]
    exact ⟨rfl, (hW.old 0 rfl)⟩
  · skip
    refine enter (args := [.agg #[.slice A n c, .slice A2 n2 c2]]) (fn := Try.f10) rfl (c := bdy Try.f10) (by kernel_rfl) ?_
    refine ck 12 [(3, 1)] [(5, .bool false), (9, .bool true)] fun γ1 => ⟨⟨kt (bdy Try.f10) [1, 1, 0, 1, 0, 2] [], (few_is_2_b2 A n c A2 n2 c2 γ1), [(γ1 1, 24, few_is_2_c3), (γ1 0, 24, (few_is_2_c4 A n c A2 n2 c2))]⟩, [(3, γ1 0)], [Value.bool (decide ((((n : Nat) : Int) : Int) > 12)) = .bool false, Value.bool (decide ((((n2 : Nat) : Int) : Int) > 12)) = .bool true], by kernel_rfl, (.cons (cbF (by omega)) (.cons (cbT (by omega)) .nil)), ?_⟩
    refine sl0 (A := A2) (n := n2) (c := c2) (sz := 3) (some (.int .i64 12)) none 12 c2 rfl rfl rfl (by omega) (by omega) ?_ none rfl
    refine ck 4 [(3, 1), (2, 0)] [] fun γ2 => ⟨⟨kt (bdy Try.f10) [1, 1, 1, 1] [], upv (few_is_2_b2 A n c A2 n2 c2 γ1) [(17, .slice A2 12 c2), (18, .pointer (some ⟨γ1 0, 1, none⟩)), (19, .agg #[.slice A n c, .slice A2 12 c2])], [(γ1 1, 24, (few_is_2_c5 A n c A2 c2)), (γ1 0, 24, (few_is_2_c5 A n c A2 c2))]⟩, [(3, γ1 0), (2, γ1 1)], [], by kernel_rfl, .nil, ?_⟩
    refine rt (.agg #[.slice A n c, .slice A2 12 c2]) [(2, 0)] [(2, γ1 1)] (fun W hW => ?_)
    rw [Nat.min_eq_left (by omega), Nat.min_eq_right (by omega)]
    exact ⟨rfl, (hW.old 0 rfl)⟩
  · skip
    refine enter (args := [.agg #[.slice A n c, .slice A2 n2 c2]]) (fn := Try.f10) rfl (c := bdy Try.f10) (by kernel_rfl) ?_
    refine ck 12 [(4, 1), (2, 0)] [(5, .bool false), (9, .bool false)] fun γ1 => ⟨⟨kt (bdy Try.f10) [1, 1, 1, 1] [], (few_is_3_b2 A n c A2 n2 c2 γ1), [(γ1 1, 24, (few_is_3_c3 A n c A2 n2 c2)), (γ1 0, 24, (few_is_3_c3 A n c A2 n2 c2))]⟩, [(4, γ1 0), (2, γ1 1)], [Value.bool (decide ((((n : Nat) : Int) : Int) > 12)) = .bool false, Value.bool (decide ((((n2 : Nat) : Int) : Int) > 12)) = .bool false], by kernel_rfl, (.cons (cbF (by omega)) (.cons (cbF (by omega)) .nil)), ?_⟩
    refine rt (.agg #[.slice A n c, .slice A2 n2 c2]) [(2, 0)] [(2, γ1 1)] (fun W hW => ?_)
    rw [Nat.min_eq_left (by omega), Nat.min_eq_left (by omega)]
    exact ⟨rfl, (hW.old 0 rfl)⟩
theorem pfoot_same {w : World} {A1 A2 B1 B2 : Option Addr} {c1 c2 d1 d2 : Nat} {a1 a2 b1 b2 : List P3} (h1 : Rd w (.slice A1 (nrmF a1).length c1) 3 encT46 (nrmF a1)) (l1 : a1.length ≤ 12) (h2 : Rd w (.slice A2 (nrmF a2).length c2) 3 encT46 (nrmF a2)) (l2 : a2.length ≤ 12) (h3 : Rd w (.slice B1 (nrmF b1).length d1) 3 encT46 (nrmF b1)) (l3 : b1.length ≤ 12) (h4 : Rd w (.slice B2 (nrmF b2).length d2) 3 encT46 (nrmF b2)) (l4 : b2.length ≤ 12) : Calls Try.prog 14 #[.agg #[.slice A1 (nrmF a1).length c1, .slice A2 (nrmF a2).length c2], .agg #[.slice B1 (nrmF b1).length d1, .slice B2 (nrmF b2).length d2]] w fun e w' => e = .returned (.bool (sameB a1 a2 b1 b2)) ∧ Below w.heap.size w w' :=
  pfoot_is h1 (Nat.le_trans (nrm_len a1) (by omega)) h2 (Nat.le_trans (nrm_len a2) (by omega)) h3 (Nat.le_trans (nrm_len b1) (by omega)) h4 (Nat.le_trans (nrm_len b2) (by omega))
theorem same_self {w : World} {A1 A2 B1 B2 : Option Addr} {c1 c2 d1 d2 : Nat} {a1 a2 : List P3} (h1 : Rd w (.slice A1 a1.length c1) 3 encT46 a1) (l1 : a1.length ≤ 12) (h2 : Rd w (.slice A2 a2.length c2) 3 encT46 a2) (l2 : a2.length ≤ 12) (h3 : Rd w (.slice B1 (nrmF a1).length d1) 3 encT46 (nrmF a1)) (h4 : Rd w (.slice B2 (nrmF a2).length d2) 3 encT46 (nrmF a2)) : Calls Try.prog 18 #[.agg #[.slice A1 a1.length c1, .slice A2 a2.length c2], .agg #[.slice B1 (nrmF a1).length d1, .slice B2 (nrmF a2).length d2]] w fun e w' => e = .returned (.bool true) ∧ Below w.heap.size w w' := by
  have h := same_is h1 l1 h2 l2 h3 (Nat.le_trans (nrm_len a1) l1) h4 (Nat.le_trans (nrm_len a2) l2)
  have e : sameB a1 a2 (nrmF a1) (nrmF a2) = true := decide_eq_true ⟨(nrm_idem a1).symm, (nrm_idem a2).symm⟩
  rwa [e] at h
def lsa_l0 (Aa1 : Option Addr) (ca1 : Nat) (Aa2 : Option Addr) (ca2 : Nat) (Ab1 : Option Addr) (cb1 : Nat) (Ab2 : Option Addr) (cb2 : Nat) (na1 : Nat) (na2 : Nat) (nb1 : Nat) (nb2 : Nat) (γ1 : Nat → Nat) : List Value := [.agg #[.slice Aa1 na1 ca1, .slice Aa2 na2 ca2], .agg #[.slice Ab1 nb1 cb1, .slice Ab2 nb2 cb2], .pointer (some ⟨γ1 0, 0, none⟩), .pointer (some ⟨γ1 1, 0, none⟩), .bool false, zz, zz, zz, zz, zz, zz, zz, zz, zz, zz, zz]
def lsa_l1 : List Value := [zz, zz, zz, zz, zz, zz, zz, zz, zz, zz, zz, zz, zz]
def lsa_b2 (Aa1 : Option Addr) (ca1 : Nat) (Aa2 : Option Addr) (ca2 : Nat) (Ab1 : Option Addr) (cb1 : Nat) (Ab2 : Option Addr) (cb2 : Nat) (na1 : Nat) (na2 : Nat) (nb1 : Nat) (nb2 : Nat) (γ1 : Nat → Nat) : List Value := (lsa_l0 Aa1 ca1 Aa2 ca2 Ab1 cb1 Ab2 cb2 na1 na2 nb1 nb2 γ1) ++ (lsa_l1)
def lsa_c3 (Ab1 : Option Addr) (cb1 : Nat) (Ab2 : Option Addr) (cb2 : Nat) (nb1 : Nat) (nb2 : Nat) : List Value := [.slice Ab1 nb1 cb1, .slice Ab2 nb2 cb2]
def lsa_c4 (Aa1 : Option Addr) (ca1 : Nat) (Aa2 : Option Addr) (ca2 : Nat) (na1 : Nat) (na2 : Nat) : List Value := [.slice Aa1 na1 ca1, .slice Aa2 na2 ca2]
def lsa_c5 (Ab1 : Option Addr) (cb1 : Nat) (b1 : List P3) (Ab2 : Option Addr) (cb2 : Nat) (b2 : List P3) : List Value := [.slice Ab1 b1.length cb1, .slice Ab2 b2.length cb2]
def lsa_c6 (Aa1 : Option Addr) (ca1 : Nat) (a1 : List P3) (Aa2 : Option Addr) (ca2 : Nat) (a2 : List P3) : List Value := [.slice Aa1 a1.length ca1, .slice Aa2 a2.length ca2]
def lsa_l7 (Aa1 : Option Addr) (ca1 : Nat) (a1 : List P3) (Aa2 : Option Addr) (ca2 : Nat) (a2 : List P3) (Ab1 : Option Addr) (cb1 : Nat) (b1 : List P3) (Ab2 : Option Addr) (cb2 : Nat) (b2 : List P3) (na1 : Nat) (na2 : Nat) (nb1 : Nat) (nb2 : Nat) (γ1 : Nat → Nat) (Af30 : Option Addr) (Af31 : Option Addr) (cf30 : Nat) (cf31 : Nat) : List Value := [.agg #[.slice Aa1 na1 ca1, .slice Aa2 na2 ca2], .agg #[.slice Ab1 nb1 cb1, .slice Ab2 nb2 cb2], .pointer (some ⟨γ1 0, 0, none⟩), .pointer (some ⟨γ1 1, 0, none⟩), .bool true, .bool true, .bool false, .agg #[.slice Aa1 na1 ca1, .slice Aa2 na2 ca2], .agg #[.slice Aa1 a1.length ca1, .slice Aa2 a2.length ca2], .agg #[.slice Ab1 nb1 cb1, .slice Ab2 nb2 cb2], .agg #[.slice Ab1 b1.length cb1, .slice Ab2 b2.length cb2], .agg #[.slice Aa1 a1.length ca1, .slice Aa2 a2.length ca2], .agg #[.slice Ab1 b1.length cb1, .slice Ab2 b2.length cb2], .bool (sameB a1 a2 b1 b2), .agg #[.slice Aa1 a1.length ca1, .slice Aa2 a2.length ca2], .agg #[.slice Af30 ((nrmF a1).length) cf30, .slice Af31 ((nrmF a2).length) cf31]]
def lsa_l8 (Aa1 : Option Addr) (ca1 : Nat) (a1 : List P3) (Aa2 : Option Addr) (ca2 : Nat) (a2 : List P3) (Ab1 : Option Addr) (cb1 : Nat) (b1 : List P3) (Ab2 : Option Addr) (cb2 : Nat) (b2 : List P3) (γ1 : Nat → Nat) (Af40 : Option Addr) (Af41 : Option Addr) (cf40 : Nat) (cf41 : Nat) (Af50 : Option Addr) (Af51 : Option Addr) (cf50 : Nat) (cf51 : Nat) : List Value := [.agg #[.slice Ab1 b1.length cb1, .slice Ab2 b2.length cb2], .agg #[.slice Af40 ((nrmF b1).length) cf40, .slice Af41 ((nrmF b2).length) cf41], .bool (sameB a1 a2 b1 b2), .bool true, .bool true, .agg #[.slice Aa1 a1.length ca1, .slice Aa2 a2.length ca2], .pointer (some ⟨γ1 0, 0, none⟩), .slice Aa1 a1.length ca1, .pointer (some ⟨γ1 0, 1, none⟩), .slice Aa2 a2.length ca2, .agg #[.slice Af50 ((nrmF a1).length) cf50, .slice Af51 ((nrmF a2).length) cf51], .bool true, .bool true]
def lsa_b9 (Aa1 : Option Addr) (ca1 : Nat) (a1 : List P3) (Aa2 : Option Addr) (ca2 : Nat) (a2 : List P3) (Ab1 : Option Addr) (cb1 : Nat) (b1 : List P3) (Ab2 : Option Addr) (cb2 : Nat) (b2 : List P3) (na1 : Nat) (na2 : Nat) (nb1 : Nat) (nb2 : Nat) (γ1 : Nat → Nat) (Af30 : Option Addr) (Af31 : Option Addr) (cf30 : Nat) (cf31 : Nat) (Af40 : Option Addr) (Af41 : Option Addr) (cf40 : Nat) (cf41 : Nat) (Af50 : Option Addr) (Af51 : Option Addr) (cf50 : Nat) (cf51 : Nat) : List Value := (lsa_l7 Aa1 ca1 a1 Aa2 ca2 a2 Ab1 cb1 b1 Ab2 cb2 b2 na1 na2 nb1 nb2 γ1 Af30 Af31 cf30 cf31) ++ ((lsa_l8 Aa1 ca1 a1 Aa2 ca2 a2 Ab1 cb1 b1 Ab2 cb2 b2 γ1 Af40 Af41 cf40 cf41 Af50 Af51 cf50 cf51))
set_option maxHeartbeats 8000000 in
set_option maxRecDepth 100000 in
theorem law_same {w : World} {na1 na2 nb1 nb2 : Nat} {Aa1 : Option Addr} {ca1 : Nat} {a1 : List P3} (ha1 : Rd w (.slice Aa1 a1.length ca1) 3 encT46 a1) (hla1 : a1.length ≤ 12) {Aa2 : Option Addr} {ca2 : Nat} {a2 : List P3} (ha2 : Rd w (.slice Aa2 a2.length ca2) 3 encT46 a2) (hla2 : a2.length ≤ 12) {Ab1 : Option Addr} {cb1 : Nat} {b1 : List P3} (hb1 : Rd w (.slice Ab1 b1.length cb1) 3 encT46 b1) (hlb1 : b1.length ≤ 12) {Ab2 : Option Addr} {cb2 : Nat} {b2 : List P3} (hb2 : Rd w (.slice Ab2 b2.length cb2) 3 encT46 b2) (hlb2 : b2.length ≤ 12) (hfa : ∀ W : World, Calls Try.prog 10 #[.agg #[.slice Aa1 na1 ca1, .slice Aa2 na2 ca2]] W fun e w' => e = .returned (.agg #[.slice Aa1 a1.length ca1, .slice Aa2 a2.length ca2]) ∧ Below W.heap.size W w') (hfb : ∀ W : World, Calls Try.prog 10 #[.agg #[.slice Ab1 nb1 cb1, .slice Ab2 nb2 cb2]] W fun e w' => e = .returned (.agg #[.slice Ab1 b1.length cb1, .slice Ab2 b2.length cb2]) ∧ Below W.heap.size W w') : Calls Try.prog 6 #[.agg #[.slice Aa1 na1 ca1, .slice Aa2 na2 ca2], .agg #[.slice Ab1 nb1 cb1, .slice Ab2 nb2 cb2]] w fun e w' => e = .returned (.bool true) ∧ Below w.heap.size w w' := by
  refine enter (args := [.agg #[.slice Aa1 na1 ca1, .slice Aa2 na2 ca2], .agg #[.slice Ab1 nb1 cb1, .slice Ab2 nb2 cb2]]) (fn := Try.f6) rfl (c := bdy Try.f6) (by kernel_rfl) ?_
  refine ck 3 [] [] fun γ1 => ⟨⟨kt (bdy Try.f6) [1, 0, 0, 0] [], (lsa_b2 Aa1 ca1 Aa2 ca2 Ab1 cb1 Ab2 cb2 na1 na2 nb1 nb2 γ1), [(γ1 1, 24, (lsa_c3 Ab1 cb1 Ab2 cb2 nb1 nb2)), (γ1 0, 24, (lsa_c4 Aa1 ca1 Aa2 ca2 na1 na2))]⟩, [], [], by kernel_rfl, .nil, ?_⟩
  refine cp (fun W hW => alive_is W) ?_
  refine ck 1 [] [] fun γ2 => ⟨⟨kt (bdy Try.f6) [1, 1, 0] [], upv (lsa_b2 Aa1 ca1 Aa2 ca2 Ab1 cb1 Ab2 cb2 na1 na2 nb1 nb2 γ1) [(5, .bool true), (6, .bool false)], [(γ1 1, 24, (lsa_c3 Ab1 cb1 Ab2 cb2 nb1 nb2)), (γ1 0, 24, (lsa_c4 Aa1 ca1 Aa2 ca2 na1 na2))]⟩, [], [], by kernel_rfl, .nil, ?_⟩
  refine dr [] [] .nil ?_
  refine df [0, 2] [(2, 1), (2, 0)] [] [(2, γ1 0), (2, γ1 1)] [] .nil ?_
  refine dp 1 (fun W hW => hfa W) ?_
  refine dp 3 (fun W hW => hfb W) ?_
  refine ds 4 [(2, 1)] [(2, γ1 0)] ?_
  refine ds 5 [(2, 0)] [(2, γ1 1)] ?_
  refine de (fs := (kt (bdy Try.f6) [1, 1, 0] []).tail) ?_
  refine st0 (fs := (kt (bdy Try.f6) [1, 1, 0] []).tail) (upv (lsa_b2 Aa1 ca1 Aa2 ca2 Ab1 cb1 Ab2 cb2 na1 na2 nb1 nb2 γ1) [(5, .bool true), (6, .bool false), (7, .agg #[.slice Aa1 na1 ca1, .slice Aa2 na2 ca2]), (8, .agg #[.slice Aa1 a1.length ca1, .slice Aa2 a2.length ca2]), (9, .agg #[.slice Ab1 nb1 cb1, .slice Ab2 nb2 cb2]), (10, .agg #[.slice Ab1 b1.length cb1, .slice Ab2 b2.length cb2])]) [(γ1 1, 24, (lsa_c5 Ab1 cb1 b1 Ab2 cb2 b2)), (γ1 0, 24, (lsa_c6 Aa1 ca1 a1 Aa2 ca2 a2))] ?_
  refine dr [] [] .nil ?_
  refine df [0, 1, 3, 5] [(2, 1), (2, 0), (2, 1), (2, 0)] [] [(2, γ1 0), (2, γ1 1), (2, γ1 0), (2, γ1 1)] [] .nil ?_
  refine dp 2 (fun W hW => same_is (ha1.below (hW.old 0 rfl)) hla1 (ha2.below (hW.old 0 rfl)) hla2 (hb1.below (hW.old 0 rfl)) hlb1 (hb2.below (hW.old 0 rfl)) hlb2) ?_
  refine df' 4 (fun W hW => lnorm_is (ha1.below (hW.old 0 rfl)) (by omega) (ha2.below (hW.old 0 rfl)) (by omega)) ?_
  rintro ⟨⟨Af30, cf30⟩, Af31, cf31⟩
  refine df' 6 (fun W hW => lnorm_is (hb1.below (hW.old 2 rfl)) (by omega) (hb2.below (hW.old 2 rfl)) (by omega)) ?_
  rintro ⟨⟨Af40, cf40⟩, Af41, cf41⟩
  refine dp 7 (fun W hW => pfoot_same (own_rd encT46_len (hW.at 2 rfl)) hla1 (own_rd encT46_len (hW.at 3 rfl)) hla2 (own_rd encT46_len (hW.at 0 rfl)) hlb1 (own_rd encT46_len (hW.at 1 rfl)) hlb2) ?_
  refine df [8, 9, 10, 11, 12, 13, 14] [(4, 1)] [(8, .bool true)] [(4, γ1 0)] [Value.bool (sameB a1 a2 b1 b2 == sameB a1 a2 b1 b2) = .bool true] (.cons (by simp) .nil) ?_
  refine df' 15 (fun W hW => of_is (ha1.below (hW.old 4 rfl)) (by first | omega | assumption) (ha2.below (hW.old 4 rfl)) (by first | omega | assumption)) ?_
  rintro ⟨⟨Af50, cf50⟩, Af51, cf51⟩
  refine dp 16 (fun W hW => same_self (ha1.below (hW.old 6 rfl)) hla1 (ha2.below (hW.old 6 rfl)) hla2 (own_rd encT46_len (hW.at 0 rfl)) (own_rd encT46_len (hW.at 1 rfl))) ?_
  refine df [17, 18] [] [] [] [] .nil ?_
  refine de (fs := (kt (bdy Try.f6) [1, 1, 1, 0] []).tail) ?_
  refine st0 (fs := (kt (bdy Try.f6) [1, 1, 1, 0] []).tail) ((lsa_b9 Aa1 ca1 a1 Aa2 ca2 a2 Ab1 cb1 b1 Ab2 cb2 b2 na1 na2 nb1 nb2 γ1 Af30 Af31 cf30 cf31 Af40 Af41 cf40 cf41 Af50 Af51 cf50 cf51)) [(γ1 1, 24, (lsa_c5 Ab1 cb1 b1 Ab2 cb2 b2)), (γ1 0, 24, (lsa_c6 Aa1 ca1 a1 Aa2 ca2 a2))] ?_
  refine rt (.bool true) [] [] (fun W hW => ?_)
  exact ⟨rfl, (hW.old 6 rfl)⟩
end Go.Proofs.Ythcmcekjgecnhac.Sr
