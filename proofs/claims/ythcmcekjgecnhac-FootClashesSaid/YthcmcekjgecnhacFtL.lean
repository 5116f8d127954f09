/- The walk of the law FootClashes. No condition beside those that each theorem names. -/
import Derived.Test.YthcmcekjgecnhacFtF
import Derived.Test.YthcmcekjgecnhacFtC
namespace Go.Proofs.Ythcmcekjgecnhac.Sr
open Go.RowKit Go.Proofs.YthcmcekjgecnhacM.Mach
set_option linter.unusedVariables false
set_option linter.unusedSimpArgs false
def few_is_0_l0 (A : Option Addr) (n : Nat) (c : Nat) (A2 : Option Addr) (n2 : Nat) (c2 : Nat) (γ1 : Nat → Nat) : List Value := [.agg #[.slice A n c, .slice A2 n2 c2], .pointer (some ⟨γ1 0, 0, none⟩), .pointer (some ⟨γ1 1, 0, none⟩), .pointer (some ⟨γ1 0, 0, none⟩), .slice A n c, .int .i64 ((n : Nat) : Int), .bool true, .pointer (some ⟨γ1 0, 0, none⟩), .slice A n c, zz, zz, zz, zz, zz, zz, zz]
def few_is_0_l1 : List Value := [zz, zz, zz, zz]
def few_is_0_b2 (A : Option Addr) (n : Nat) (c : Nat) (A2 : Option Addr) (n2 : Nat) (c2 : Nat) (γ1 : Nat → Nat) : List Value := (few_is_0_l0 A n c A2 n2 c2 γ1) ++ (few_is_0_l1)
def few_is_0_c3 : List Value := [.slice none 0 0, .slice none 0 0]
def few_is_0_c4 (A : Option Addr) (n : Nat) (c : Nat) (A2 : Option Addr) (n2 : Nat) (c2 : Nat) : List Value := [.slice A n c, .slice A2 n2 c2]
def few_is_0_c5 (A : Option Addr) (c : Nat) (A2 : Option Addr) (n2 : Nat) (c2 : Nat) : List Value := [.slice A 12 c, .slice A2 n2 c2]
def few_is_0_c6 (A : Option Addr) (c : Nat) (A2 : Option Addr) (c2 : Nat) : List Value := [.slice A 12 c, .slice A2 12 c2]
def few_is_1_l0 (A : Option Addr) (n : Nat) (c : Nat) (A2 : Option Addr) (n2 : Nat) (c2 : Nat) (γ1 : Nat → Nat) : List Value := [.agg #[.slice A n c, .slice A2 n2 c2], .pointer (some ⟨γ1 0, 0, none⟩), .pointer (some ⟨γ1 1, 0, none⟩), .pointer (some ⟨γ1 0, 0, none⟩), .slice A n c, .int .i64 ((n : Nat) : Int), .bool true, .pointer (some ⟨γ1 0, 0, none⟩), .slice A n c, zz, zz, zz, zz, zz, zz, zz]
def few_is_1_l1 : List Value := [zz, zz, zz, zz]
def few_is_1_b2 (A : Option Addr) (n : Nat) (c : Nat) (A2 : Option Addr) (n2 : Nat) (c2 : Nat) (γ1 : Nat → Nat) : List Value := (few_is_1_l0 A n c A2 n2 c2 γ1) ++ (few_is_1_l1)
def few_is_1_c3 : List Value := [.slice none 0 0, .slice none 0 0]
def few_is_1_c4 (A : Option Addr) (n : Nat) (c : Nat) (A2 : Option Addr) (n2 : Nat) (c2 : Nat) : List Value := [.slice A n c, .slice A2 n2 c2]
def few_is_1_c5 (A : Option Addr) (c : Nat) (A2 : Option Addr) (n2 : Nat) (c2 : Nat) : List Value := [.slice A 12 c, .slice A2 n2 c2]
def few_is_2_l0 (A : Option Addr) (n : Nat) (c : Nat) (A2 : Option Addr) (n2 : Nat) (c2 : Nat) (γ1 : Nat → Nat) : List Value := [.agg #[.slice A n c, .slice A2 n2 c2], .pointer (some ⟨γ1 0, 0, none⟩), .pointer (some ⟨γ1 1, 0, none⟩), .pointer (some ⟨γ1 0, 0, none⟩), .slice A n c, .int .i64 ((n : Nat) : Int), .bool false, zz, zz, zz, zz, .pointer (some ⟨γ1 0, 1, none⟩), .slice A2 n2 c2, .int .i64 ((n2 : Nat) : Int), .bool true, .pointer (some ⟨γ1 0, 1, none⟩)]
def few_is_2_l1 (A2 : Option Addr) (n2 : Nat) (c2 : Nat) : List Value := [.slice A2 n2 c2, zz, zz, zz]
def few_is_2_b2 (A : Option Addr) (n : Nat) (c : Nat) (A2 : Option Addr) (n2 : Nat) (c2 : Nat) (γ1 : Nat → Nat) : List Value := (few_is_2_l0 A n c A2 n2 c2 γ1) ++ ((few_is_2_l1 A2 n2 c2))
def few_is_2_c3 : List Value := [.slice none 0 0, .slice none 0 0]
def few_is_2_c4 (A : Option Addr) (n : Nat) (c : Nat) (A2 : Option Addr) (n2 : Nat) (c2 : Nat) : List Value := [.slice A n c, .slice A2 n2 c2]
def few_is_2_c5 (A : Option Addr) (n : Nat) (c : Nat) (A2 : Option Addr) (c2 : Nat) : List Value := [.slice A n c, .slice A2 12 c2]
def few_is_3_l0 (A : Option Addr) (n : Nat) (c : Nat) (A2 : Option Addr) (n2 : Nat) (c2 : Nat) (γ1 : Nat → Nat) : List Value := [.agg #[.slice A n c, .slice A2 n2 c2], .pointer (some ⟨γ1 0, 0, none⟩), .pointer (some ⟨γ1 1, 0, none⟩), .pointer (some ⟨γ1 0, 0, none⟩), .slice A n c, .int .i64 ((n : Nat) : Int), .bool false, zz, zz, zz, zz, .pointer (some ⟨γ1 0, 1, none⟩), .slice A2 n2 c2, .int .i64 ((n2 : Nat) : Int), .bool false, zz]
def few_is_3_l1 (A : Option Addr) (n : Nat) (c : Nat) (A2 : Option Addr) (n2 : Nat) (c2 : Nat) : List Value := [zz, zz, zz, .agg #[.slice A n c, .slice A2 n2 c2]]
def few_is_3_b2 (A : Option Addr) (n : Nat) (c : Nat) (A2 : Option Addr) (n2 : Nat) (c2 : Nat) (γ1 : Nat → Nat) : List Value := (few_is_3_l0 A n c A2 n2 c2 γ1) ++ ((few_is_3_l1 A n c A2 n2 c2))
def few_is_3_c3 (A : Option Addr) (n : Nat) (c : Nat) (A2 : Option Addr) (n2 : Nat) (c2 : Nat) : List Value := [.slice A n c, .slice A2 n2 c2]
set_option maxHeartbeats 8000000 in
set_option maxRecDepth 100000 in
theorem few_is {A A2 : Option Addr} {n c n2 c2 : Nat} (hn : n ≤ c) (hn2 : n2 ≤ c2) (w : World) : Calls Try.prog 10 #[.agg #[.slice A n c, .slice A2 n2 c2]] w fun e w' => e = .returned (.agg #[.slice A (min n 12) c, .slice A2 (min n2 12) c2]) ∧ Below w.heap.size w w' := by
  have hq : (n > 12 ∧ n2 > 12) ∨ (n > 12 ∧ ¬ n2 > 12) ∨ (¬ n > 12 ∧ n2 > 12) ∨ (¬ n > 12 ∧ ¬ n2 > 12) := by omega
  rcases hq with hq | hq | hq | hq
  · skip
    refine enter (args := [.agg #[.slice A n c, .slice A2 n2 c2]]) (fn := Try.f10) rfl (c := bdy Try.f10) (by kernel_rfl) ?_
    refine ck 8 [(2, 1)] [(5, .bool true)] fun γ1 => ⟨⟨kt (bdy Try.f10) [1, 0, 1, 0, 2] [], (few_is_0_b2 A n c A2 n2 c2 γ1), [(γ1 1, 24, few_is_0_c3), (γ1 0, 24, (few_is_0_c4 A n c A2 n2 c2))]⟩, [(2, γ1 0)], [Value.bool (decide ((((n : Nat) : Int) : Int) > 12)) = .bool true], by kernel_rfl, (.cons (cbT (by omega)) .nil), ?_⟩
    refine sl0 (A := A) (n := n) (c := c) (sz := 3) (some (.int .i64 12)) none 12 c rfl rfl rfl (by omega) (by omega) ?_ none rfl
    refine ck 8 [(3, 1)] [(5, .bool true)] fun γ2 => ⟨⟨kt (bdy Try.f10) [1, 1, 0, 1, 0, 2] [], upv (few_is_0_b2 A n c A2 n2 c2 γ1) [(9, .slice A 12 c), (10, .pointer (some ⟨γ1 0, 0, none⟩)), (11, .pointer (some ⟨γ1 0, 1, none⟩)), (12, .slice A2 n2 c2), (13, .int .i64 ((n2 : Nat) : Int)), (14, .bool true), (15, .pointer (some ⟨γ1 0, 1, none⟩)), (16, .slice A2 n2 c2)], [(γ1 1, 24, few_is_0_c3), (γ1 0, 24, (few_is_0_c5 A c A2 n2 c2))]⟩, [(3, γ1 0)], [Value.bool (decide ((((n2 : Nat) : Int) : Int) > 12)) = .bool true], by kernel_rfl, (.cons (cbT (by omega)) .nil), ?_⟩
    refine sl0 (A := A2) (n := n2) (c := c2) (sz := 3) (some (.int .i64 12)) none 12 c2 rfl rfl rfl (by omega) (by omega) ?_ none rfl
    refine ck 4 [(3, 1), (2, 0)] [] fun γ3 => ⟨⟨kt (bdy Try.f10) [1, 1, 1, 1] [], upv (few_is_0_b2 A n c A2 n2 c2 γ1) [(9, .slice A 12 c), (10, .pointer (some ⟨γ1 0, 0, none⟩)), (11, .pointer (some ⟨γ1 0, 1, none⟩)), (12, .slice A2 n2 c2), (13, .int .i64 ((n2 : Nat) : Int)), (14, .bool true), (15, .pointer (some ⟨γ1 0, 1, none⟩)), (16, .slice A2 n2 c2), (17, .slice A2 12 c2), (18, .pointer (some ⟨γ1 0, 1, none⟩)), (19, .agg #[.slice A 12 c, .slice A2 12 c2])], [(γ1 1, 24, (few_is_0_c6 A c A2 c2)), (γ1 0, 24, (few_is_0_c6 A c A2 c2))]⟩, [(3, γ1 0), (2, γ1 1)], [], by kernel_rfl, .nil, ?_⟩
    refine rt (.agg #[.slice A 12 c, .slice A2 12 c2]) [(2, 0)] [(2, γ1 1)] (fun W hW => ?_)
    rw [Nat.min_eq_right (by omega), Nat.min_eq_right (by omega)]
    exact ⟨rfl, (hW.old 0 rfl)⟩
  · skip
    refine enter (args := [.agg #[.slice A n c, .slice A2 n2 c2]]) (fn := Try.f10) rfl (c := bdy Try.f10) (by kernel_rfl) ?_
    refine ck 8 [(2, 1)] [(5, .bool true)] fun γ1 => ⟨⟨kt (bdy Try.f10) [1, 0, 1, 0, 2] [], (few_is_1_b2 A n c A2 n2 c2 γ1), [(γ1 1, 24, few_is_1_c3), (γ1 0, 24, (few_is_1_c4 A n c A2 n2 c2))]⟩, [(2, γ1 0)], [Value.bool (decide ((((n : Nat) : Int) : Int) > 12)) = .bool true], by kernel_rfl, (.cons (cbT (by omega)) .nil), ?_⟩
    refine sl0 (A := A) (n := n) (c := c) (sz := 3) (some (.int .i64 12)) none 12 c rfl rfl rfl (by omega) (by omega) ?_ none rfl
    refine ck 8 [(4, 1), (2, 0)] [(5, .bool false)] fun γ2 => ⟨⟨kt (bdy Try.f10) [1, 1, 1, 1] [], upv (few_is_1_b2 A n c A2 n2 c2 γ1) [(9, .slice A 12 c), (10, .pointer (some ⟨γ1 0, 0, none⟩)), (11, .pointer (some ⟨γ1 0, 1, none⟩)), (12, .slice A2 n2 c2), (13, .int .i64 ((n2 : Nat) : Int)), (14, .bool false), (19, .agg #[.slice A 12 c, .slice A2 n2 c2])], [(γ1 1, 24, (few_is_1_c5 A c A2 n2 c2)), (γ1 0, 24, (few_is_1_c5 A c A2 n2 c2))]⟩, [(4, γ1 0), (2, γ1 1)], [Value.bool (decide ((((n2 : Nat) : Int) : Int) > 12)) = .bool false], by kernel_rfl, (.cons (cbF (by omega)) .nil), ?_⟩
    refine rt (.agg #[.slice A 12 c, .slice A2 n2 c2]) [(2, 0)] [(2, γ1 1)] (fun W hW => ?_)
    rw [Nat.min_eq_right (by omega), Nat.min_eq_left (by omega)]
    exact ⟨rfl, (hW.old 0 rfl)⟩
  · skip
    refine enter (args := [.agg #[.slice A n c, .slice A2 n2 c2]]) (fn := Try.f10) rfl (c := bdy Try.f10) (by kernel_rfl) ?_
    refine ck 12 [(3, 1)] [(5, .bool false), (9, .bool true)] fun γ1 => ⟨⟨kt (bdy Try.f10) [1, 1, 0, 1, 0, 2] [], (few_is_2_b2 A n c A2 n2 c2 γ1), [(γ1 1, 24, few_is_2_c3), (γ1 0, 24, (few_is_2_c4 A n c A2 n2 c2))]⟩, [(3, γ1 0)], [Value.bool (decide ((((n : Nat) : Int) : Int) > 12)) = .bool false, Value.bool (decide ((((n2 : Nat) : Int) : Int) > 12)) = .bool true], by kernel_rfl, (.cons (cbF (by omega)) (.cons (cbT (by omega)) .nil)), ?_⟩
    refine sl0 (A := A2) (n := n2) (c := c2) (sz := 3) (some (.int .i64 12)) none 12 c2 rfl rfl rfl (by omega) (by omega) ?_ none rfl
    refine ck 4 [(3, 1), (2, 0)] [] fun γ2 => ⟨⟨kt (bdy Try.f10) [1, 1, 1, 1] [], upv (few_is_2_b2 A n c A2 n2 c2 γ1) [(17, .slice A2 12 c2), (18, .pointer (some ⟨γ1 0, 1, none⟩)), (19, .agg #[.slice A n c, .slice A2 12 c2])], [(γ1 1, 24, (few_is_2_c5 A n c A2 c2)), (γ1 0, 24, (few_is_2_c5 A n c A2 c2))]⟩, [(3, γ1 0), (2, γ1 1)], [], by kernel_rfl, .nil, ?_⟩
    refine rt (.agg #[.slice A n c, .slice A2 12 c2]) [(2, 0)] [(2, γ1 1)] (fun W hW => ?_)
    rw [Nat.min_eq_left (by omega), Nat.min_eq_right (by omega)]
    exact ⟨rfl, (hW.old 0 rfl)⟩
  · skip
    refine enter (args := [.agg #[.slice A n c, .slice A2 n2 c2]]) (fn := Try.f10) rfl (c := bdy Try.f10) (by kernel_rfl) ?_
    refine ck 12 [(4, 1), (2, 0)] [(5, .bool false), (9, .bool false)] fun γ1 => ⟨⟨kt (bdy Try.f10) [1, 1, 1, 1] [], (few_is_3_b2 A n c A2 n2 c2 γ1), [(γ1 1, 24, (few_is_3_c3 A n c A2 n2 c2)), (γ1 0, 24, (few_is_3_c3 A n c A2 n2 c2))]⟩, [(4, γ1 0), (2, γ1 1)], [Value.bool (decide ((((n : Nat) : Int) : Int) > 12)) = .bool false, Value.bool (decide ((((n2 : Nat) : Int) : Int) > 12)) = .bool false], by kernel_rfl, (.cons (cbF (by omega)) (.cons (cbF (by omega)) .nil)), ?_⟩
    refine rt (.agg #[.slice A n c, .slice A2 n2 c2]) [(2, 0)] [(2, γ1 1)] (fun W hW => ?_)
    rw [Nat.min_eq_left (by omega), Nat.min_eq_left (by omega)]
    exact ⟨rfl, (hW.old 0 rfl)⟩
theorem clash_swap {w : World} {Aa1 : Option Addr} {ca1 : Nat} {a1 : List P3} (ha1 : Rd w (.slice Aa1 a1.length ca1) 3 encT46 a1) (hla1 : a1.length ≤ 1000) {Aa2 : Option Addr} {ca2 : Nat} {a2 : List P3} (ha2 : Rd w (.slice Aa2 a2.length ca2) 3 encT46 a2) (hla2 : a2.length ≤ 1000) {Ab1 : Option Addr} {cb1 : Nat} {b1 : List P3} (hb1 : Rd w (.slice Ab1 b1.length cb1) 3 encT46 b1) (hlb1 : b1.length ≤ 1000) {Ab2 : Option Addr} {cb2 : Nat} {b2 : List P3} (hb2 : Rd w (.slice Ab2 b2.length cb2) 3 encT46 b2) (hlb2 : b2.length ≤ 1000) : Calls Try.prog 17 #[.agg #[.slice Aa1 a1.length ca1, .slice Aa2 a2.length ca2], .agg #[.slice Ab1 b1.length cb1, .slice Ab2 b2.length cb2]] w fun e w' => e = .returned (.bool (clashB b1 b2 a1 a2)) ∧ Below w.heap.size w w' := by
  rw [clash_comm b1 b2 a1 a2]
  exact clash_is ha1 hla1 ha2 hla2 hb1 hlb1 hb2 hlb2
def lc_l0 (Aa1 : Option Addr) (ca1 : Nat) (Aa2 : Option Addr) (ca2 : Nat) (Ab1 : Option Addr) (cb1 : Nat) (Ab2 : Option Addr) (cb2 : Nat) (na1 : Nat) (na2 : Nat) (nb1 : Nat) (nb2 : Nat) (γ1 : Nat → Nat) : List Value := [.agg #[.slice Aa1 na1 ca1, .slice Aa2 na2 ca2], .agg #[.slice Ab1 nb1 cb1, .slice Ab2 nb2 cb2], .pointer (some ⟨γ1 0, 0, none⟩), .pointer (some ⟨γ1 1, 0, none⟩), .bool false, zz, zz, zz, zz, zz, zz, zz, zz, zz, zz, zz]
def lc_l1 : List Value := [zz, zz, zz, zz, zz, zz, zz, zz, zz, zz, zz]
def lc_b2 (Aa1 : Option Addr) (ca1 : Nat) (Aa2 : Option Addr) (ca2 : Nat) (Ab1 : Option Addr) (cb1 : Nat) (Ab2 : Option Addr) (cb2 : Nat) (na1 : Nat) (na2 : Nat) (nb1 : Nat) (nb2 : Nat) (γ1 : Nat → Nat) : List Value := (lc_l0 Aa1 ca1 Aa2 ca2 Ab1 cb1 Ab2 cb2 na1 na2 nb1 nb2 γ1) ++ (lc_l1)
def lc_c3 (Ab1 : Option Addr) (cb1 : Nat) (Ab2 : Option Addr) (cb2 : Nat) (nb1 : Nat) (nb2 : Nat) : List Value := [.slice Ab1 nb1 cb1, .slice Ab2 nb2 cb2]
def lc_c4 (Aa1 : Option Addr) (ca1 : Nat) (Aa2 : Option Addr) (ca2 : Nat) (na1 : Nat) (na2 : Nat) : List Value := [.slice Aa1 na1 ca1, .slice Aa2 na2 ca2]
def lc_c5 (Ab1 : Option Addr) (cb1 : Nat) (b1 : List P3) (Ab2 : Option Addr) (cb2 : Nat) (b2 : List P3) : List Value := [.slice Ab1 b1.length cb1, .slice Ab2 b2.length cb2]
def lc_c6 (Aa1 : Option Addr) (ca1 : Nat) (a1 : List P3) (Aa2 : Option Addr) (ca2 : Nat) (a2 : List P3) : List Value := [.slice Aa1 a1.length ca1, .slice Aa2 a2.length ca2]
def lc_l7 (Aa1 : Option Addr) (ca1 : Nat) (a1 : List P3) (Aa2 : Option Addr) (ca2 : Nat) (a2 : List P3) (Ab1 : Option Addr) (cb1 : Nat) (b1 : List P3) (Ab2 : Option Addr) (cb2 : Nat) (b2 : List P3) (na1 : Nat) (na2 : Nat) (nb1 : Nat) (nb2 : Nat) (γ1 : Nat → Nat) : List Value := [.agg #[.slice Aa1 na1 ca1, .slice Aa2 na2 ca2], .agg #[.slice Ab1 nb1 cb1, .slice Ab2 nb2 cb2], .pointer (some ⟨γ1 0, 0, none⟩), .pointer (some ⟨γ1 1, 0, none⟩), .bool false, .bool (clashB a1 a2 b1 b2), .bool true, .bool false, .agg #[.slice Aa1 na1 ca1, .slice Aa2 na2 ca2], .agg #[.slice Aa1 a1.length ca1, .slice Aa2 a2.length ca2], .agg #[.slice Ab1 nb1 cb1, .slice Ab2 nb2 cb2], .agg #[.slice Ab1 b1.length cb1, .slice Ab2 b2.length cb2], .agg #[.slice Aa1 a1.length ca1, .slice Aa2 a2.length ca2], .agg #[.slice Ab1 b1.length cb1, .slice Ab2 b2.length cb2], .bool (clashB a1 a2 b1 b2), .agg #[.slice Aa1 a1.length ca1, .slice Aa2 a2.length ca2]]
def lc_l8 (Aa1 : Option Addr) (ca1 : Nat) (a1 : List P3) (Aa2 : Option Addr) (ca2 : Nat) (a2 : List P3) (Ab1 : Option Addr) (cb1 : Nat) (b1 : List P3) (Ab2 : Option Addr) (cb2 : Nat) (b2 : List P3) : List Value := [.agg #[.slice Ab1 b1.length cb1, .slice Ab2 b2.length cb2], .bool (clashB a1 a2 b1 b2), .bool (clashB a1 a2 b1 b2), .bool true, .bool true, .agg #[.slice Ab1 b1.length cb1, .slice Ab2 b2.length cb2], .agg #[.slice Aa1 a1.length ca1, .slice Aa2 a2.length ca2], zz, zz, zz, zz]
def lc_b9 (Aa1 : Option Addr) (ca1 : Nat) (a1 : List P3) (Aa2 : Option Addr) (ca2 : Nat) (a2 : List P3) (Ab1 : Option Addr) (cb1 : Nat) (b1 : List P3) (Ab2 : Option Addr) (cb2 : Nat) (b2 : List P3) (na1 : Nat) (na2 : Nat) (nb1 : Nat) (nb2 : Nat) (γ1 : Nat → Nat) : List Value := (lc_l7 Aa1 ca1 a1 Aa2 ca2 a2 Ab1 cb1 b1 Ab2 cb2 b2 na1 na2 nb1 nb2 γ1) ++ ((lc_l8 Aa1 ca1 a1 Aa2 ca2 a2 Ab1 cb1 b1 Ab2 cb2 b2))
set_option maxHeartbeats 8000000 in
set_option maxRecDepth 100000 in
theorem law_clashes {w : World} {na1 na2 nb1 nb2 : Nat} {Aa1 : Option Addr} {ca1 : Nat} {a1 : List P3} (ha1 : Rd w (.slice Aa1 a1.length ca1) 3 encT46 a1) (hla1 : a1.length ≤ 1000) {Aa2 : Option Addr} {ca2 : Nat} {a2 : List P3} (ha2 : Rd w (.slice Aa2 a2.length ca2) 3 encT46 a2) (hla2 : a2.length ≤ 1000) {Ab1 : Option Addr} {cb1 : Nat} {b1 : List P3} (hb1 : Rd w (.slice Ab1 b1.length cb1) 3 encT46 b1) (hlb1 : b1.length ≤ 1000) {Ab2 : Option Addr} {cb2 : Nat} {b2 : List P3} (hb2 : Rd w (.slice Ab2 b2.length cb2) 3 encT46 b2) (hlb2 : b2.length ≤ 1000) (hfa : ∀ W : World, Calls Try.prog 10 #[.agg #[.slice Aa1 na1 ca1, .slice Aa2 na2 ca2]] W fun e w' => e = .returned (.agg #[.slice Aa1 a1.length ca1, .slice Aa2 a2.length ca2]) ∧ Below W.heap.size W w') (hfb : ∀ W : World, Calls Try.prog 10 #[.agg #[.slice Ab1 nb1 cb1, .slice Ab2 nb2 cb2]] W fun e w' => e = .returned (.agg #[.slice Ab1 b1.length cb1, .slice Ab2 b2.length cb2]) ∧ Below W.heap.size W w') : Calls Try.prog 4 #[.agg #[.slice Aa1 na1 ca1, .slice Aa2 na2 ca2], .agg #[.slice Ab1 nb1 cb1, .slice Ab2 nb2 cb2]] w fun e w' => e = .returned (.bool true) ∧ Below w.heap.size w w' := by
  refine enter (args := [.agg #[.slice Aa1 na1 ca1, .slice Aa2 na2 ca2], .agg #[.slice Ab1 nb1 cb1, .slice Ab2 nb2 cb2]]) (fn := Try.f4) rfl (c := bdy Try.f4) (by kernel_rfl) ?_
  refine ck 3 [] [] fun γ1 => ⟨⟨kt (bdy Try.f4) [1, 0, 0, 0] [], (lc_b2 Aa1 ca1 Aa2 ca2 Ab1 cb1 Ab2 cb2 na1 na2 nb1 nb2 γ1), [(γ1 1, 24, (lc_c3 Ab1 cb1 Ab2 cb2 nb1 nb2)), (γ1 0, 24, (lc_c4 Aa1 ca1 Aa2 ca2 na1 na2))]⟩, [], [], by kernel_rfl, .nil, ?_⟩
  refine cp (fun W hW => alive_is W) ?_
  refine ck 1 [] [] fun γ2 => ⟨⟨kt (bdy Try.f4) [1, 1, 0] [], upv (lc_b2 Aa1 ca1 Aa2 ca2 Ab1 cb1 Ab2 cb2 na1 na2 nb1 nb2 γ1) [(6, .bool true), (7, .bool false)], [(γ1 1, 24, (lc_c3 Ab1 cb1 Ab2 cb2 nb1 nb2)), (γ1 0, 24, (lc_c4 Aa1 ca1 Aa2 ca2 na1 na2))]⟩, [], [], by kernel_rfl, .nil, ?_⟩
  refine dr [] [] .nil ?_
  refine df [0, 2] [(2, 1), (2, 0)] [] [(2, γ1 0), (2, γ1 1)] [] .nil ?_
  refine dp 1 (fun W hW => hfa W) ?_
  refine dp 3 (fun W hW => hfb W) ?_
  refine ds 4 [(2, 1)] [(2, γ1 0)] ?_
  refine ds 5 [(2, 0)] [(2, γ1 1)] ?_
  refine de (fs := (kt (bdy Try.f4) [1, 1, 0] []).tail) ?_
  refine st0 (fs := (kt (bdy Try.f4) [1, 1, 0] []).tail) (upv (lc_b2 Aa1 ca1 Aa2 ca2 Ab1 cb1 Ab2 cb2 na1 na2 nb1 nb2 γ1) [(6, .bool true), (7, .bool false), (8, .agg #[.slice Aa1 na1 ca1, .slice Aa2 na2 ca2]), (9, .agg #[.slice Aa1 a1.length ca1, .slice Aa2 a2.length ca2]), (10, .agg #[.slice Ab1 nb1 cb1, .slice Ab2 nb2 cb2]), (11, .agg #[.slice Ab1 b1.length cb1, .slice Ab2 b2.length cb2])]) [(γ1 1, 24, (lc_c5 Ab1 cb1 b1 Ab2 cb2 b2)), (γ1 0, 24, (lc_c6 Aa1 ca1 a1 Aa2 ca2 a2))] ?_
  refine ck 2 [(2, 1), (2, 0)] [] fun γ3 => ⟨⟨kt (bdy Try.f4) [1, 1, 1, 0, 2] [], upv (lc_b2 Aa1 ca1 Aa2 ca2 Ab1 cb1 Ab2 cb2 na1 na2 nb1 nb2 γ1) [(6, .bool true), (7, .bool false), (8, .agg #[.slice Aa1 na1 ca1, .slice Aa2 na2 ca2]), (9, .agg #[.slice Aa1 a1.length ca1, .slice Aa2 a2.length ca2]), (10, .agg #[.slice Ab1 nb1 cb1, .slice Ab2 nb2 cb2]), (11, .agg #[.slice Ab1 b1.length cb1, .slice Ab2 b2.length cb2]), (12, .agg #[.slice Aa1 a1.length ca1, .slice Aa2 a2.length ca2]), (13, .agg #[.slice Ab1 b1.length cb1, .slice Ab2 b2.length cb2])], [(γ1 1, 24, (lc_c5 Ab1 cb1 b1 Ab2 cb2 b2)), (γ1 0, 24, (lc_c6 Aa1 ca1 a1 Aa2 ca2 a2))]⟩, [(2, γ1 0), (2, γ1 1)], [], by kernel_rfl, .nil, ?_⟩
  refine cp (fun W hW => rclash_is (ha1.below (hW.old 0 rfl)) hla1 (ha2.below (hW.old 0 rfl)) hla2 (hb1.below (hW.old 0 rfl)) hlb1 (hb2.below (hW.old 0 rfl)) hlb2) ?_
  refine ck 3 [(2, 1), (2, 0)] [] fun γ4 => ⟨⟨kt (bdy Try.f4) [1, 1, 1, 1, 0, 2] [], upv (lc_b2 Aa1 ca1 Aa2 ca2 Ab1 cb1 Ab2 cb2 na1 na2 nb1 nb2 γ1) [(5, .bool (clashB a1 a2 b1 b2)), (6, .bool true), (7, .bool false), (8, .agg #[.slice Aa1 na1 ca1, .slice Aa2 na2 ca2]), (9, .agg #[.slice Aa1 a1.length ca1, .slice Aa2 a2.length ca2]), (10, .agg #[.slice Ab1 nb1 cb1, .slice Ab2 nb2 cb2]), (11, .agg #[.slice Ab1 b1.length cb1, .slice Ab2 b2.length cb2]), (12, .agg #[.slice Aa1 a1.length ca1, .slice Aa2 a2.length ca2]), (13, .agg #[.slice Ab1 b1.length cb1, .slice Ab2 b2.length cb2]), (14, .bool (clashB a1 a2 b1 b2)), (15, .agg #[.slice Aa1 a1.length ca1, .slice Aa2 a2.length ca2]), (16, .agg #[.slice Ab1 b1.length cb1, .slice Ab2 b2.length cb2])], [(γ1 1, 24, (lc_c5 Ab1 cb1 b1 Ab2 cb2 b2)), (γ1 0, 24, (lc_c6 Aa1 ca1 a1 Aa2 ca2 a2))]⟩, [(2, γ1 0), (2, γ1 1)], [], by kernel_rfl, .nil, ?_⟩
  refine cp (fun W hW => clash_is (ha1.below (hW.old 0 rfl)) hla1 (ha2.below (hW.old 0 rfl)) hla2 (hb1.below (hW.old 0 rfl)) hlb1 (hb2.below (hW.old 0 rfl)) hlb2) ?_
  refine ck 5 [(2, 0), (2, 1)] [(1, .bool true)] fun γ5 => ⟨⟨kt (bdy Try.f4) [1, 1, 1, 1, 0, 8] [], (lc_b9 Aa1 ca1 a1 Aa2 ca2 a2 Ab1 cb1 b1 Ab2 cb2 b2 na1 na2 nb1 nb2 γ1), [(γ1 1, 24, (lc_c5 Ab1 cb1 b1 Ab2 cb2 b2)), (γ1 0, 24, (lc_c6 Aa1 ca1 a1 Aa2 ca2 a2))]⟩, [(2, γ1 1), (2, γ1 0)], [Value.bool (clashB a1 a2 b1 b2 == clashB a1 a2 b1 b2) = .bool true], by kernel_rfl, (.cons (by simp) .nil), ?_⟩
  refine cp (fun W hW => clash_swap (hb1.below (hW.old 0 rfl)) hlb1 (hb2.below (hW.old 0 rfl)) hlb2 (ha1.below (hW.old 0 rfl)) hla1 (ha2.below (hW.old 0 rfl)) hla2) ?_
  refine ck 4 [] [(1, .bool true)] fun γ6 => ⟨⟨kt (bdy Try.f4) [1, 1, 1, 1, 1] [], upv (lc_b9 Aa1 ca1 a1 Aa2 ca2 a2 Ab1 cb1 b1 Ab2 cb2 b2 na1 na2 nb1 nb2 γ1) [(4, .bool true), (23, .bool (clashB a1 a2 b1 b2)), (24, .bool (clashB a1 a2 b1 b2)), (25, .bool true), (26, .bool true)], [(γ1 1, 24, (lc_c5 Ab1 cb1 b1 Ab2 cb2 b2)), (γ1 0, 24, (lc_c6 Aa1 ca1 a1 Aa2 ca2 a2))]⟩, [], [Value.bool (clashB a1 a2 b1 b2 == clashB a1 a2 b1 b2) = .bool true], by kernel_rfl, (.cons (by simp) .nil), ?_⟩
  refine rt (.bool true) [] [] (fun W hW => ?_)
  exact ⟨rfl, (hW.old 0 rfl)⟩
end Go.Proofs.Ythcmcekjgecnhac.Sr
