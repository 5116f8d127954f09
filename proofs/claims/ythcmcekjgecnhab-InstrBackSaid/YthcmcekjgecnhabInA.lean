/- Numbers as octets. No condition beside those that each theorem names. -/
import Derived.Test.YthcmcekjgecnhabMach
import Derived.Test.YthcmcekjgecnhabChecked
namespace Go.Proofs.Ythcmcekjgecnhab.Sr
open Go.RowKit Go.Proofs.YthcmcekjgecnhabM.Mach
set_option linter.unusedVariables false
set_option linter.unusedSimpArgs false
theorem wu64 (x : Int) : IntKind.wrap .u64 x = x % 18446744073709551616 := by
  unfold IntKind.wrap
  simp [IntKind.bits, IntKind.signed]
theorem wu8 (x : Int) : IntKind.wrap .u8 x = x % 256 := by
  unfold IntKind.wrap
  simp [IntKind.bits, IntKind.signed]
theorem wi64 (x : Int) : IntKind.wrap .i64 x = if 9223372036854775808 ≤ x % 18446744073709551616 then x % 18446744073709551616 - 18446744073709551616 else x % 18446744073709551616 := by
  unfold IntKind.wrap
  simp [IntKind.bits, IntKind.signed]
def sh (n : Int) (k : Nat) : Int := (n % 18446744073709551616) / 256 ^ k
def dg (n : Int) (k : Nat) : Int := sh n k % 256
theorem sh_rng (n : Int) (k : Nat) : 0 ≤ sh n k ∧ sh n k < 18446744073709551616 := by
  have h1 : 0 ≤ n % 18446744073709551616 := Int.emod_nonneg _ (by decide)
  have h2 : n % 18446744073709551616 < 18446744073709551616 := Int.emod_lt_of_pos _ (by decide)
  have h3 : (0 : Int) < 256 ^ k := Int.pow_pos (by decide)
  refine ⟨Int.ediv_nonneg h1 (by omega), ?_⟩
  exact Int.lt_of_le_of_lt (Int.ediv_le_self _ h1) h2
theorem dg_rng (n : Int) (k : Nat) : 0 ≤ dg n k ∧ dg n k < 256 := ⟨Int.emod_nonneg _ (by decide), Int.emod_lt_of_pos _ (by decide)⟩
theorem sh_add (n : Int) (k j : Nat) : Int.fdiv (sh n k) (2 ^ (8 * j)) = sh n (k + j) := by
  have h3 : (0 : Int) < 2 ^ (8 * j) := Int.pow_pos (by decide)
  rw [Int.fdiv_eq_ediv_of_nonneg _ (by omega)]
  unfold sh
  rw [Int.ediv_ediv_of_nonneg (by exact Int.le_of_lt (Int.pow_pos (by decide))), Int.pow_mul, Int.pow_add]
  rfl
theorem conv64 (n : Int) : IntKind.wrap .u64 n = sh n 0 := by
  unfold sh IntKind.wrap
  simp [IntKind.bits, IntKind.signed]
theorem conv8 (n : Int) (k : Nat) : IntKind.wrap .u8 (sh n k) = dg n k := by
  unfold dg IntKind.wrap
  simp [IntKind.bits, IntKind.signed]
theorem conv8' (n : Int) (k : Nat) : IntKind.wrap .u8 (dg n k) = dg n k := by
  have := dg_rng n k
  rw [wu8]
  omega
theorem and255 (n : Int) (k : Nat) : IntKind.wrap .u64 (((BitVec.ofInt 64 (sh n k)) &&& (BitVec.ofInt 64 255)).toNat : Int) = dg n k := by
  have h1 := sh_rng n k
  obtain ⟨m, hm⟩ := Int.eq_ofNat_of_zero_le h1.1
  unfold dg
  rw [hm] at h1 ⊢
  have e : ((BitVec.ofInt 64 (m : Int)) &&& (BitVec.ofInt 64 255)).toNat = m % 256 := by
    rw [BitVec.toNat_and]
    have e1 : (BitVec.ofInt 64 (m : Int)).toNat = m := by
      rw [BitVec.toNat_ofInt]
      omega
    have e2 : (BitVec.ofInt 64 255).toNat = 255 := by decide
    rw [e1, e2, show (255 : Nat) = 2 ^ 8 - 1 by decide, Nat.and_two_pow_sub_one_eq_mod]
  rw [e, wu64]
  omega
theorem or_add {x c : Int} (hx : 0 ≤ x ∧ x < 72057594037927936) (hc : 0 ≤ c ∧ c < 256) : IntKind.wrap .u64 (((BitVec.ofInt 64 (x * 256)) ||| (BitVec.ofInt 64 c)).toNat : Int) = x * 256 + c := by
  obtain ⟨m, rfl⟩ := Int.eq_ofNat_of_zero_le hx.1
  obtain ⟨d, rfl⟩ := Int.eq_ofNat_of_zero_le hc.1
  have e : ((BitVec.ofInt 64 ((m : Int) * 256)) ||| (BitVec.ofInt 64 (d : Int))).toNat = m * 256 + d := by
    rw [BitVec.toNat_or]
    have e1 : (BitVec.ofInt 64 ((m : Int) * 256)).toNat = m <<< 8 := by
      rw [BitVec.toNat_ofInt, Nat.shiftLeft_eq]
      omega
    have e2 : (BitVec.ofInt 64 (d : Int)).toNat = d := by
      rw [BitVec.toNat_ofInt]
      omega
    rw [e1, e2, ← Nat.shiftLeft_add_eq_or_of_lt (by omega), Nat.shiftLeft_eq]
  rw [e, wu64]
  omega
theorem shl8 {x : Int} (hx : 0 ≤ x ∧ x < 72057594037927936) : IntKind.wrap .u64 (x * 2 ^ 8) = x * 256 := by
  rw [wu64]
  omega
theorem wrap8in {b : Int} (h : 0 ≤ b ∧ b < 256) (k : IntKind) (hk : k = .i64 ∨ k = .u64 ∨ k = .u8) : IntKind.wrap k b = b := by
  rcases hk with rfl | rfl | rfl
  · rw [wi64, if_neg (by omega)]
    omega
  · rw [wu64]
    omega
  · rw [wu8]
    omega
def be8 (a b c d e f g h : Int) : Int := (((((((a * 256 + b) * 256 + c) * 256 + d) * 256 + e) * 256 + f) * 256 + g) * 256 + h)
theorem dg_be8 {a b c d e f g h : Int} (ha : 0 ≤ a ∧ a < 256) (hb : 0 ≤ b ∧ b < 256) (hc : 0 ≤ c ∧ c < 256) (hd : 0 ≤ d ∧ d < 256) (he : 0 ≤ e ∧ e < 256) (hf : 0 ≤ f ∧ f < 256) (hg : 0 ≤ g ∧ g < 256) (hh : 0 ≤ h ∧ h < 256) :
    let n := IntKind.wrap .i64 (be8 a b c d e f g h); dg n 7 = a ∧ dg n 6 = b ∧ dg n 5 = c ∧ dg n 4 = d ∧ dg n 3 = e ∧ dg n 2 = f ∧ dg n 1 = g ∧ dg n 0 = h := by
  intro n
  have hn : n % 18446744073709551616 = be8 a b c d e f g h := by
    show IntKind.wrap .i64 (be8 a b c d e f g h) % _ = _
    rw [wi64]
    unfold be8
    split <;> omega
  unfold dg sh
  rw [hn]
  unfold be8
  refine ⟨?_, ?_, ?_, ?_, ?_, ?_, ?_, ?_⟩ <;> simp only [Int.reducePow] <;> omega
theorem dg_byte {b : Int} (h : 0 ≤ b ∧ b < 256) : dg b 0 = b := by
  unfold dg sh
  simp only [Int.reducePow]
  omega
abbrev RV := Option Addr × Nat
def aun_putinstrPu1_l0 (o0 : Int) (γ101 : Nat → Nat) : List Value := [.slice none 0 0, .int .i64 o0, .int .i64 1, zz, zz, zz, .slice none 0 0, .pointer (some ⟨γ101 7, 0, none⟩), .int .u64 (sh o0 0), zz, .int .i64 1, .bool false, .bool false, .int .i64 1, .bool false, .bool false]
def aun_putinstrPu1_l1 (o0 : Int) : List Value := [zz, .int .i64 o0, .int .u64 (sh o0 0), .int .i64 1, .int .i64 0, zz, zz, zz, zz, zz, zz, zz, zz, zz, zz, zz]
def aun_putinstrPu1_l2 : List Value := [zz, zz, zz, zz, zz, zz, zz, zz, zz, zz]
def aun_putinstrPu1_b3 (o0 : Int) (γ101 : Nat → Nat) : List Value := (aun_putinstrPu1_l0 o0 γ101) ++ ((aun_putinstrPu1_l1 o0) ++ (aun_putinstrPu1_l2))
def aun_putinstrPu1_c4 : List Value := [.int .u8 0, .int .u8 0, .int .u8 0, .int .u8 0, .int .u8 0, .int .u8 0, .int .u8 0, .int .u8 0]
def aun_putinstrPu1_l5 (o0 : Int) (γ101 : Nat → Nat) : List Value := [.slice none 0 0, .int .i64 o0, .int .i64 1, zz, zz, zz, .slice none 0 0, .pointer (some ⟨γ101 7, 0, none⟩), .int .u64 (sh o0 1), .int .i64 0, .int .i64 1, .bool false, .bool false, .int .i64 1, .bool false, .bool false]
def aun_putinstrPu1_l6 (o0 : Int) (γ101 : Nat → Nat) : List Value := [zz, .int .i64 o0, .int .u64 (sh o0 0), .int .i64 1, .int .i64 1, .bool true, .int .i64 0, .int .i64 1, .int .i64 0, .int .i64 0, .int .i64 0, .int .u64 (sh o0 0), .int .u8 (dg o0 0), .pointer (some ⟨γ101 7, 0, none⟩), .int .u64 (sh o0 0), .int .u64 (sh o0 1)]
def aun_putinstrPu1_l7 : List Value := [.int .i64 1, zz, zz, zz, zz, zz, zz, zz, zz, zz]
def aun_putinstrPu1_b8 (o0 : Int) (γ101 : Nat → Nat) : List Value := (aun_putinstrPu1_l5 o0 γ101) ++ ((aun_putinstrPu1_l6 o0 γ101) ++ (aun_putinstrPu1_l7))
def aun_putinstrPu1_c9 (o0 : Int) : List Value := [.int .u8 (dg o0 0), .int .u8 0, .int .u8 0, .int .u8 0, .int .u8 0, .int .u8 0, .int .u8 0, .int .u8 0]
set_option maxHeartbeats 8000000 in
set_option maxRecDepth 100000 in
theorem aun_putinstrPu1 (o0 : Int) {w : World} : Calls Try.prog 42 #[.slice none 0 0, .int .i64 o0, .int .i64 1] w fun e w' => ∃ x : (Option Addr) × Nat, e = .returned (.slice x.1 1 x.2) ∧ Fresh w w' [rowA 5 1 (.slice x.1 1 x.2) ([dg o0 0] : List Int).length (([dg o0 0] : List Int).flatMap encU8)] := by
  refine enter (args := [.slice none 0 0, .int .i64 o0, .int .i64 1]) (fn := Try.f42) rfl (c := bdy Try.f42) (by kernel_rfl) ?_
  refine ck 13 [] [(9, .int .u64 (sh o0 0))] fun γ101 => ⟨⟨kt (bdy Try.f42) [1, 1, 1, 1, 0, 1, 0] [], (aun_putinstrPu1_b3 o0 γ101), [(γ101 7, 115, aun_putinstrPu1_c4)]⟩, [], [Value.int .u64 (IntKind.wrap .u64 o0) = .int .u64 (sh o0 0)], by kernel_rfl, (.cons (congrArg (Value.int .u64) (conv64 o0)) .nil), ?_⟩
  refine lu 12 (fun I102 hI102 => ?_)
  refine ck 16 [(1, 0)] [(8, .int .u8 (dg o0 0)), (12, .int .u64 (sh o0 1))] fun γ103 => ⟨⟨ktp (I102 12) (kt (bdy Try.f42) [1, 1, 1, 1, 0, 1, 0] []), (aun_putinstrPu1_b8 o0 γ101), [(γ101 7, 115, (aun_putinstrPu1_c9 o0))]⟩, [(1, γ101 7)], [Value.int .u8 (IntKind.wrap .u8 (sh o0 0)) = .int .u8 (dg o0 0), Value.int .u64 (Int.fdiv (sh o0 0) (2 ^ 8)) = .int .u64 (sh o0 1)], by kernel_rfl, (.cons (congrArg (Value.int .u8) (conv8 o0 0)) (.cons (congrArg (Value.int .u64) (sh_add o0 0 1)) .nil)), ?_⟩
  refine lv hI102 11 ?_
  refine ck 1 [] [] fun γ104 => ⟨⟨kt (bdy Try.f42) [1, 1, 1, 1, 1, 0] [], upv (aun_putinstrPu1_b8 o0 γ101) [(21, .bool false)], [(γ101 7, 115, (aun_putinstrPu1_c9 o0))]⟩, [], [], by kernel_rfl, .nil, ?_⟩
  refine dr [] [] .nil ?_
  refine df [0, 1, 2, 3, 4, 6, 7] [] [] [] [] .nil ?_
  refine dsl 5 (A := none) (n := 0) (c := 0) (sz := 1) none (some (.int .i64 0)) (some (.int .i64 0)) 0 0 0 rfl rfl rfl rfl (by omega) (by omega) (by omega) (.slice none 0 0) (by rw [cutp0] <;> rfl) ?_
  refine dapg (e := 5) (A := none) (sz := 1) (m := 1) (c := 8) (g := (γ101 7)) (T := 115) (enc := encU8) (l := ([] : List Int)) (cs := (aun_putinstrPu1_c9 o0)) 8 0 1 (fun W hW => (Rd.nil _ _ _)) encU8_len (by first | omega | (simp only [List.length_append, List.length_cons, List.length_nil]; omega)) (by simp only [maxLen]; first | omega | (simp only [List.length_append, List.length_cons, List.length_nil]; omega)) ([dg o0 0] : List Int).length (([dg o0 0] : List Int).flatMap encU8) (by simp) (by simp [encU8] <;> rfl) fun A105 c105 => ?_
  refine df [9] [] [] [] [] .nil ?_
  refine de (fs := (kt (bdy Try.f42) [1, 1, 1, 1, 1, 0] []).tail) ?_
  refine st0 (fs := (kt (bdy Try.f42) [1, 1, 1, 1, 1, 0] []).tail) (upv (aun_putinstrPu1_b8 o0 γ101) [(6, .slice A105 1 c105), (21, .bool false), (33, .slice none 0 0), (34, .slice none 0 0), (35, .int .i64 0), (36, .slice none 0 0), (37, .int .i64 0), (38, .slice none 0 0), (39, .int .i64 1), (40, .slice (some ⟨γ101 7, 0, none⟩) 1 8), (41, .slice A105 1 c105)]) [(γ101 7, 115, (aun_putinstrPu1_c9 o0))] ?_
  refine rt (.slice A105 1 c105) [] [] (fun W hW => ?_)
  exact ⟨⟨A105, c105⟩, rfl, Fresh.of (R := [rowA 5 1 (.slice A105 1 c105) ([dg o0 0] : List Int).length (([dg o0 0] : List Int).flatMap encU8)]) (hW.perm (List.Perm.refl _)) (.cons_cons _ (.cons_cons _ (.slnil)))⟩
def aun_putinstrPu2_l0 (a0 : Int) (u4 : Option Addr) (u5 : Nat) (γ201 : Nat → Nat) : List Value := [.slice u4 1 u5, .int .i64 a0, .int .i64 1, zz, zz, zz, .slice none 0 0, .pointer (some ⟨γ201 7, 0, none⟩), .int .u64 (sh a0 0), zz, .int .i64 1, .bool false, .bool false, .int .i64 1, .bool false, .bool false]
def aun_putinstrPu2_l1 (a0 : Int) : List Value := [zz, .int .i64 a0, .int .u64 (sh a0 0), .int .i64 1, .int .i64 0, zz, zz, zz, zz, zz, zz, zz, zz, zz, zz, zz]
def aun_putinstrPu2_l2 : List Value := [zz, zz, zz, zz, zz, zz, zz, zz, zz, zz]
def aun_putinstrPu2_b3 (a0 : Int) (u4 : Option Addr) (u5 : Nat) (γ201 : Nat → Nat) : List Value := (aun_putinstrPu2_l0 a0 u4 u5 γ201) ++ ((aun_putinstrPu2_l1 a0) ++ (aun_putinstrPu2_l2))
def aun_putinstrPu2_c4 : List Value := [.int .u8 0, .int .u8 0, .int .u8 0, .int .u8 0, .int .u8 0, .int .u8 0, .int .u8 0, .int .u8 0]
def aun_putinstrPu2_l5 (a0 : Int) (u4 : Option Addr) (u5 : Nat) (γ201 : Nat → Nat) : List Value := [.slice u4 1 u5, .int .i64 a0, .int .i64 1, zz, zz, zz, .slice none 0 0, .pointer (some ⟨γ201 7, 0, none⟩), .int .u64 (sh a0 1), .int .i64 0, .int .i64 1, .bool false, .bool false, .int .i64 1, .bool false, .bool false]
def aun_putinstrPu2_l6 (a0 : Int) (γ201 : Nat → Nat) : List Value := [zz, .int .i64 a0, .int .u64 (sh a0 0), .int .i64 1, .int .i64 1, .bool true, .int .i64 0, .int .i64 1, .int .i64 0, .int .i64 0, .int .i64 0, .int .u64 (sh a0 0), .int .u8 (dg a0 0), .pointer (some ⟨γ201 7, 0, none⟩), .int .u64 (sh a0 0), .int .u64 (sh a0 1)]
def aun_putinstrPu2_l7 : List Value := [.int .i64 1, zz, zz, zz, zz, zz, zz, zz, zz, zz]
def aun_putinstrPu2_b8 (a0 : Int) (u4 : Option Addr) (u5 : Nat) (γ201 : Nat → Nat) : List Value := (aun_putinstrPu2_l5 a0 u4 u5 γ201) ++ ((aun_putinstrPu2_l6 a0 γ201) ++ (aun_putinstrPu2_l7))
def aun_putinstrPu2_c9 (a0 : Int) : List Value := [.int .u8 (dg a0 0), .int .u8 0, .int .u8 0, .int .u8 0, .int .u8 0, .int .u8 0, .int .u8 0, .int .u8 0]
set_option maxHeartbeats 8000000 in
set_option maxRecDepth 100000 in
theorem aun_putinstrPu2 (o0 : Int) (a0 : Int) (u4 : Option Addr) (u5 : Nat) {w : World} (hr0 : Rd w (.slice u4 1 u5) 1 encU8 ([dg o0 0] : List Int)) (hb0 : ([dg o0 0] : List Int).length ≤ 1000) : Calls Try.prog 42 #[.slice u4 1 u5, .int .i64 a0, .int .i64 1] w fun e w' => ∃ x : (Option Addr) × Nat, e = .returned (.slice x.1 2 x.2) ∧ Fresh w w' [rowA 5 1 (.slice x.1 2 x.2) ([dg o0 0, dg a0 0] : List Int).length (([dg o0 0, dg a0 0] : List Int).flatMap encU8)] := by
  refine enter (args := [.slice u4 1 u5, .int .i64 a0, .int .i64 1]) (fn := Try.f42) rfl (c := bdy Try.f42) (by kernel_rfl) ?_
  have hcap0 := hr0.cap.2
  refine ck 13 [] [(9, .int .u64 (sh a0 0))] fun γ201 => ⟨⟨kt (bdy Try.f42) [1, 1, 1, 1, 0, 1, 0] [], (aun_putinstrPu2_b3 a0 u4 u5 γ201), [(γ201 7, 115, aun_putinstrPu2_c4)]⟩, [], [Value.int .u64 (IntKind.wrap .u64 a0) = .int .u64 (sh a0 0)], by kernel_rfl, (.cons (congrArg (Value.int .u64) (conv64 a0)) .nil), ?_⟩
  refine lu 12 (fun I202 hI202 => ?_)
  refine ck 16 [(1, 0)] [(8, .int .u8 (dg a0 0)), (12, .int .u64 (sh a0 1))] fun γ203 => ⟨⟨ktp (I202 12) (kt (bdy Try.f42) [1, 1, 1, 1, 0, 1, 0] []), (aun_putinstrPu2_b8 a0 u4 u5 γ201), [(γ201 7, 115, (aun_putinstrPu2_c9 a0))]⟩, [(1, γ201 7)], [Value.int .u8 (IntKind.wrap .u8 (sh a0 0)) = .int .u8 (dg a0 0), Value.int .u64 (Int.fdiv (sh a0 0) (2 ^ 8)) = .int .u64 (sh a0 1)], by kernel_rfl, (.cons (congrArg (Value.int .u8) (conv8 a0 0)) (.cons (congrArg (Value.int .u64) (sh_add a0 0 1)) .nil)), ?_⟩
  refine lv hI202 11 ?_
  refine ck 1 [] [] fun γ204 => ⟨⟨kt (bdy Try.f42) [1, 1, 1, 1, 1, 0] [], upv (aun_putinstrPu2_b8 a0 u4 u5 γ201) [(21, .bool false)], [(γ201 7, 115, (aun_putinstrPu2_c9 a0))]⟩, [], [], by kernel_rfl, .nil, ?_⟩
  refine dr [] [] .nil ?_
  refine df [0, 1, 2, 3, 4, 6, 7] [] [] [] [] .nil ?_
  refine dsl 5 (A := u4) (n := 1) (c := u5) (sz := 1) none (some (.int .i64 1)) (some (.int .i64 1)) 0 1 1 rfl rfl rfl rfl (by omega) (by omega) (by omega) (.slice u4 1 1) (by rw [cutp0] <;> rfl) ?_
  refine dapg (e := 5) (A := u4) (sz := 1) (m := 1) (c := 8) (g := (γ201 7)) (T := 115) (enc := encU8) (l := ([dg o0 0] : List Int)) (cs := (aun_putinstrPu2_c9 a0)) 8 0 1 (fun W hW => (Rd.full (hr0.below (hW.old 0 rfl)))) encU8_len (by first | omega | (simp only [List.length_append, List.length_cons, List.length_nil]; omega)) (by simp only [maxLen]; first | omega | (simp only [List.length_append, List.length_cons, List.length_nil]; omega)) ([dg o0 0, dg a0 0] : List Int).length (([dg o0 0, dg a0 0] : List Int).flatMap encU8) (by simp) (by simp [encU8] <;> rfl) fun A205 c205 => ?_
  refine df [9] [] [] [] [] .nil ?_
  refine de (fs := (kt (bdy Try.f42) [1, 1, 1, 1, 1, 0] []).tail) ?_
  refine st0 (fs := (kt (bdy Try.f42) [1, 1, 1, 1, 1, 0] []).tail) (upv (aun_putinstrPu2_b8 a0 u4 u5 γ201) [(6, .slice A205 2 c205), (21, .bool false), (33, .slice u4 1 u5), (34, .slice u4 1 u5), (35, .int .i64 1), (36, .slice u4 1 u5), (37, .int .i64 1), (38, .slice u4 1 1), (39, .int .i64 1), (40, .slice (some ⟨γ201 7, 0, none⟩) 1 8), (41, .slice A205 2 c205)]) [(γ201 7, 115, (aun_putinstrPu2_c9 a0))] ?_
  refine rt (.slice A205 2 c205) [] [] (fun W hW => ?_)
  exact ⟨⟨A205, c205⟩, rfl, Fresh.of (R := [rowA 5 1 (.slice A205 2 c205) ([dg o0 0, dg a0 0] : List Int).length (([dg o0 0, dg a0 0] : List Int).flatMap encU8)]) (hW.perm (List.Perm.refl _)) (.cons_cons _ (.cons_cons _ (.slnil)))⟩
def aun_putinstrPu3_l0 (b0 : Int) (u8 : Option Addr) (u9 : Nat) (γ301 : Nat → Nat) : List Value := [.slice u8 2 u9, .int .i64 b0, .int .i64 1, zz, zz, zz, .slice none 0 0, .pointer (some ⟨γ301 7, 0, none⟩), .int .u64 (sh b0 0), zz, .int .i64 1, .bool false, .bool false, .int .i64 1, .bool false, .bool false]
def aun_putinstrPu3_l1 (b0 : Int) : List Value := [zz, .int .i64 b0, .int .u64 (sh b0 0), .int .i64 1, .int .i64 0, zz, zz, zz, zz, zz, zz, zz, zz, zz, zz, zz]
def aun_putinstrPu3_l2 : List Value := [zz, zz, zz, zz, zz, zz, zz, zz, zz, zz]
def aun_putinstrPu3_b3 (b0 : Int) (u8 : Option Addr) (u9 : Nat) (γ301 : Nat → Nat) : List Value := (aun_putinstrPu3_l0 b0 u8 u9 γ301) ++ ((aun_putinstrPu3_l1 b0) ++ (aun_putinstrPu3_l2))
def aun_putinstrPu3_c4 : List Value := [.int .u8 0, .int .u8 0, .int .u8 0, .int .u8 0, .int .u8 0, .int .u8 0, .int .u8 0, .int .u8 0]
def aun_putinstrPu3_l5 (b0 : Int) (u8 : Option Addr) (u9 : Nat) (γ301 : Nat → Nat) : List Value := [.slice u8 2 u9, .int .i64 b0, .int .i64 1, zz, zz, zz, .slice none 0 0, .pointer (some ⟨γ301 7, 0, none⟩), .int .u64 (sh b0 1), .int .i64 0, .int .i64 1, .bool false, .bool false, .int .i64 1, .bool false, .bool false]
def aun_putinstrPu3_l6 (b0 : Int) (γ301 : Nat → Nat) : List Value := [zz, .int .i64 b0, .int .u64 (sh b0 0), .int .i64 1, .int .i64 1, .bool true, .int .i64 0, .int .i64 1, .int .i64 0, .int .i64 0, .int .i64 0, .int .u64 (sh b0 0), .int .u8 (dg b0 0), .pointer (some ⟨γ301 7, 0, none⟩), .int .u64 (sh b0 0), .int .u64 (sh b0 1)]
def aun_putinstrPu3_l7 : List Value := [.int .i64 1, zz, zz, zz, zz, zz, zz, zz, zz, zz]
def aun_putinstrPu3_b8 (b0 : Int) (u8 : Option Addr) (u9 : Nat) (γ301 : Nat → Nat) : List Value := (aun_putinstrPu3_l5 b0 u8 u9 γ301) ++ ((aun_putinstrPu3_l6 b0 γ301) ++ (aun_putinstrPu3_l7))
def aun_putinstrPu3_c9 (b0 : Int) : List Value := [.int .u8 (dg b0 0), .int .u8 0, .int .u8 0, .int .u8 0, .int .u8 0, .int .u8 0, .int .u8 0, .int .u8 0]
set_option maxHeartbeats 8000000 in
set_option maxRecDepth 100000 in
theorem aun_putinstrPu3 (o0 : Int) (a0 : Int) (b0 : Int) (u8 : Option Addr) (u9 : Nat) {w : World} (hr0 : Rd w (.slice u8 2 u9) 1 encU8 ([dg o0 0, dg a0 0] : List Int)) (hb0 : ([dg o0 0, dg a0 0] : List Int).length ≤ 1000) : Calls Try.prog 42 #[.slice u8 2 u9, .int .i64 b0, .int .i64 1] w fun e w' => ∃ x : (Option Addr) × Nat, e = .returned (.slice x.1 3 x.2) ∧ Fresh w w' [rowA 5 1 (.slice x.1 3 x.2) ([dg o0 0, dg a0 0, dg b0 0] : List Int).length (([dg o0 0, dg a0 0, dg b0 0] : List Int).flatMap encU8)] := by
  refine enter (args := [.slice u8 2 u9, .int .i64 b0, .int .i64 1]) (fn := Try.f42) rfl (c := bdy Try.f42) (by kernel_rfl) ?_
  have hcap0 := hr0.cap.2
  refine ck 13 [] [(9, .int .u64 (sh b0 0))] fun γ301 => ⟨⟨kt (bdy Try.f42) [1, 1, 1, 1, 0, 1, 0] [], (aun_putinstrPu3_b3 b0 u8 u9 γ301), [(γ301 7, 115, aun_putinstrPu3_c4)]⟩, [], [Value.int .u64 (IntKind.wrap .u64 b0) = .int .u64 (sh b0 0)], by kernel_rfl, (.cons (congrArg (Value.int .u64) (conv64 b0)) .nil), ?_⟩
  refine lu 12 (fun I302 hI302 => ?_)
  refine ck 16 [(1, 0)] [(8, .int .u8 (dg b0 0)), (12, .int .u64 (sh b0 1))] fun γ303 => ⟨⟨ktp (I302 12) (kt (bdy Try.f42) [1, 1, 1, 1, 0, 1, 0] []), (aun_putinstrPu3_b8 b0 u8 u9 γ301), [(γ301 7, 115, (aun_putinstrPu3_c9 b0))]⟩, [(1, γ301 7)], [Value.int .u8 (IntKind.wrap .u8 (sh b0 0)) = .int .u8 (dg b0 0), Value.int .u64 (Int.fdiv (sh b0 0) (2 ^ 8)) = .int .u64 (sh b0 1)], by kernel_rfl, (.cons (congrArg (Value.int .u8) (conv8 b0 0)) (.cons (congrArg (Value.int .u64) (sh_add b0 0 1)) .nil)), ?_⟩
  refine lv hI302 11 ?_
  refine ck 1 [] [] fun γ304 => ⟨⟨kt (bdy Try.f42) [1, 1, 1, 1, 1, 0] [], upv (aun_putinstrPu3_b8 b0 u8 u9 γ301) [(21, .bool false)], [(γ301 7, 115, (aun_putinstrPu3_c9 b0))]⟩, [], [], by kernel_rfl, .nil, ?_⟩
  refine dr [] [] .nil ?_
  refine df [0, 1, 2, 3, 4, 6, 7] [] [] [] [] .nil ?_
  refine dsl 5 (A := u8) (n := 2) (c := u9) (sz := 1) none (some (.int .i64 2)) (some (.int .i64 2)) 0 2 2 rfl rfl rfl rfl (by omega) (by omega) (by omega) (.slice u8 2 2) (by rw [cutp0] <;> rfl) ?_
  refine dapg (e := 5) (A := u8) (sz := 1) (m := 1) (c := 8) (g := (γ301 7)) (T := 115) (enc := encU8) (l := ([dg o0 0, dg a0 0] : List Int)) (cs := (aun_putinstrPu3_c9 b0)) 8 0 1 (fun W hW => (Rd.full (hr0.below (hW.old 0 rfl)))) encU8_len (by first | omega | (simp only [List.length_append, List.length_cons, List.length_nil]; omega)) (by simp only [maxLen]; first | omega | (simp only [List.length_append, List.length_cons, List.length_nil]; omega)) ([dg o0 0, dg a0 0, dg b0 0] : List Int).length (([dg o0 0, dg a0 0, dg b0 0] : List Int).flatMap encU8) (by simp) (by simp [encU8] <;> rfl) fun A305 c305 => ?_
  refine df [9] [] [] [] [] .nil ?_
  refine de (fs := (kt (bdy Try.f42) [1, 1, 1, 1, 1, 0] []).tail) ?_
  refine st0 (fs := (kt (bdy Try.f42) [1, 1, 1, 1, 1, 0] []).tail) (upv (aun_putinstrPu3_b8 b0 u8 u9 γ301) [(6, .slice A305 3 c305), (21, .bool false), (33, .slice u8 2 u9), (34, .slice u8 2 u9), (35, .int .i64 2), (36, .slice u8 2 u9), (37, .int .i64 2), (38, .slice u8 2 2), (39, .int .i64 1), (40, .slice (some ⟨γ301 7, 0, none⟩) 1 8), (41, .slice A305 3 c305)]) [(γ301 7, 115, (aun_putinstrPu3_c9 b0))] ?_
  refine rt (.slice A305 3 c305) [] [] (fun W hW => ?_)
  exact ⟨⟨A305, c305⟩, rfl, Fresh.of (R := [rowA 5 1 (.slice A305 3 c305) ([dg o0 0, dg a0 0, dg b0 0] : List Int).length (([dg o0 0, dg a0 0, dg b0 0] : List Int).flatMap encU8)]) (hW.perm (List.Perm.refl _)) (.cons_cons _ (.cons_cons _ (.slnil)))⟩
def aun_putinstrPu4_l0 (c0 : Int) (u12 : Option Addr) (u13 : Nat) (γ401 : Nat → Nat) : List Value := [.slice u12 3 u13, .int .i64 c0, .int .i64 1, zz, zz, zz, .slice none 0 0, .pointer (some ⟨γ401 7, 0, none⟩), .int .u64 (sh c0 0), zz, .int .i64 1, .bool false, .bool false, .int .i64 1, .bool false, .bool false]
def aun_putinstrPu4_l1 (c0 : Int) : List Value := [zz, .int .i64 c0, .int .u64 (sh c0 0), .int .i64 1, .int .i64 0, zz, zz, zz, zz, zz, zz, zz, zz, zz, zz, zz]
def aun_putinstrPu4_l2 : List Value := [zz, zz, zz, zz, zz, zz, zz, zz, zz, zz]
def aun_putinstrPu4_b3 (c0 : Int) (u12 : Option Addr) (u13 : Nat) (γ401 : Nat → Nat) : List Value := (aun_putinstrPu4_l0 c0 u12 u13 γ401) ++ ((aun_putinstrPu4_l1 c0) ++ (aun_putinstrPu4_l2))
def aun_putinstrPu4_c4 : List Value := [.int .u8 0, .int .u8 0, .int .u8 0, .int .u8 0, .int .u8 0, .int .u8 0, .int .u8 0, .int .u8 0]
def aun_putinstrPu4_l5 (c0 : Int) (u12 : Option Addr) (u13 : Nat) (γ401 : Nat → Nat) : List Value := [.slice u12 3 u13, .int .i64 c0, .int .i64 1, zz, zz, zz, .slice none 0 0, .pointer (some ⟨γ401 7, 0, none⟩), .int .u64 (sh c0 1), .int .i64 0, .int .i64 1, .bool false, .bool false, .int .i64 1, .bool false, .bool false]
def aun_putinstrPu4_l6 (c0 : Int) (γ401 : Nat → Nat) : List Value := [zz, .int .i64 c0, .int .u64 (sh c0 0), .int .i64 1, .int .i64 1, .bool true, .int .i64 0, .int .i64 1, .int .i64 0, .int .i64 0, .int .i64 0, .int .u64 (sh c0 0), .int .u8 (dg c0 0), .pointer (some ⟨γ401 7, 0, none⟩), .int .u64 (sh c0 0), .int .u64 (sh c0 1)]
def aun_putinstrPu4_l7 : List Value := [.int .i64 1, zz, zz, zz, zz, zz, zz, zz, zz, zz]
def aun_putinstrPu4_b8 (c0 : Int) (u12 : Option Addr) (u13 : Nat) (γ401 : Nat → Nat) : List Value := (aun_putinstrPu4_l5 c0 u12 u13 γ401) ++ ((aun_putinstrPu4_l6 c0 γ401) ++ (aun_putinstrPu4_l7))
def aun_putinstrPu4_c9 (c0 : Int) : List Value := [.int .u8 (dg c0 0), .int .u8 0, .int .u8 0, .int .u8 0, .int .u8 0, .int .u8 0, .int .u8 0, .int .u8 0]
set_option maxHeartbeats 8000000 in
set_option maxRecDepth 100000 in
theorem aun_putinstrPu4 (o0 : Int) (a0 : Int) (b0 : Int) (c0 : Int) (u12 : Option Addr) (u13 : Nat) {w : World} (hr0 : Rd w (.slice u12 3 u13) 1 encU8 ([dg o0 0, dg a0 0, dg b0 0] : List Int)) (hb0 : ([dg o0 0, dg a0 0, dg b0 0] : List Int).length ≤ 1000) : Calls Try.prog 42 #[.slice u12 3 u13, .int .i64 c0, .int .i64 1] w fun e w' => ∃ x : (Option Addr) × Nat, e = .returned (.slice x.1 4 x.2) ∧ Fresh w w' [rowA 5 1 (.slice x.1 4 x.2) ([dg o0 0, dg a0 0, dg b0 0, dg c0 0] : List Int).length (([dg o0 0, dg a0 0, dg b0 0, dg c0 0] : List Int).flatMap encU8)] := by
  refine enter (args := [.slice u12 3 u13, .int .i64 c0, .int .i64 1]) (fn := Try.f42) rfl (c := bdy Try.f42) (by kernel_rfl) ?_
  have hcap0 := hr0.cap.2
  refine ck 13 [] [(9, .int .u64 (sh c0 0))] fun γ401 => ⟨⟨kt (bdy Try.f42) [1, 1, 1, 1, 0, 1, 0] [], (aun_putinstrPu4_b3 c0 u12 u13 γ401), [(γ401 7, 115, aun_putinstrPu4_c4)]⟩, [], [Value.int .u64 (IntKind.wrap .u64 c0) = .int .u64 (sh c0 0)], by kernel_rfl, (.cons (congrArg (Value.int .u64) (conv64 c0)) .nil), ?_⟩
  refine lu 12 (fun I402 hI402 => ?_)
  refine ck 16 [(1, 0)] [(8, .int .u8 (dg c0 0)), (12, .int .u64 (sh c0 1))] fun γ403 => ⟨⟨ktp (I402 12) (kt (bdy Try.f42) [1, 1, 1, 1, 0, 1, 0] []), (aun_putinstrPu4_b8 c0 u12 u13 γ401), [(γ401 7, 115, (aun_putinstrPu4_c9 c0))]⟩, [(1, γ401 7)], [Value.int .u8 (IntKind.wrap .u8 (sh c0 0)) = .int .u8 (dg c0 0), Value.int .u64 (Int.fdiv (sh c0 0) (2 ^ 8)) = .int .u64 (sh c0 1)], by kernel_rfl, (.cons (congrArg (Value.int .u8) (conv8 c0 0)) (.cons (congrArg (Value.int .u64) (sh_add c0 0 1)) .nil)), ?_⟩
  refine lv hI402 11 ?_
  refine ck 1 [] [] fun γ404 => ⟨⟨kt (bdy Try.f42) [1, 1, 1, 1, 1, 0] [], upv (aun_putinstrPu4_b8 c0 u12 u13 γ401) [(21, .bool false)], [(γ401 7, 115, (aun_putinstrPu4_c9 c0))]⟩, [], [], by kernel_rfl, .nil, ?_⟩
  refine dr [] [] .nil ?_
  refine df [0, 1, 2, 3, 4, 6, 7] [] [] [] [] .nil ?_
  refine dsl 5 (A := u12) (n := 3) (c := u13) (sz := 1) none (some (.int .i64 3)) (some (.int .i64 3)) 0 3 3 rfl rfl rfl rfl (by omega) (by omega) (by omega) (.slice u12 3 3) (by rw [cutp0] <;> rfl) ?_
  refine dapg (e := 5) (A := u12) (sz := 1) (m := 1) (c := 8) (g := (γ401 7)) (T := 115) (enc := encU8) (l := ([dg o0 0, dg a0 0, dg b0 0] : List Int)) (cs := (aun_putinstrPu4_c9 c0)) 8 0 1 (fun W hW => (Rd.full (hr0.below (hW.old 0 rfl)))) encU8_len (by first | omega | (simp only [List.length_append, List.length_cons, List.length_nil]; omega)) (by simp only [maxLen]; first | omega | (simp only [List.length_append, List.length_cons, List.length_nil]; omega)) ([dg o0 0, dg a0 0, dg b0 0, dg c0 0] : List Int).length (([dg o0 0, dg a0 0, dg b0 0, dg c0 0] : List Int).flatMap encU8) (by simp) (by simp [encU8] <;> rfl) fun A405 c405 => ?_
  refine df [9] [] [] [] [] .nil ?_
  refine de (fs := (kt (bdy Try.f42) [1, 1, 1, 1, 1, 0] []).tail) ?_
  refine st0 (fs := (kt (bdy Try.f42) [1, 1, 1, 1, 1, 0] []).tail) (upv (aun_putinstrPu4_b8 c0 u12 u13 γ401) [(6, .slice A405 4 c405), (21, .bool false), (33, .slice u12 3 u13), (34, .slice u12 3 u13), (35, .int .i64 3), (36, .slice u12 3 u13), (37, .int .i64 3), (38, .slice u12 3 3), (39, .int .i64 1), (40, .slice (some ⟨γ401 7, 0, none⟩) 1 8), (41, .slice A405 4 c405)]) [(γ401 7, 115, (aun_putinstrPu4_c9 c0))] ?_
  refine rt (.slice A405 4 c405) [] [] (fun W hW => ?_)
  exact ⟨⟨A405, c405⟩, rfl, Fresh.of (R := [rowA 5 1 (.slice A405 4 c405) ([dg o0 0, dg a0 0, dg b0 0, dg c0 0] : List Int).length (([dg o0 0, dg a0 0, dg b0 0, dg c0 0] : List Int).flatMap encU8)]) (hW.perm (List.Perm.refl _)) (.cons_cons _ (.cons_cons _ (.slnil)))⟩
def aun_putinstrPu5_l0 (n0 : Int) (u16 : Option Addr) (u17 : Nat) (γ501 : Nat → Nat) : List Value := [.slice u16 4 u17, .int .i64 n0, .int .i64 8, zz, zz, zz, .slice none 0 0, .pointer (some ⟨γ501 7, 0, none⟩), .int .u64 (sh n0 0), zz, .int .i64 8, .bool false, .bool false, .int .i64 8, .bool false, .bool false]
def aun_putinstrPu5_l1 (n0 : Int) : List Value := [zz, .int .i64 n0, .int .u64 (sh n0 0), .int .i64 8, .int .i64 0, zz, zz, zz, zz, zz, zz, zz, zz, zz, zz, zz]
def aun_putinstrPu5_l2 : List Value := [zz, zz, zz, zz, zz, zz, zz, zz, zz, zz]
def aun_putinstrPu5_b3 (n0 : Int) (u16 : Option Addr) (u17 : Nat) (γ501 : Nat → Nat) : List Value := (aun_putinstrPu5_l0 n0 u16 u17 γ501) ++ ((aun_putinstrPu5_l1 n0) ++ (aun_putinstrPu5_l2))
def aun_putinstrPu5_c4 : List Value := [.int .u8 0, .int .u8 0, .int .u8 0, .int .u8 0, .int .u8 0, .int .u8 0, .int .u8 0, .int .u8 0]
def aun_putinstrPu5_l5 (n0 : Int) (u16 : Option Addr) (u17 : Nat) (γ501 : Nat → Nat) : List Value := [.slice u16 4 u17, .int .i64 n0, .int .i64 8, zz, zz, zz, .slice none 0 0, .pointer (some ⟨γ501 7, 0, none⟩), .int .u64 (sh n0 1), .int .i64 0, .int .i64 8, .bool false, .bool false, .int .i64 8, .bool false, .bool false]
def aun_putinstrPu5_l6 (n0 : Int) (γ501 : Nat → Nat) : List Value := [zz, .int .i64 n0, .int .u64 (sh n0 0), .int .i64 8, .int .i64 1, .bool true, .int .i64 0, .int .i64 8, .int .i64 7, .int .i64 0, .int .i64 7, .int .u64 (sh n0 0), .int .u8 (dg n0 0), .pointer (some ⟨γ501 7, 7, none⟩), .int .u64 (sh n0 0), .int .u64 (sh n0 1)]
def aun_putinstrPu5_l7 : List Value := [.int .i64 1, zz, zz, zz, zz, zz, zz, zz, zz, zz]
def aun_putinstrPu5_b8 (n0 : Int) (u16 : Option Addr) (u17 : Nat) (γ501 : Nat → Nat) : List Value := (aun_putinstrPu5_l5 n0 u16 u17 γ501) ++ ((aun_putinstrPu5_l6 n0 γ501) ++ (aun_putinstrPu5_l7))
def aun_putinstrPu5_c9 (n0 : Int) : List Value := [.int .u8 0, .int .u8 0, .int .u8 0, .int .u8 0, .int .u8 0, .int .u8 0, .int .u8 0, .int .u8 (dg n0 0)]
def aun_putinstrPu5_c10 (n0 : Int) : List Value := [.int .u8 0, .int .u8 0, .int .u8 0, .int .u8 0, .int .u8 0, .int .u8 0, .int .u8 (dg n0 1), .int .u8 (dg n0 0)]
def aun_putinstrPu5_c11 (n0 : Int) : List Value := [.int .u8 0, .int .u8 0, .int .u8 0, .int .u8 0, .int .u8 0, .int .u8 (dg n0 2), .int .u8 (dg n0 1), .int .u8 (dg n0 0)]
def aun_putinstrPu5_c12 (n0 : Int) : List Value := [.int .u8 0, .int .u8 0, .int .u8 0, .int .u8 0, .int .u8 (dg n0 3), .int .u8 (dg n0 2), .int .u8 (dg n0 1), .int .u8 (dg n0 0)]
def aun_putinstrPu5_c13 (n0 : Int) : List Value := [.int .u8 0, .int .u8 0, .int .u8 0, .int .u8 (dg n0 4), .int .u8 (dg n0 3), .int .u8 (dg n0 2), .int .u8 (dg n0 1), .int .u8 (dg n0 0)]
def aun_putinstrPu5_c14 (n0 : Int) : List Value := [.int .u8 0, .int .u8 0, .int .u8 (dg n0 5), .int .u8 (dg n0 4), .int .u8 (dg n0 3), .int .u8 (dg n0 2), .int .u8 (dg n0 1), .int .u8 (dg n0 0)]
def aun_putinstrPu5_c15 (n0 : Int) : List Value := [.int .u8 0, .int .u8 (dg n0 6), .int .u8 (dg n0 5), .int .u8 (dg n0 4), .int .u8 (dg n0 3), .int .u8 (dg n0 2), .int .u8 (dg n0 1), .int .u8 (dg n0 0)]
def aun_putinstrPu5_c16 (n0 : Int) : List Value := [.int .u8 (dg n0 7), .int .u8 (dg n0 6), .int .u8 (dg n0 5), .int .u8 (dg n0 4), .int .u8 (dg n0 3), .int .u8 (dg n0 2), .int .u8 (dg n0 1), .int .u8 (dg n0 0)]
def aun_putinstrPu5_l17 (n0 : Int) (u16 : Option Addr) (u17 : Nat) (γ501 : Nat → Nat) : List Value := [.slice u16 4 u17, .int .i64 n0, .int .i64 8, zz, zz, zz, .slice none 0 0, .pointer (some ⟨γ501 7, 0, none⟩), .int .u64 (sh n0 8), .int .i64 7, .int .i64 8, .bool false, .bool false, .int .i64 8, .bool false, .bool false]
def aun_putinstrPu5_l18 (n0 : Int) (γ501 : Nat → Nat) : List Value := [zz, .int .i64 n0, .int .u64 (sh n0 0), .int .i64 8, .int .i64 8, .bool false, .int .i64 7, .int .i64 8, .int .i64 7, .int .i64 7, .int .i64 0, .int .u64 (sh n0 7), .int .u8 (dg n0 7), .pointer (some ⟨γ501 7, 0, none⟩), .int .u64 (sh n0 7), .int .u64 (sh n0 8)]
def aun_putinstrPu5_l19 : List Value := [.int .i64 8, zz, zz, zz, zz, zz, zz, zz, zz, zz]
def aun_putinstrPu5_b20 (n0 : Int) (u16 : Option Addr) (u17 : Nat) (γ501 : Nat → Nat) : List Value := (aun_putinstrPu5_l17 n0 u16 u17 γ501) ++ ((aun_putinstrPu5_l18 n0 γ501) ++ (aun_putinstrPu5_l19))
set_option maxHeartbeats 8000000 in
set_option maxRecDepth 100000 in
theorem aun_putinstrPu5 (o0 : Int) (a0 : Int) (b0 : Int) (c0 : Int) (n0 : Int) (u16 : Option Addr) (u17 : Nat) {w : World} (hr0 : Rd w (.slice u16 4 u17) 1 encU8 ([dg o0 0, dg a0 0, dg b0 0, dg c0 0] : List Int)) (hb0 : ([dg o0 0, dg a0 0, dg b0 0, dg c0 0] : List Int).length ≤ 1000) : Calls Try.prog 42 #[.slice u16 4 u17, .int .i64 n0, .int .i64 8] w fun e w' => ∃ x : (Option Addr) × Nat, e = .returned (.slice x.1 12 x.2) ∧ Fresh w w' [rowA 5 1 (.slice x.1 12 x.2) ([dg o0 0, dg a0 0, dg b0 0, dg c0 0, dg n0 7, dg n0 6, dg n0 5, dg n0 4, dg n0 3, dg n0 2, dg n0 1, dg n0 0] : List Int).length (([dg o0 0, dg a0 0, dg b0 0, dg c0 0, dg n0 7, dg n0 6, dg n0 5, dg n0 4, dg n0 3, dg n0 2, dg n0 1, dg n0 0] : List Int).flatMap encU8)] := by
  refine enter (args := [.slice u16 4 u17, .int .i64 n0, .int .i64 8]) (fn := Try.f42) rfl (c := bdy Try.f42) (by kernel_rfl) ?_
  have hcap0 := hr0.cap.2
  refine ck 13 [] [(9, .int .u64 (sh n0 0))] fun γ501 => ⟨⟨kt (bdy Try.f42) [1, 1, 1, 1, 0, 1, 0] [], (aun_putinstrPu5_b3 n0 u16 u17 γ501), [(γ501 7, 115, aun_putinstrPu5_c4)]⟩, [], [Value.int .u64 (IntKind.wrap .u64 n0) = .int .u64 (sh n0 0)], by kernel_rfl, (.cons (congrArg (Value.int .u64) (conv64 n0)) .nil), ?_⟩
  refine lu 12 (fun I502 hI502 => ?_)
  refine ck 16 [(1, 0)] [(8, .int .u8 (dg n0 0)), (12, .int .u64 (sh n0 1))] fun γ503 => ⟨⟨ktp (I502 12) (kt (bdy Try.f42) [1, 1, 1, 1, 0, 1, 0] []), (aun_putinstrPu5_b8 n0 u16 u17 γ501), [(γ501 7, 115, (aun_putinstrPu5_c9 n0))]⟩, [(1, γ501 7)], [Value.int .u8 (IntKind.wrap .u8 (sh n0 0)) = .int .u8 (dg n0 0), Value.int .u64 (Int.fdiv (sh n0 0) (2 ^ 8)) = .int .u64 (sh n0 1)], by kernel_rfl, (.cons (congrArg (Value.int .u8) (conv8 n0 0)) (.cons (congrArg (Value.int .u64) (sh_add n0 0 1)) .nil)), ?_⟩
  refine lv hI502 11 ?_
  refine ck 16 [(1, 0)] [(8, .int .u8 (dg n0 1)), (12, .int .u64 (sh n0 2))] fun γ504 => ⟨⟨ktp (I502 11) (kt (bdy Try.f42) [1, 1, 1, 1, 0, 1, 0] []), upv (aun_putinstrPu5_b8 n0 u16 u17 γ501) [(8, .int .u64 (sh n0 2)), (9, .int .i64 1), (20, .int .i64 2), (22, .int .i64 1), (25, .int .i64 1), (26, .int .i64 6), (27, .int .u64 (sh n0 1)), (28, .int .u8 (dg n0 1)), (29, .pointer (some ⟨γ501 7, 6, none⟩)), (30, .int .u64 (sh n0 1)), (31, .int .u64 (sh n0 2)), (32, .int .i64 2)], [(γ501 7, 115, (aun_putinstrPu5_c10 n0))]⟩, [(1, γ501 7)], [Value.int .u8 (IntKind.wrap .u8 (sh n0 1)) = .int .u8 (dg n0 1), Value.int .u64 (Int.fdiv (sh n0 1) (2 ^ 8)) = .int .u64 (sh n0 2)], by kernel_rfl, (.cons (congrArg (Value.int .u8) (conv8 n0 1)) (.cons (congrArg (Value.int .u64) (sh_add n0 1 1)) .nil)), ?_⟩
  refine lv hI502 10 ?_
  refine ck 16 [(1, 0)] [(8, .int .u8 (dg n0 2)), (12, .int .u64 (sh n0 3))] fun γ505 => ⟨⟨ktp (I502 10) (kt (bdy Try.f42) [1, 1, 1, 1, 0, 1, 0] []), upv (aun_putinstrPu5_b8 n0 u16 u17 γ501) [(8, .int .u64 (sh n0 3)), (9, .int .i64 2), (20, .int .i64 3), (22, .int .i64 2), (25, .int .i64 2), (26, .int .i64 5), (27, .int .u64 (sh n0 2)), (28, .int .u8 (dg n0 2)), (29, .pointer (some ⟨γ501 7, 5, none⟩)), (30, .int .u64 (sh n0 2)), (31, .int .u64 (sh n0 3)), (32, .int .i64 3)], [(γ501 7, 115, (aun_putinstrPu5_c11 n0))]⟩, [(1, γ501 7)], [Value.int .u8 (IntKind.wrap .u8 (sh n0 2)) = .int .u8 (dg n0 2), Value.int .u64 (Int.fdiv (sh n0 2) (2 ^ 8)) = .int .u64 (sh n0 3)], by kernel_rfl, (.cons (congrArg (Value.int .u8) (conv8 n0 2)) (.cons (congrArg (Value.int .u64) (sh_add n0 2 1)) .nil)), ?_⟩
  refine lv hI502 9 ?_
  refine ck 16 [(1, 0)] [(8, .int .u8 (dg n0 3)), (12, .int .u64 (sh n0 4))] fun γ506 => ⟨⟨ktp (I502 9) (kt (bdy Try.f42) [1, 1, 1, 1, 0, 1, 0] []), upv (aun_putinstrPu5_b8 n0 u16 u17 γ501) [(8, .int .u64 (sh n0 4)), (9, .int .i64 3), (20, .int .i64 4), (22, .int .i64 3), (25, .int .i64 3), (26, .int .i64 4), (27, .int .u64 (sh n0 3)), (28, .int .u8 (dg n0 3)), (29, .pointer (some ⟨γ501 7, 4, none⟩)), (30, .int .u64 (sh n0 3)), (31, .int .u64 (sh n0 4)), (32, .int .i64 4)], [(γ501 7, 115, (aun_putinstrPu5_c12 n0))]⟩, [(1, γ501 7)], [Value.int .u8 (IntKind.wrap .u8 (sh n0 3)) = .int .u8 (dg n0 3), Value.int .u64 (Int.fdiv (sh n0 3) (2 ^ 8)) = .int .u64 (sh n0 4)], by kernel_rfl, (.cons (congrArg (Value.int .u8) (conv8 n0 3)) (.cons (congrArg (Value.int .u64) (sh_add n0 3 1)) .nil)), ?_⟩
  refine lv hI502 8 ?_
  refine ck 16 [(1, 0)] [(8, .int .u8 (dg n0 4)), (12, .int .u64 (sh n0 5))] fun γ507 => ⟨⟨ktp (I502 8) (kt (bdy Try.f42) [1, 1, 1, 1, 0, 1, 0] []), upv (aun_putinstrPu5_b8 n0 u16 u17 γ501) [(8, .int .u64 (sh n0 5)), (9, .int .i64 4), (20, .int .i64 5), (22, .int .i64 4), (25, .int .i64 4), (26, .int .i64 3), (27, .int .u64 (sh n0 4)), (28, .int .u8 (dg n0 4)), (29, .pointer (some ⟨γ501 7, 3, none⟩)), (30, .int .u64 (sh n0 4)), (31, .int .u64 (sh n0 5)), (32, .int .i64 5)], [(γ501 7, 115, (aun_putinstrPu5_c13 n0))]⟩, [(1, γ501 7)], [Value.int .u8 (IntKind.wrap .u8 (sh n0 4)) = .int .u8 (dg n0 4), Value.int .u64 (Int.fdiv (sh n0 4) (2 ^ 8)) = .int .u64 (sh n0 5)], by kernel_rfl, (.cons (congrArg (Value.int .u8) (conv8 n0 4)) (.cons (congrArg (Value.int .u64) (sh_add n0 4 1)) .nil)), ?_⟩
  refine lv hI502 7 ?_
  refine ck 16 [(1, 0)] [(8, .int .u8 (dg n0 5)), (12, .int .u64 (sh n0 6))] fun γ508 => ⟨⟨ktp (I502 7) (kt (bdy Try.f42) [1, 1, 1, 1, 0, 1, 0] []), upv (aun_putinstrPu5_b8 n0 u16 u17 γ501) [(8, .int .u64 (sh n0 6)), (9, .int .i64 5), (20, .int .i64 6), (22, .int .i64 5), (25, .int .i64 5), (26, .int .i64 2), (27, .int .u64 (sh n0 5)), (28, .int .u8 (dg n0 5)), (29, .pointer (some ⟨γ501 7, 2, none⟩)), (30, .int .u64 (sh n0 5)), (31, .int .u64 (sh n0 6)), (32, .int .i64 6)], [(γ501 7, 115, (aun_putinstrPu5_c14 n0))]⟩, [(1, γ501 7)], [Value.int .u8 (IntKind.wrap .u8 (sh n0 5)) = .int .u8 (dg n0 5), Value.int .u64 (Int.fdiv (sh n0 5) (2 ^ 8)) = .int .u64 (sh n0 6)], by kernel_rfl, (.cons (congrArg (Value.int .u8) (conv8 n0 5)) (.cons (congrArg (Value.int .u64) (sh_add n0 5 1)) .nil)), ?_⟩
  refine lv hI502 6 ?_
  refine ck 16 [(1, 0)] [(8, .int .u8 (dg n0 6)), (12, .int .u64 (sh n0 7))] fun γ509 => ⟨⟨ktp (I502 6) (kt (bdy Try.f42) [1, 1, 1, 1, 0, 1, 0] []), upv (aun_putinstrPu5_b8 n0 u16 u17 γ501) [(8, .int .u64 (sh n0 7)), (9, .int .i64 6), (20, .int .i64 7), (22, .int .i64 6), (25, .int .i64 6), (26, .int .i64 1), (27, .int .u64 (sh n0 6)), (28, .int .u8 (dg n0 6)), (29, .pointer (some ⟨γ501 7, 1, none⟩)), (30, .int .u64 (sh n0 6)), (31, .int .u64 (sh n0 7)), (32, .int .i64 7)], [(γ501 7, 115, (aun_putinstrPu5_c15 n0))]⟩, [(1, γ501 7)], [Value.int .u8 (IntKind.wrap .u8 (sh n0 6)) = .int .u8 (dg n0 6), Value.int .u64 (Int.fdiv (sh n0 6) (2 ^ 8)) = .int .u64 (sh n0 7)], by kernel_rfl, (.cons (congrArg (Value.int .u8) (conv8 n0 6)) (.cons (congrArg (Value.int .u64) (sh_add n0 6 1)) .nil)), ?_⟩
  refine lv hI502 5 ?_
  refine ck 16 [(1, 0)] [(8, .int .u8 (dg n0 7)), (12, .int .u64 (sh n0 8))] fun γ510 => ⟨⟨ktp (I502 5) (kt (bdy Try.f42) [1, 1, 1, 1, 0, 1, 0] []), upv (aun_putinstrPu5_b8 n0 u16 u17 γ501) [(8, .int .u64 (sh n0 8)), (9, .int .i64 7), (20, .int .i64 8), (22, .int .i64 7), (25, .int .i64 7), (26, .int .i64 0), (27, .int .u64 (sh n0 7)), (28, .int .u8 (dg n0 7)), (29, .pointer (some ⟨γ501 7, 0, none⟩)), (30, .int .u64 (sh n0 7)), (31, .int .u64 (sh n0 8)), (32, .int .i64 8)], [(γ501 7, 115, (aun_putinstrPu5_c16 n0))]⟩, [(1, γ501 7)], [Value.int .u8 (IntKind.wrap .u8 (sh n0 7)) = .int .u8 (dg n0 7), Value.int .u64 (Int.fdiv (sh n0 7) (2 ^ 8)) = .int .u64 (sh n0 8)], by kernel_rfl, (.cons (congrArg (Value.int .u8) (conv8 n0 7)) (.cons (congrArg (Value.int .u64) (sh_add n0 7 1)) .nil)), ?_⟩
  refine lv hI502 4 ?_
  refine ck 1 [] [] fun γ511 => ⟨⟨kt (bdy Try.f42) [1, 1, 1, 1, 1, 0] [], (aun_putinstrPu5_b20 n0 u16 u17 γ501), [(γ501 7, 115, (aun_putinstrPu5_c16 n0))]⟩, [], [], by kernel_rfl, .nil, ?_⟩
  refine dr [] [] .nil ?_
  refine df [0, 1, 2, 3, 4, 6, 7] [] [] [] [] .nil ?_
  refine dsl 5 (A := u16) (n := 4) (c := u17) (sz := 1) none (some (.int .i64 4)) (some (.int .i64 4)) 0 4 4 rfl rfl rfl rfl (by omega) (by omega) (by omega) (.slice u16 4 4) (by rw [cutp0] <;> rfl) ?_
  refine dapg (e := 5) (A := u16) (sz := 1) (m := 8) (c := 8) (g := (γ501 7)) (T := 115) (enc := encU8) (l := ([dg o0 0, dg a0 0, dg b0 0, dg c0 0] : List Int)) (cs := (aun_putinstrPu5_c16 n0)) 8 0 1 (fun W hW => (Rd.full (hr0.below (hW.old 0 rfl)))) encU8_len (by first | omega | (simp only [List.length_append, List.length_cons, List.length_nil]; omega)) (by simp only [maxLen]; first | omega | (simp only [List.length_append, List.length_cons, List.length_nil]; omega)) ([dg o0 0, dg a0 0, dg b0 0, dg c0 0, dg n0 7, dg n0 6, dg n0 5, dg n0 4, dg n0 3, dg n0 2, dg n0 1, dg n0 0] : List Int).length (([dg o0 0, dg a0 0, dg b0 0, dg c0 0, dg n0 7, dg n0 6, dg n0 5, dg n0 4, dg n0 3, dg n0 2, dg n0 1, dg n0 0] : List Int).flatMap encU8) (by simp) (by simp [encU8] <;> rfl) fun A512 c512 => ?_
  refine df [9] [] [] [] [] .nil ?_
  refine de (fs := (kt (bdy Try.f42) [1, 1, 1, 1, 1, 0] []).tail) ?_
  refine st0 (fs := (kt (bdy Try.f42) [1, 1, 1, 1, 1, 0] []).tail) (upv (aun_putinstrPu5_b20 n0 u16 u17 γ501) [(6, .slice A512 12 c512), (33, .slice u16 4 u17), (34, .slice u16 4 u17), (35, .int .i64 4), (36, .slice u16 4 u17), (37, .int .i64 4), (38, .slice u16 4 4), (39, .int .i64 8), (40, .slice (some ⟨γ501 7, 0, none⟩) 8 8), (41, .slice A512 12 c512)]) [(γ501 7, 115, (aun_putinstrPu5_c16 n0))] ?_
  refine rt (.slice A512 12 c512) [] [] (fun W hW => ?_)
  exact ⟨⟨A512, c512⟩, rfl, Fresh.of (R := [rowA 5 1 (.slice A512 12 c512) ([dg o0 0, dg a0 0, dg b0 0, dg c0 0, dg n0 7, dg n0 6, dg n0 5, dg n0 4, dg n0 3, dg n0 2, dg n0 1, dg n0 0] : List Int).length (([dg o0 0, dg a0 0, dg b0 0, dg c0 0, dg n0 7, dg n0 6, dg n0 5, dg n0 4, dg n0 3, dg n0 2, dg n0 1, dg n0 0] : List Int).flatMap encU8)]) (hW.perm (List.Perm.refl _)) (.cons_cons _ (.cons_cons _ (.slnil)))⟩
def put_l0 (o0 : Int) (a0 : Int) (b0 : Int) (c0 : Int) (n0 : Int) (γ1 : Nat → Nat) : List Value := [.agg #[.int .i64 o0, .int .i64 a0, .int .i64 b0, .int .i64 c0, .int .i64 n0], .pointer (some ⟨γ1 0, 0, none⟩), .slice none 0 0, .slice none 0 0, zz, zz, .pointer (some ⟨γ1 0, 0, none⟩), .int .i64 o0, .pointer (some ⟨γ1 0, 1, none⟩), .int .i64 a0, .pointer (some ⟨γ1 0, 2, none⟩), .int .i64 b0, .pointer (some ⟨γ1 0, 3, none⟩), .int .i64 c0, .agg #[.int .i64 o0, .int .i64 a0, .int .i64 b0, .int .i64 c0], .int .i64 0]
def put_l1 : List Value := [zz, zz, zz, zz, zz, zz, zz, zz, zz, zz]
def put_b2 (o0 : Int) (a0 : Int) (b0 : Int) (c0 : Int) (n0 : Int) (γ1 : Nat → Nat) : List Value := (put_l0 o0 a0 b0 c0 n0 γ1) ++ (put_l1)
def put_l3 (o0 : Int) (a0 : Int) (b0 : Int) (c0 : Int) (n0 : Int) (γ1 : Nat → Nat) (u16 : Option Addr) (u17 : Nat) (u20 : Option Addr) (u21 : Nat) : List Value := [.agg #[.int .i64 o0, .int .i64 a0, .int .i64 b0, .int .i64 c0, .int .i64 n0], .pointer (some ⟨γ1 0, 0, none⟩), .slice u20 12 u21, .slice u16 4 u17, zz, .int .i64 c0, .pointer (some ⟨γ1 0, 0, none⟩), .int .i64 o0, .pointer (some ⟨γ1 0, 1, none⟩), .int .i64 a0, .pointer (some ⟨γ1 0, 2, none⟩), .int .i64 b0, .pointer (some ⟨γ1 0, 3, none⟩), .int .i64 c0, .agg #[.int .i64 o0, .int .i64 a0, .int .i64 b0, .int .i64 c0], .int .i64 4]
def put_l4 (c0 : Int) (n0 : Int) (γ1 : Nat → Nat) (u12 : Option Addr) (u13 : Nat) (u16 : Option Addr) (u17 : Nat) (u20 : Option Addr) (u21 : Nat) : List Value := [.bool false, .int .i64 c0, .slice u12 3 u13, .int .i64 c0, .slice u16 4 u17, .int .i64 4, .slice u16 4 u17, .pointer (some ⟨γ1 0, 4, none⟩), .int .i64 n0, .slice u20 12 u21]
def put_b5 (o0 : Int) (a0 : Int) (b0 : Int) (c0 : Int) (n0 : Int) (γ1 : Nat → Nat) (u12 : Option Addr) (u13 : Nat) (u16 : Option Addr) (u17 : Nat) (u20 : Option Addr) (u21 : Nat) : List Value := (put_l3 o0 a0 b0 c0 n0 γ1 u16 u17 u20 u21) ++ ((put_l4 c0 n0 γ1 u12 u13 u16 u17 u20 u21))
set_option maxHeartbeats 8000000 in
set_option maxRecDepth 100000 in
theorem put_is (o0 a0 b0 c0 n0 : Int) (w : World) : Calls Try.prog 19 #[.agg #[.int .i64 o0, .int .i64 a0, .int .i64 b0, .int .i64 c0, .int .i64 n0]] w fun e w' => ∃ r : RV, e = .returned (.slice r.1 12 r.2) ∧ Fresh w w' [rowA 5 1 (.slice r.1 12 r.2) 12 ((([dg o0 0, dg a0 0, dg b0 0, dg c0 0, dg n0 7, dg n0 6, dg n0 5, dg n0 4, dg n0 3, dg n0 2, dg n0 1, dg n0 0]) : List Int).flatMap encU8)] := by
  refine enter (args := [.agg #[.int .i64 o0, .int .i64 a0, .int .i64 b0, .int .i64 c0, .int .i64 n0]]) (fn := Try.f19) rfl (c := bdy Try.f19) (by kernel_rfl) ?_
  refine ck 13 [(4, 0)] [] fun γ1 => ⟨⟨kt (bdy Try.f19) [1, 1, 0, 1, 0] [], (put_b2 o0 a0 b0 c0 n0 γ1), [(γ1 0, 41, [.int .i64 o0, .int .i64 a0, .int .i64 b0, .int .i64 c0, .int .i64 n0])]⟩, [(4, γ1 0)], [], by kernel_rfl, .nil, ?_⟩
  refine lu 12 (fun I2 hI2 => ?_)
  refine ck 5 [] [] fun γ3 => ⟨⟨ktl [1, 1, 0, 0, 1, 2] (I2 12) (kt (bdy Try.f19) [1, 1, 0, 1, 0] []), upv (put_b2 o0 a0 b0 c0 n0 γ1) [(5, .int .i64 o0), (16, .bool true), (17, .int .i64 o0), (18, .slice none 0 0), (19, .int .i64 o0)], [(γ1 0, 41, [.int .i64 o0, .int .i64 a0, .int .i64 b0, .int .i64 c0, .int .i64 n0])]⟩, [], [], by kernel_rfl, .nil, ?_⟩
  refine cf (fun W hW => aun_putinstrPu1 o0) ?_
  rintro ⟨u4, u5⟩
  refine ck 3 [] [] fun γ6 => ⟨⟨ktp (I2 12) (kt (bdy Try.f19) [1, 1, 0, 1, 0] []), upv (put_b2 o0 a0 b0 c0 n0 γ1) [(3, .slice u4 1 u5), (5, .int .i64 o0), (15, .int .i64 1), (16, .bool true), (17, .int .i64 o0), (18, .slice none 0 0), (19, .int .i64 o0), (20, .slice u4 1 u5), (21, .int .i64 1)], [(γ1 0, 41, [.int .i64 o0, .int .i64 a0, .int .i64 b0, .int .i64 c0, .int .i64 n0])]⟩, [], [], by kernel_rfl, .nil, ?_⟩
  refine lv hI2 11 ?_
  refine ck 5 [] [] fun γ7 => ⟨⟨ktl [1, 1, 0, 0, 1, 2] (I2 11) (kt (bdy Try.f19) [1, 1, 0, 1, 0] []), upv (put_b2 o0 a0 b0 c0 n0 γ1) [(3, .slice u4 1 u5), (5, .int .i64 a0), (15, .int .i64 1), (16, .bool true), (17, .int .i64 a0), (18, .slice u4 1 u5), (19, .int .i64 a0), (20, .slice u4 1 u5), (21, .int .i64 1)], [(γ1 0, 41, [.int .i64 o0, .int .i64 a0, .int .i64 b0, .int .i64 c0, .int .i64 n0])]⟩, [], [], by kernel_rfl, .nil, ?_⟩
  refine cf (fun W hW => aun_putinstrPu2 o0 a0 u4 u5 (own_rd encU8_len (hW.at 0 rfl)) (by first | omega | (simp only [List.length_append, List.length_cons, List.length_nil]; omega) | simp)) ?_
  rintro ⟨u8, u9⟩
  refine ck 3 [] [] fun γ10 => ⟨⟨ktp (I2 11) (kt (bdy Try.f19) [1, 1, 0, 1, 0] []), upv (put_b2 o0 a0 b0 c0 n0 γ1) [(3, .slice u8 2 u9), (5, .int .i64 a0), (15, .int .i64 2), (16, .bool true), (17, .int .i64 a0), (18, .slice u4 1 u5), (19, .int .i64 a0), (20, .slice u8 2 u9), (21, .int .i64 2)], [(γ1 0, 41, [.int .i64 o0, .int .i64 a0, .int .i64 b0, .int .i64 c0, .int .i64 n0])]⟩, [], [], by kernel_rfl, .nil, ?_⟩
  refine lv hI2 10 ?_
  refine ck 5 [] [] fun γ11 => ⟨⟨ktl [1, 1, 0, 0, 1, 2] (I2 10) (kt (bdy Try.f19) [1, 1, 0, 1, 0] []), upv (put_b2 o0 a0 b0 c0 n0 γ1) [(3, .slice u8 2 u9), (5, .int .i64 b0), (15, .int .i64 2), (16, .bool true), (17, .int .i64 b0), (18, .slice u8 2 u9), (19, .int .i64 b0), (20, .slice u8 2 u9), (21, .int .i64 2)], [(γ1 0, 41, [.int .i64 o0, .int .i64 a0, .int .i64 b0, .int .i64 c0, .int .i64 n0])]⟩, [], [], by kernel_rfl, .nil, ?_⟩
  refine cf (fun W hW => aun_putinstrPu3 o0 a0 b0 u8 u9 (own_rd encU8_len (hW.at 0 rfl)) (by first | omega | (simp only [List.length_append, List.length_cons, List.length_nil]; omega) | simp)) ?_
  rintro ⟨u12, u13⟩
  refine ck 3 [] [] fun γ14 => ⟨⟨ktp (I2 10) (kt (bdy Try.f19) [1, 1, 0, 1, 0] []), upv (put_b2 o0 a0 b0 c0 n0 γ1) [(3, .slice u12 3 u13), (5, .int .i64 b0), (15, .int .i64 3), (16, .bool true), (17, .int .i64 b0), (18, .slice u8 2 u9), (19, .int .i64 b0), (20, .slice u12 3 u13), (21, .int .i64 3)], [(γ1 0, 41, [.int .i64 o0, .int .i64 a0, .int .i64 b0, .int .i64 c0, .int .i64 n0])]⟩, [], [], by kernel_rfl, .nil, ?_⟩
  refine lv hI2 9 ?_
  refine ck 5 [] [] fun γ15 => ⟨⟨ktl [1, 1, 0, 0, 1, 2] (I2 9) (kt (bdy Try.f19) [1, 1, 0, 1, 0] []), upv (put_b2 o0 a0 b0 c0 n0 γ1) [(3, .slice u12 3 u13), (5, .int .i64 c0), (15, .int .i64 3), (16, .bool true), (17, .int .i64 c0), (18, .slice u12 3 u13), (19, .int .i64 c0), (20, .slice u12 3 u13), (21, .int .i64 3)], [(γ1 0, 41, [.int .i64 o0, .int .i64 a0, .int .i64 b0, .int .i64 c0, .int .i64 n0])]⟩, [], [], by kernel_rfl, .nil, ?_⟩
  refine cf (fun W hW => aun_putinstrPu4 o0 a0 b0 c0 u12 u13 (own_rd encU8_len (hW.at 0 rfl)) (by first | omega | (simp only [List.length_append, List.length_cons, List.length_nil]; omega) | simp)) ?_
  rintro ⟨u16, u17⟩
  refine ck 3 [] [] fun γ18 => ⟨⟨ktp (I2 9) (kt (bdy Try.f19) [1, 1, 0, 1, 0] []), upv (put_b2 o0 a0 b0 c0 n0 γ1) [(3, .slice u16 4 u17), (5, .int .i64 c0), (15, .int .i64 4), (16, .bool true), (17, .int .i64 c0), (18, .slice u12 3 u13), (19, .int .i64 c0), (20, .slice u16 4 u17), (21, .int .i64 4)], [(γ1 0, 41, [.int .i64 o0, .int .i64 a0, .int .i64 b0, .int .i64 c0, .int .i64 n0])]⟩, [], [], by kernel_rfl, .nil, ?_⟩
  refine lv hI2 8 ?_
  refine ck 4 [(1, 0)] [] fun γ19 => ⟨⟨kt (bdy Try.f19) [1, 1, 1, 0, 3] [], upv (put_b2 o0 a0 b0 c0 n0 γ1) [(3, .slice u16 4 u17), (5, .int .i64 c0), (15, .int .i64 4), (16, .bool false), (17, .int .i64 c0), (18, .slice u12 3 u13), (19, .int .i64 c0), (20, .slice u16 4 u17), (21, .int .i64 4), (22, .slice u16 4 u17), (23, .pointer (some ⟨γ1 0, 4, none⟩)), (24, .int .i64 n0)], [(γ1 0, 41, [.int .i64 o0, .int .i64 a0, .int .i64 b0, .int .i64 c0, .int .i64 n0])]⟩, [(1, γ1 0)], [], by kernel_rfl, .nil, ?_⟩
  refine cf (fun W hW => aun_putinstrPu5 o0 a0 b0 c0 n0 u16 u17 (own_rd encU8_len (hW.at 0 rfl)) (by first | omega | (simp only [List.length_append, List.length_cons, List.length_nil]; omega) | simp)) ?_
  rintro ⟨u20, u21⟩
  refine ck 1 [] [] fun γ22 => ⟨⟨kt (bdy Try.f19) [1, 1, 1, 1] [], (put_b5 o0 a0 b0 c0 n0 γ1 u12 u13 u16 u17 u20 u21), [(γ1 0, 41, [.int .i64 o0, .int .i64 a0, .int .i64 b0, .int .i64 c0, .int .i64 n0])]⟩, [], [], by kernel_rfl, .nil, ?_⟩
  refine rt (.slice u20 12 u21) [] [] (fun W hW => ?_)
  exact ⟨(u20, u21), rfl, Fresh.of (R := [rowA 5 1 (.slice u20 12 u21) ([dg o0 0, dg a0 0, dg b0 0, dg c0 0, dg n0 7, dg n0 6, dg n0 5, dg n0 4, dg n0 3, dg n0 2, dg n0 1, dg n0 0] : List Int).length (([dg o0 0, dg a0 0, dg b0 0, dg c0 0, dg n0 7, dg n0 6, dg n0 5, dg n0 4, dg n0 3, dg n0 2, dg n0 1, dg n0 0] : List Int).flatMap encU8)]) (hW.perm (List.Perm.refl _)) (.cons_cons _ (.cons _ (.cons _ (.cons _ (.cons _ (.cons_cons _ (.slnil)))))))⟩
def aun_putwarrene2_l0 (o0 : Int) : List Value := [.int .i64 o0, .int .i64 0, zz, zz, .int .u8 (dg o0 0), .int .i64 o0, .int .u64 (sh o0 0), .int .i64 0, .int .i64 0, .int .u64 (sh o0 0), .int .u64 (dg o0 0), .int .u8 (dg o0 0)]
set_option maxHeartbeats 8000000 in
set_option maxRecDepth 100000 in
theorem aun_putwarrene2 (o0 : Int) {w : World} : Calls Try.prog 71 #[.int .i64 o0, .int .i64 0] w fun e w' => e = .returned (.int .u8 (dg o0 0)) ∧ Below w.heap.size w w' := by
  refine enter (args := [.int .i64 o0, .int .i64 0]) (fn := Try.f71) rfl (c := bdy Try.f71) (by kernel_rfl) ?_
  refine ck 9 [] [(2, .int .u64 (sh o0 0)), (5, .int .u64 (sh o0 0)), (6, .int .u64 (dg o0 0)), (7, .int .u8 (dg o0 0))] fun γ201 => ⟨⟨kt (bdy Try.f71) [1, 1] [], (aun_putwarrene2_l0 o0), []⟩, [], [Value.int .u64 (IntKind.wrap .u64 o0) = .int .u64 (sh o0 0), Value.int .u64 (Int.fdiv (sh o0 0) (2 ^ 0)) = .int .u64 (sh o0 0), Value.int .u64 (IntKind.wrap .u64 (((BitVec.ofInt 64 (sh o0 0)) &&& (BitVec.ofInt 64 255)).toNat : Int)) = .int .u64 (dg o0 0), Value.int .u8 (IntKind.wrap .u8 (dg o0 0)) = .int .u8 (dg o0 0)], by kernel_rfl, (.cons (congrArg (Value.int .u64) (conv64 o0)) (.cons (congrArg (Value.int .u64) (sh_add o0 0 0)) (.cons (congrArg (Value.int .u64) (and255 o0 0)) (.cons (congrArg (Value.int .u8) (conv8' o0 0)) .nil)))), ?_⟩
  refine rt (.int .u8 (dg o0 0)) [] [] (fun W hW => ?_)
  exact ⟨rfl, (hW.old 0 rfl)⟩
def aun_putwarrene1_l0 (o0 : Int) : List Value := [.slice none 0 0, .int .i64 o0, .int .i64 1, zz, zz, zz, .slice none 0 0, .slice none 0 0, zz, .slice none 0 0, .slice none 0 0, zz, zz, zz, zz, zz]
def aun_putwarrene1_l1 : List Value := [zz, zz, zz, zz, zz, zz, zz, zz, zz, zz, zz, zz, zz, zz, zz, zz]
def aun_putwarrene1_b2 (o0 : Int) : List Value := (aun_putwarrene1_l0 o0) ++ (aun_putwarrene1_l1)
def aun_putwarrene1_l3 (o0 : Int) (A102 : Option Addr) (c102 : Nat) : List Value := [.slice none 0 0, .int .i64 o0, .int .i64 1, zz, zz, zz, .slice none 0 0, .slice A102 0 c102, .int .i64 0, .slice none 0 0, .slice none 0 0, .slice A102 0 c102, .int .i64 1, .bool false, .bool false, .int .i64 1]
def aun_putwarrene1_l4 (o0 : Int) (A102 : Option Addr) (c102 : Nat) : List Value := [.bool false, .bool false, zz, .int .i64 1, .int .i64 0, .int .i64 0, .bool true, zz, zz, .slice A102 0 c102, .int .i64 o0, .int .i64 0, zz, zz, zz, zz]
def aun_putwarrene1_b5 (o0 : Int) (A102 : Option Addr) (c102 : Nat) : List Value := (aun_putwarrene1_l3 o0 A102 c102) ++ ((aun_putwarrene1_l4 o0 A102 c102))
set_option maxHeartbeats 8000000 in
set_option maxRecDepth 100000 in
theorem aun_putwarrene1 (o0 : Int) {w : World} : Calls Try.prog 43 #[.slice none 0 0, .int .i64 o0, .int .i64 1] w fun e w' => ∃ x : (Option Addr) × Nat, e = .returned (.slice x.1 1 x.2) ∧ Fresh w w' [rowA 5 1 (.slice x.1 1 x.2) ([dg o0 0] : List (Int)).length (([dg o0 0] : List (Int)).flatMap encU8)] := by
  refine enter (args := [.slice none 0 0, .int .i64 o0, .int .i64 1]) (fn := Try.f43) rfl (c := bdy Try.f43) (by kernel_rfl) ?_
  refine ck 4 [] [] fun γ101 => ⟨⟨kt (bdy Try.f43) [1, 1, 0, 2] [], (aun_putwarrene1_b2 o0), []⟩, [], [], by kernel_rfl, .nil, ?_⟩
  refine nilrow 5 1 ?_
  refine aps (enc := encU8) (l := ([] : List (Int))) 0 1 rfl (fun W hW => (Rd.nil _ _ _)) encU8_len encU8_cell (by first | omega | (simp only [List.length_append, List.length_cons, List.length_nil]; omega)) (by simp only [maxLen]; first | omega | (simp only [List.length_append, List.length_cons, List.length_nil]; omega)) ([] : List (Int)).length (([] : List (Int)).flatMap encU8) (by simp) (by simp) fun A102 c102 => ?_
  refine ck 10 [] [] fun γ103 => ⟨⟨kt (bdy Try.f43) [1, 1, 1, 1, 0, 1, 0] [], upv (aun_putwarrene1_b2 o0) [(7, .slice A102 0 c102), (8, .int .i64 0), (11, .slice A102 0 c102), (12, .int .i64 1), (13, .bool false), (14, .bool false), (15, .int .i64 1), (16, .bool false), (17, .bool false), (19, .int .i64 1), (20, .int .i64 0)], []⟩, [], [], by kernel_rfl, .nil, ?_⟩
  refine lu 12 (fun I104 hI104 => ?_)
  refine ck 5 [] [] fun γ105 => ⟨⟨ktl [1, 0, 0, 3] (I104 12) (kt (bdy Try.f43) [1, 1, 1, 1, 0, 1, 0] []), (aun_putwarrene1_b5 o0 A102 c102), []⟩, [], [], by kernel_rfl, .nil, ?_⟩
  refine cp (fun W hW => aun_putwarrene2 o0) ?_
  refine ck 1 [] [] fun γ106 => ⟨⟨ktl [1, 0, 0, 5] (I104 12) (kt (bdy Try.f43) [1, 1, 1, 1, 0, 1, 0] []), upv (aun_putwarrene1_b5 o0 A102 c102) [(28, .int .u8 (dg o0 0)), (29, .slice (some ⟨γ106 0, 0, none⟩) 1 1)], [(γ106 0, 5, [.int .u8 (dg o0 0)])]⟩, [], [], by kernel_rfl, .nil, ?_⟩
  refine ap (m := 1) (c := 1) (g := (γ106 0)) (T := 5) (cs := [.int .u8 (dg o0 0)]) 0 0 1 rfl (by first | omega | (simp only [List.length_append, List.length_cons, List.length_nil]; omega)) (by simp only [maxLen]; first | omega | (simp only [List.length_append, List.length_cons, List.length_nil]; omega)) ([dg o0 0] : List (Int)).length (([dg o0 0] : List (Int)).flatMap encU8) (by simp) (by simp [encU8]) fun A107 c107 => ?_
  refine ck 4 [] [] fun γ108 => ⟨⟨ktp (I104 12) (kt (bdy Try.f43) [1, 1, 1, 1, 0, 1, 0] []), upv (aun_putwarrene1_b5 o0 A102 c102) [(7, .slice A107 1 c107), (8, .int .i64 (-1)), (23, .int .i64 0), (24, .int .i64 (-1)), (28, .int .u8 (dg o0 0)), (29, .slice (some ⟨γ106 0, 0, none⟩) 1 1), (30, .slice A107 1 c107)], [(γ106 0, 5, [.int .u8 (dg o0 0)])]⟩, [], [], by kernel_rfl, .nil, ?_⟩
  refine lv hI104 11 ?_
  refine ck 4 [] [] fun γ109 => ⟨⟨kt (bdy Try.f43) [1, 1, 1, 1, 1, 1] [], upv (aun_putwarrene1_b5 o0 A102 c102) [(6, .slice A107 1 c107), (7, .slice A107 1 c107), (8, .int .i64 (-1)), (21, .int .i64 (-1)), (22, .bool false), (23, .int .i64 0), (24, .int .i64 (-1)), (28, .int .u8 (dg o0 0)), (29, .slice (some ⟨γ106 0, 0, none⟩) 1 1), (30, .slice A107 1 c107), (31, .slice A107 1 c107)], [(γ106 0, 5, [.int .u8 (dg o0 0)])]⟩, [], [], by kernel_rfl, .nil, ?_⟩
  refine rt (.slice A107 1 c107) [] [] (fun W hW => ?_)
  exact ⟨⟨A107, c107⟩, rfl, Fresh.of (R := [rowA 5 1 (.slice A107 1 c107) ([dg o0 0] : List (Int)).length (([dg o0 0] : List (Int)).flatMap encU8)]) (hW.perm (List.Perm.refl _)) (.cons_cons _ (.cons_cons _ (.slnil)))⟩
def aun_putwarrene3_l0 (o0 : Int) (a0 : Int) (b0 : Int) (c0 : Int) (n0 : Int) (γ301 : Nat → Nat) : List Value := [.agg #[.int .i64 o0, .int .i64 a0, .int .i64 b0, .int .i64 c0, .int .i64 n0], .int .i64 0, .pointer (some ⟨γ301 0, 0, none⟩), zz, .int .i64 a0, .int .i64 0, .bool true, .bool true, .pointer (some ⟨γ301 0, 1, none⟩), .int .i64 a0, zz, zz, zz, zz, zz, zz]
def aun_putwarrene3_l1 : List Value := [zz, zz, zz, zz]
def aun_putwarrene3_b2 (o0 : Int) (a0 : Int) (b0 : Int) (c0 : Int) (n0 : Int) (γ301 : Nat → Nat) : List Value := (aun_putwarrene3_l0 o0 a0 b0 c0 n0 γ301) ++ (aun_putwarrene3_l1)
set_option maxHeartbeats 8000000 in
set_option maxRecDepth 100000 in
theorem aun_putwarrene3 (o0 : Int) (a0 : Int) (b0 : Int) (c0 : Int) (n0 : Int) {w : World} : Calls Try.prog 44 #[.agg #[.int .i64 o0, .int .i64 a0, .int .i64 b0, .int .i64 c0, .int .i64 n0], .int .i64 0] w fun e w' => e = .returned (.int .i64 a0) ∧ Below w.heap.size w w' := by
  refine enter (args := [.agg #[.int .i64 o0, .int .i64 a0, .int .i64 b0, .int .i64 c0, .int .i64 n0], .int .i64 0]) (fn := Try.f44) rfl (c := bdy Try.f44) (by kernel_rfl) ?_
  refine ck 8 [(1, 0)] [] fun γ301 => ⟨⟨kt (bdy Try.f44) [1, 0, 1, 0, 1, 0, 1] [], (aun_putwarrene3_b2 o0 a0 b0 c0 n0 γ301), [(γ301 0, 41, [.int .i64 o0, .int .i64 a0, .int .i64 b0, .int .i64 c0, .int .i64 n0])]⟩, [(1, γ301 0)], [], by kernel_rfl, .nil, ?_⟩
  refine rt (.int .i64 a0) [] [] (fun W hW => ?_)
  exact ⟨rfl, (hW.old 0 rfl)⟩
def aun_putwarrene5_l0 (a0 : Int) : List Value := [.int .i64 a0, .int .i64 0, zz, zz, .int .u8 (dg a0 0), .int .i64 a0, .int .u64 (sh a0 0), .int .i64 0, .int .i64 0, .int .u64 (sh a0 0), .int .u64 (dg a0 0), .int .u8 (dg a0 0)]
set_option maxHeartbeats 8000000 in
set_option maxRecDepth 100000 in
theorem aun_putwarrene5 (a0 : Int) {w : World} : Calls Try.prog 71 #[.int .i64 a0, .int .i64 0] w fun e w' => e = .returned (.int .u8 (dg a0 0)) ∧ Below w.heap.size w w' := by
  refine enter (args := [.int .i64 a0, .int .i64 0]) (fn := Try.f71) rfl (c := bdy Try.f71) (by kernel_rfl) ?_
  refine ck 9 [] [(2, .int .u64 (sh a0 0)), (5, .int .u64 (sh a0 0)), (6, .int .u64 (dg a0 0)), (7, .int .u8 (dg a0 0))] fun γ501 => ⟨⟨kt (bdy Try.f71) [1, 1] [], (aun_putwarrene5_l0 a0), []⟩, [], [Value.int .u64 (IntKind.wrap .u64 a0) = .int .u64 (sh a0 0), Value.int .u64 (Int.fdiv (sh a0 0) (2 ^ 0)) = .int .u64 (sh a0 0), Value.int .u64 (IntKind.wrap .u64 (((BitVec.ofInt 64 (sh a0 0)) &&& (BitVec.ofInt 64 255)).toNat : Int)) = .int .u64 (dg a0 0), Value.int .u8 (IntKind.wrap .u8 (dg a0 0)) = .int .u8 (dg a0 0)], by kernel_rfl, (.cons (congrArg (Value.int .u64) (conv64 a0)) (.cons (congrArg (Value.int .u64) (sh_add a0 0 0)) (.cons (congrArg (Value.int .u64) (and255 a0 0)) (.cons (congrArg (Value.int .u8) (conv8' a0 0)) .nil)))), ?_⟩
  refine rt (.int .u8 (dg a0 0)) [] [] (fun W hW => ?_)
  exact ⟨rfl, (hW.old 0 rfl)⟩
def aun_putwarrene4_l0 (a0 : Int) (u2 : Option Addr) (u3 : Nat) : List Value := [.slice u2 1 u3, .int .i64 a0, .int .i64 1, zz, zz, zz, .slice none 0 0, .slice none 0 0, zz, .slice none 0 0, .slice u2 1 u3, zz, zz, zz, zz, zz]
def aun_putwarrene4_l1 : List Value := [zz, zz, zz, zz, zz, zz, zz, zz, zz, zz, zz, zz, zz, zz, zz, zz]
def aun_putwarrene4_b2 (a0 : Int) (u2 : Option Addr) (u3 : Nat) : List Value := (aun_putwarrene4_l0 a0 u2 u3) ++ (aun_putwarrene4_l1)
def aun_putwarrene4_l3 (a0 : Int) (u2 : Option Addr) (u3 : Nat) (A402 : Option Addr) (c402 : Nat) : List Value := [.slice u2 1 u3, .int .i64 a0, .int .i64 1, zz, zz, zz, .slice none 0 0, .slice A402 1 c402, .int .i64 0, .slice none 0 0, .slice u2 1 u3, .slice A402 1 c402, .int .i64 1, .bool false, .bool false, .int .i64 1]
def aun_putwarrene4_l4 (a0 : Int) (A402 : Option Addr) (c402 : Nat) : List Value := [.bool false, .bool false, zz, .int .i64 1, .int .i64 0, .int .i64 0, .bool true, zz, zz, .slice A402 1 c402, .int .i64 a0, .int .i64 0, zz, zz, zz, zz]
def aun_putwarrene4_b5 (a0 : Int) (u2 : Option Addr) (u3 : Nat) (A402 : Option Addr) (c402 : Nat) : List Value := (aun_putwarrene4_l3 a0 u2 u3 A402 c402) ++ ((aun_putwarrene4_l4 a0 A402 c402))
set_option maxHeartbeats 8000000 in
set_option maxRecDepth 100000 in
theorem aun_putwarrene4 (o0 : Int) (a0 : Int) (u2 : Option Addr) (u3 : Nat) {w : World} (hr0 : Rd w (.slice u2 1 u3) 1 encU8 ([dg o0 0] : List (Int))) (hb0 : ([dg o0 0] : List (Int)).length ≤ 1000) : Calls Try.prog 43 #[.slice u2 1 u3, .int .i64 a0, .int .i64 1] w fun e w' => ∃ x : (Option Addr) × Nat, e = .returned (.slice x.1 2 x.2) ∧ Fresh w w' [rowA 5 1 (.slice x.1 2 x.2) ([dg o0 0, dg a0 0] : List (Int)).length (([dg o0 0, dg a0 0] : List (Int)).flatMap encU8)] := by
  refine enter (args := [.slice u2 1 u3, .int .i64 a0, .int .i64 1]) (fn := Try.f43) rfl (c := bdy Try.f43) (by kernel_rfl) ?_
  have hcap0 := hr0.cap.2
  refine ck 4 [] [] fun γ401 => ⟨⟨kt (bdy Try.f43) [1, 1, 0, 2] [], (aun_putwarrene4_b2 a0 u2 u3), []⟩, [], [], by kernel_rfl, .nil, ?_⟩
  refine nilrow 5 1 ?_
  refine aps (enc := encU8) (l := ([dg o0 0] : List (Int))) 0 1 rfl (fun W hW => (hr0.below (hW.old 1 rfl))) encU8_len encU8_cell (by first | omega | (simp only [List.length_append, List.length_cons, List.length_nil]; omega)) (by simp only [maxLen]; first | omega | (simp only [List.length_append, List.length_cons, List.length_nil]; omega)) ([dg o0 0] : List (Int)).length (([dg o0 0] : List (Int)).flatMap encU8) (by simp) (by simp) fun A402 c402 => ?_
  refine ck 10 [] [] fun γ403 => ⟨⟨kt (bdy Try.f43) [1, 1, 1, 1, 0, 1, 0] [], upv (aun_putwarrene4_b2 a0 u2 u3) [(7, .slice A402 1 c402), (8, .int .i64 0), (11, .slice A402 1 c402), (12, .int .i64 1), (13, .bool false), (14, .bool false), (15, .int .i64 1), (16, .bool false), (17, .bool false), (19, .int .i64 1), (20, .int .i64 0)], []⟩, [], [], by kernel_rfl, .nil, ?_⟩
  refine lu 12 (fun I404 hI404 => ?_)
  refine ck 5 [] [] fun γ405 => ⟨⟨ktl [1, 0, 0, 3] (I404 12) (kt (bdy Try.f43) [1, 1, 1, 1, 0, 1, 0] []), (aun_putwarrene4_b5 a0 u2 u3 A402 c402), []⟩, [], [], by kernel_rfl, .nil, ?_⟩
  refine cp (fun W hW => aun_putwarrene5 a0) ?_
  refine ck 1 [] [] fun γ406 => ⟨⟨ktl [1, 0, 0, 5] (I404 12) (kt (bdy Try.f43) [1, 1, 1, 1, 0, 1, 0] []), upv (aun_putwarrene4_b5 a0 u2 u3 A402 c402) [(28, .int .u8 (dg a0 0)), (29, .slice (some ⟨γ406 0, 0, none⟩) 1 1)], [(γ406 0, 5, [.int .u8 (dg a0 0)])]⟩, [], [], by kernel_rfl, .nil, ?_⟩
  refine ap (m := 1) (c := 1) (g := (γ406 0)) (T := 5) (cs := [.int .u8 (dg a0 0)]) 0 0 1 rfl (by first | omega | (simp only [List.length_append, List.length_cons, List.length_nil]; omega)) (by simp only [maxLen]; first | omega | (simp only [List.length_append, List.length_cons, List.length_nil]; omega)) ([dg o0 0, dg a0 0] : List (Int)).length (([dg o0 0, dg a0 0] : List (Int)).flatMap encU8) (by simp) (by simp [encU8]) fun A407 c407 => ?_
  refine ck 4 [] [] fun γ408 => ⟨⟨ktp (I404 12) (kt (bdy Try.f43) [1, 1, 1, 1, 0, 1, 0] []), upv (aun_putwarrene4_b5 a0 u2 u3 A402 c402) [(7, .slice A407 2 c407), (8, .int .i64 (-1)), (23, .int .i64 0), (24, .int .i64 (-1)), (28, .int .u8 (dg a0 0)), (29, .slice (some ⟨γ406 0, 0, none⟩) 1 1), (30, .slice A407 2 c407)], [(γ406 0, 5, [.int .u8 (dg a0 0)])]⟩, [], [], by kernel_rfl, .nil, ?_⟩
  refine lv hI404 11 ?_
  refine ck 4 [] [] fun γ409 => ⟨⟨kt (bdy Try.f43) [1, 1, 1, 1, 1, 1] [], upv (aun_putwarrene4_b5 a0 u2 u3 A402 c402) [(6, .slice A407 2 c407), (7, .slice A407 2 c407), (8, .int .i64 (-1)), (21, .int .i64 (-1)), (22, .bool false), (23, .int .i64 0), (24, .int .i64 (-1)), (28, .int .u8 (dg a0 0)), (29, .slice (some ⟨γ406 0, 0, none⟩) 1 1), (30, .slice A407 2 c407), (31, .slice A407 2 c407)], [(γ406 0, 5, [.int .u8 (dg a0 0)])]⟩, [], [], by kernel_rfl, .nil, ?_⟩
  refine rt (.slice A407 2 c407) [] [] (fun W hW => ?_)
  exact ⟨⟨A407, c407⟩, rfl, Fresh.of (R := [rowA 5 1 (.slice A407 2 c407) ([dg o0 0, dg a0 0] : List (Int)).length (([dg o0 0, dg a0 0] : List (Int)).flatMap encU8)]) (hW.perm (List.Perm.refl _)) (.cons_cons _ (.cons_cons _ (.slnil)))⟩
def aun_putwarrene6_l0 (o0 : Int) (a0 : Int) (b0 : Int) (c0 : Int) (n0 : Int) (γ601 : Nat → Nat) : List Value := [.agg #[.int .i64 o0, .int .i64 a0, .int .i64 b0, .int .i64 c0, .int .i64 n0], .int .i64 1, .pointer (some ⟨γ601 0, 0, none⟩), zz, .int .i64 b0, .int .i64 1, .bool false, .bool false, zz, zz, .bool true, .bool true, .pointer (some ⟨γ601 0, 2, none⟩), .int .i64 b0, zz, zz]
def aun_putwarrene6_l1 : List Value := [zz, zz, zz, zz]
def aun_putwarrene6_b2 (o0 : Int) (a0 : Int) (b0 : Int) (c0 : Int) (n0 : Int) (γ601 : Nat → Nat) : List Value := (aun_putwarrene6_l0 o0 a0 b0 c0 n0 γ601) ++ (aun_putwarrene6_l1)
set_option maxHeartbeats 8000000 in
set_option maxRecDepth 100000 in
theorem aun_putwarrene6 (o0 : Int) (a0 : Int) (b0 : Int) (c0 : Int) (n0 : Int) {w : World} : Calls Try.prog 44 #[.agg #[.int .i64 o0, .int .i64 a0, .int .i64 b0, .int .i64 c0, .int .i64 n0], .int .i64 1] w fun e w' => e = .returned (.int .i64 b0) ∧ Below w.heap.size w w' := by
  refine enter (args := [.agg #[.int .i64 o0, .int .i64 a0, .int .i64 b0, .int .i64 c0, .int .i64 n0], .int .i64 1]) (fn := Try.f44) rfl (c := bdy Try.f44) (by kernel_rfl) ?_
  refine ck 10 [(1, 0)] [] fun γ601 => ⟨⟨kt (bdy Try.f44) [1, 0, 1, 0, 1, 1, 1, 0, 1] [], (aun_putwarrene6_b2 o0 a0 b0 c0 n0 γ601), [(γ601 0, 41, [.int .i64 o0, .int .i64 a0, .int .i64 b0, .int .i64 c0, .int .i64 n0])]⟩, [(1, γ601 0)], [], by kernel_rfl, .nil, ?_⟩
  refine rt (.int .i64 b0) [] [] (fun W hW => ?_)
  exact ⟨rfl, (hW.old 0 rfl)⟩
def aun_putwarrene8_l0 (b0 : Int) : List Value := [.int .i64 b0, .int .i64 0, zz, zz, .int .u8 (dg b0 0), .int .i64 b0, .int .u64 (sh b0 0), .int .i64 0, .int .i64 0, .int .u64 (sh b0 0), .int .u64 (dg b0 0), .int .u8 (dg b0 0)]
set_option maxHeartbeats 8000000 in
set_option maxRecDepth 100000 in
theorem aun_putwarrene8 (b0 : Int) {w : World} : Calls Try.prog 71 #[.int .i64 b0, .int .i64 0] w fun e w' => e = .returned (.int .u8 (dg b0 0)) ∧ Below w.heap.size w w' := by
  refine enter (args := [.int .i64 b0, .int .i64 0]) (fn := Try.f71) rfl (c := bdy Try.f71) (by kernel_rfl) ?_
  refine ck 9 [] [(2, .int .u64 (sh b0 0)), (5, .int .u64 (sh b0 0)), (6, .int .u64 (dg b0 0)), (7, .int .u8 (dg b0 0))] fun γ801 => ⟨⟨kt (bdy Try.f71) [1, 1] [], (aun_putwarrene8_l0 b0), []⟩, [], [Value.int .u64 (IntKind.wrap .u64 b0) = .int .u64 (sh b0 0), Value.int .u64 (Int.fdiv (sh b0 0) (2 ^ 0)) = .int .u64 (sh b0 0), Value.int .u64 (IntKind.wrap .u64 (((BitVec.ofInt 64 (sh b0 0)) &&& (BitVec.ofInt 64 255)).toNat : Int)) = .int .u64 (dg b0 0), Value.int .u8 (IntKind.wrap .u8 (dg b0 0)) = .int .u8 (dg b0 0)], by kernel_rfl, (.cons (congrArg (Value.int .u64) (conv64 b0)) (.cons (congrArg (Value.int .u64) (sh_add b0 0 0)) (.cons (congrArg (Value.int .u64) (and255 b0 0)) (.cons (congrArg (Value.int .u8) (conv8' b0 0)) .nil)))), ?_⟩
  refine rt (.int .u8 (dg b0 0)) [] [] (fun W hW => ?_)
  exact ⟨rfl, (hW.old 0 rfl)⟩
def aun_putwarrene7_l0 (b0 : Int) (u7 : Option Addr) (u8 : Nat) : List Value := [.slice u7 2 u8, .int .i64 b0, .int .i64 1, zz, zz, zz, .slice none 0 0, .slice none 0 0, zz, .slice none 0 0, .slice u7 2 u8, zz, zz, zz, zz, zz]
def aun_putwarrene7_l1 : List Value := [zz, zz, zz, zz, zz, zz, zz, zz, zz, zz, zz, zz, zz, zz, zz, zz]
def aun_putwarrene7_b2 (b0 : Int) (u7 : Option Addr) (u8 : Nat) : List Value := (aun_putwarrene7_l0 b0 u7 u8) ++ (aun_putwarrene7_l1)
def aun_putwarrene7_l3 (b0 : Int) (u7 : Option Addr) (u8 : Nat) (A702 : Option Addr) (c702 : Nat) : List Value := [.slice u7 2 u8, .int .i64 b0, .int .i64 1, zz, zz, zz, .slice none 0 0, .slice A702 2 c702, .int .i64 0, .slice none 0 0, .slice u7 2 u8, .slice A702 2 c702, .int .i64 1, .bool false, .bool false, .int .i64 1]
def aun_putwarrene7_l4 (b0 : Int) (A702 : Option Addr) (c702 : Nat) : List Value := [.bool false, .bool false, zz, .int .i64 1, .int .i64 0, .int .i64 0, .bool true, zz, zz, .slice A702 2 c702, .int .i64 b0, .int .i64 0, zz, zz, zz, zz]
def aun_putwarrene7_b5 (b0 : Int) (u7 : Option Addr) (u8 : Nat) (A702 : Option Addr) (c702 : Nat) : List Value := (aun_putwarrene7_l3 b0 u7 u8 A702 c702) ++ ((aun_putwarrene7_l4 b0 A702 c702))
set_option maxHeartbeats 8000000 in
set_option maxRecDepth 100000 in
theorem aun_putwarrene7 (o0 : Int) (a0 : Int) (b0 : Int) (u7 : Option Addr) (u8 : Nat) {w : World} (hr0 : Rd w (.slice u7 2 u8) 1 encU8 ([dg o0 0, dg a0 0] : List (Int))) (hb0 : ([dg o0 0, dg a0 0] : List (Int)).length ≤ 1000) : Calls Try.prog 43 #[.slice u7 2 u8, .int .i64 b0, .int .i64 1] w fun e w' => ∃ x : (Option Addr) × Nat, e = .returned (.slice x.1 3 x.2) ∧ Fresh w w' [rowA 5 1 (.slice x.1 3 x.2) ([dg o0 0, dg a0 0, dg b0 0] : List (Int)).length (([dg o0 0, dg a0 0, dg b0 0] : List (Int)).flatMap encU8)] := by
  refine enter (args := [.slice u7 2 u8, .int .i64 b0, .int .i64 1]) (fn := Try.f43) rfl (c := bdy Try.f43) (by kernel_rfl) ?_
  have hcap0 := hr0.cap.2
  refine ck 4 [] [] fun γ701 => ⟨⟨kt (bdy Try.f43) [1, 1, 0, 2] [], (aun_putwarrene7_b2 b0 u7 u8), []⟩, [], [], by kernel_rfl, .nil, ?_⟩
  refine nilrow 5 1 ?_
  refine aps (enc := encU8) (l := ([dg o0 0, dg a0 0] : List (Int))) 0 1 rfl (fun W hW => (hr0.below (hW.old 1 rfl))) encU8_len encU8_cell (by first | omega | (simp only [List.length_append, List.length_cons, List.length_nil]; omega)) (by simp only [maxLen]; first | omega | (simp only [List.length_append, List.length_cons, List.length_nil]; omega)) ([dg o0 0, dg a0 0] : List (Int)).length (([dg o0 0, dg a0 0] : List (Int)).flatMap encU8) (by simp) (by simp) fun A702 c702 => ?_
  refine ck 10 [] [] fun γ703 => ⟨⟨kt (bdy Try.f43) [1, 1, 1, 1, 0, 1, 0] [], upv (aun_putwarrene7_b2 b0 u7 u8) [(7, .slice A702 2 c702), (8, .int .i64 0), (11, .slice A702 2 c702), (12, .int .i64 1), (13, .bool false), (14, .bool false), (15, .int .i64 1), (16, .bool false), (17, .bool false), (19, .int .i64 1), (20, .int .i64 0)], []⟩, [], [], by kernel_rfl, .nil, ?_⟩
  refine lu 12 (fun I704 hI704 => ?_)
  refine ck 5 [] [] fun γ705 => ⟨⟨ktl [1, 0, 0, 3] (I704 12) (kt (bdy Try.f43) [1, 1, 1, 1, 0, 1, 0] []), (aun_putwarrene7_b5 b0 u7 u8 A702 c702), []⟩, [], [], by kernel_rfl, .nil, ?_⟩
  refine cp (fun W hW => aun_putwarrene8 b0) ?_
  refine ck 1 [] [] fun γ706 => ⟨⟨ktl [1, 0, 0, 5] (I704 12) (kt (bdy Try.f43) [1, 1, 1, 1, 0, 1, 0] []), upv (aun_putwarrene7_b5 b0 u7 u8 A702 c702) [(28, .int .u8 (dg b0 0)), (29, .slice (some ⟨γ706 0, 0, none⟩) 1 1)], [(γ706 0, 5, [.int .u8 (dg b0 0)])]⟩, [], [], by kernel_rfl, .nil, ?_⟩
  refine ap (m := 1) (c := 1) (g := (γ706 0)) (T := 5) (cs := [.int .u8 (dg b0 0)]) 0 0 1 rfl (by first | omega | (simp only [List.length_append, List.length_cons, List.length_nil]; omega)) (by simp only [maxLen]; first | omega | (simp only [List.length_append, List.length_cons, List.length_nil]; omega)) ([dg o0 0, dg a0 0, dg b0 0] : List (Int)).length (([dg o0 0, dg a0 0, dg b0 0] : List (Int)).flatMap encU8) (by simp) (by simp [encU8]) fun A707 c707 => ?_
  refine ck 4 [] [] fun γ708 => ⟨⟨ktp (I704 12) (kt (bdy Try.f43) [1, 1, 1, 1, 0, 1, 0] []), upv (aun_putwarrene7_b5 b0 u7 u8 A702 c702) [(7, .slice A707 3 c707), (8, .int .i64 (-1)), (23, .int .i64 0), (24, .int .i64 (-1)), (28, .int .u8 (dg b0 0)), (29, .slice (some ⟨γ706 0, 0, none⟩) 1 1), (30, .slice A707 3 c707)], [(γ706 0, 5, [.int .u8 (dg b0 0)])]⟩, [], [], by kernel_rfl, .nil, ?_⟩
  refine lv hI704 11 ?_
  refine ck 4 [] [] fun γ709 => ⟨⟨kt (bdy Try.f43) [1, 1, 1, 1, 1, 1] [], upv (aun_putwarrene7_b5 b0 u7 u8 A702 c702) [(6, .slice A707 3 c707), (7, .slice A707 3 c707), (8, .int .i64 (-1)), (21, .int .i64 (-1)), (22, .bool false), (23, .int .i64 0), (24, .int .i64 (-1)), (28, .int .u8 (dg b0 0)), (29, .slice (some ⟨γ706 0, 0, none⟩) 1 1), (30, .slice A707 3 c707), (31, .slice A707 3 c707)], [(γ706 0, 5, [.int .u8 (dg b0 0)])]⟩, [], [], by kernel_rfl, .nil, ?_⟩
  refine rt (.slice A707 3 c707) [] [] (fun W hW => ?_)
  exact ⟨⟨A707, c707⟩, rfl, Fresh.of (R := [rowA 5 1 (.slice A707 3 c707) ([dg o0 0, dg a0 0, dg b0 0] : List (Int)).length (([dg o0 0, dg a0 0, dg b0 0] : List (Int)).flatMap encU8)]) (hW.perm (List.Perm.refl _)) (.cons_cons _ (.cons_cons _ (.slnil)))⟩
def aun_putwarrene9_l0 (o0 : Int) (a0 : Int) (b0 : Int) (c0 : Int) (n0 : Int) (γ901 : Nat → Nat) : List Value := [.agg #[.int .i64 o0, .int .i64 a0, .int .i64 b0, .int .i64 c0, .int .i64 n0], .int .i64 2, .pointer (some ⟨γ901 0, 0, none⟩), zz, .int .i64 c0, .int .i64 2, .bool false, .bool false, zz, zz, .bool false, .bool false, zz, zz, .bool true, .bool true]
def aun_putwarrene9_l1 (c0 : Int) (γ901 : Nat → Nat) : List Value := [.pointer (some ⟨γ901 0, 3, none⟩), .int .i64 c0, zz, zz]
def aun_putwarrene9_b2 (o0 : Int) (a0 : Int) (b0 : Int) (c0 : Int) (n0 : Int) (γ901 : Nat → Nat) : List Value := (aun_putwarrene9_l0 o0 a0 b0 c0 n0 γ901) ++ ((aun_putwarrene9_l1 c0 γ901))
set_option maxHeartbeats 8000000 in
set_option maxRecDepth 100000 in
theorem aun_putwarrene9 (o0 : Int) (a0 : Int) (b0 : Int) (c0 : Int) (n0 : Int) {w : World} : Calls Try.prog 44 #[.agg #[.int .i64 o0, .int .i64 a0, .int .i64 b0, .int .i64 c0, .int .i64 n0], .int .i64 2] w fun e w' => e = .returned (.int .i64 c0) ∧ Below w.heap.size w w' := by
  refine enter (args := [.agg #[.int .i64 o0, .int .i64 a0, .int .i64 b0, .int .i64 c0, .int .i64 n0], .int .i64 2]) (fn := Try.f44) rfl (c := bdy Try.f44) (by kernel_rfl) ?_
  refine ck 12 [(1, 0)] [] fun γ901 => ⟨⟨kt (bdy Try.f44) [1, 0, 1, 0, 1, 1, 1, 1, 1, 0, 1] [], (aun_putwarrene9_b2 o0 a0 b0 c0 n0 γ901), [(γ901 0, 41, [.int .i64 o0, .int .i64 a0, .int .i64 b0, .int .i64 c0, .int .i64 n0])]⟩, [(1, γ901 0)], [], by kernel_rfl, .nil, ?_⟩
  refine rt (.int .i64 c0) [] [] (fun W hW => ?_)
  exact ⟨rfl, (hW.old 0 rfl)⟩
def aun_putwarrene11_l0 (c0 : Int) : List Value := [.int .i64 c0, .int .i64 0, zz, zz, .int .u8 (dg c0 0), .int .i64 c0, .int .u64 (sh c0 0), .int .i64 0, .int .i64 0, .int .u64 (sh c0 0), .int .u64 (dg c0 0), .int .u8 (dg c0 0)]
set_option maxHeartbeats 8000000 in
set_option maxRecDepth 100000 in
theorem aun_putwarrene11 (c0 : Int) {w : World} : Calls Try.prog 71 #[.int .i64 c0, .int .i64 0] w fun e w' => e = .returned (.int .u8 (dg c0 0)) ∧ Below w.heap.size w w' := by
  refine enter (args := [.int .i64 c0, .int .i64 0]) (fn := Try.f71) rfl (c := bdy Try.f71) (by kernel_rfl) ?_
  refine ck 9 [] [(2, .int .u64 (sh c0 0)), (5, .int .u64 (sh c0 0)), (6, .int .u64 (dg c0 0)), (7, .int .u8 (dg c0 0))] fun γ1101 => ⟨⟨kt (bdy Try.f71) [1, 1] [], (aun_putwarrene11_l0 c0), []⟩, [], [Value.int .u64 (IntKind.wrap .u64 c0) = .int .u64 (sh c0 0), Value.int .u64 (Int.fdiv (sh c0 0) (2 ^ 0)) = .int .u64 (sh c0 0), Value.int .u64 (IntKind.wrap .u64 (((BitVec.ofInt 64 (sh c0 0)) &&& (BitVec.ofInt 64 255)).toNat : Int)) = .int .u64 (dg c0 0), Value.int .u8 (IntKind.wrap .u8 (dg c0 0)) = .int .u8 (dg c0 0)], by kernel_rfl, (.cons (congrArg (Value.int .u64) (conv64 c0)) (.cons (congrArg (Value.int .u64) (sh_add c0 0 0)) (.cons (congrArg (Value.int .u64) (and255 c0 0)) (.cons (congrArg (Value.int .u8) (conv8' c0 0)) .nil)))), ?_⟩
  refine rt (.int .u8 (dg c0 0)) [] [] (fun W hW => ?_)
  exact ⟨rfl, (hW.old 0 rfl)⟩
def aun_putwarrene10_l0 (c0 : Int) (u11 : Option Addr) (u12 : Nat) : List Value := [.slice u11 3 u12, .int .i64 c0, .int .i64 1, zz, zz, zz, .slice none 0 0, .slice none 0 0, zz, .slice none 0 0, .slice u11 3 u12, zz, zz, zz, zz, zz]
def aun_putwarrene10_l1 : List Value := [zz, zz, zz, zz, zz, zz, zz, zz, zz, zz, zz, zz, zz, zz, zz, zz]
def aun_putwarrene10_b2 (c0 : Int) (u11 : Option Addr) (u12 : Nat) : List Value := (aun_putwarrene10_l0 c0 u11 u12) ++ (aun_putwarrene10_l1)
def aun_putwarrene10_l3 (c0 : Int) (u11 : Option Addr) (u12 : Nat) (A1002 : Option Addr) (c1002 : Nat) : List Value := [.slice u11 3 u12, .int .i64 c0, .int .i64 1, zz, zz, zz, .slice none 0 0, .slice A1002 3 c1002, .int .i64 0, .slice none 0 0, .slice u11 3 u12, .slice A1002 3 c1002, .int .i64 1, .bool false, .bool false, .int .i64 1]
def aun_putwarrene10_l4 (c0 : Int) (A1002 : Option Addr) (c1002 : Nat) : List Value := [.bool false, .bool false, zz, .int .i64 1, .int .i64 0, .int .i64 0, .bool true, zz, zz, .slice A1002 3 c1002, .int .i64 c0, .int .i64 0, zz, zz, zz, zz]
def aun_putwarrene10_b5 (c0 : Int) (u11 : Option Addr) (u12 : Nat) (A1002 : Option Addr) (c1002 : Nat) : List Value := (aun_putwarrene10_l3 c0 u11 u12 A1002 c1002) ++ ((aun_putwarrene10_l4 c0 A1002 c1002))
set_option maxHeartbeats 8000000 in
set_option maxRecDepth 100000 in
theorem aun_putwarrene10 (o0 : Int) (a0 : Int) (b0 : Int) (c0 : Int) (u11 : Option Addr) (u12 : Nat) {w : World} (hr0 : Rd w (.slice u11 3 u12) 1 encU8 ([dg o0 0, dg a0 0, dg b0 0] : List (Int))) (hb0 : ([dg o0 0, dg a0 0, dg b0 0] : List (Int)).length ≤ 1000) : Calls Try.prog 43 #[.slice u11 3 u12, .int .i64 c0, .int .i64 1] w fun e w' => ∃ x : (Option Addr) × Nat, e = .returned (.slice x.1 4 x.2) ∧ Fresh w w' [rowA 5 1 (.slice x.1 4 x.2) ([dg o0 0, dg a0 0, dg b0 0, dg c0 0] : List (Int)).length (([dg o0 0, dg a0 0, dg b0 0, dg c0 0] : List (Int)).flatMap encU8)] := by
  refine enter (args := [.slice u11 3 u12, .int .i64 c0, .int .i64 1]) (fn := Try.f43) rfl (c := bdy Try.f43) (by kernel_rfl) ?_
  have hcap0 := hr0.cap.2
  refine ck 4 [] [] fun γ1001 => ⟨⟨kt (bdy Try.f43) [1, 1, 0, 2] [], (aun_putwarrene10_b2 c0 u11 u12), []⟩, [], [], by kernel_rfl, .nil, ?_⟩
  refine nilrow 5 1 ?_
  refine aps (enc := encU8) (l := ([dg o0 0, dg a0 0, dg b0 0] : List (Int))) 0 1 rfl (fun W hW => (hr0.below (hW.old 1 rfl))) encU8_len encU8_cell (by first | omega | (simp only [List.length_append, List.length_cons, List.length_nil]; omega)) (by simp only [maxLen]; first | omega | (simp only [List.length_append, List.length_cons, List.length_nil]; omega)) ([dg o0 0, dg a0 0, dg b0 0] : List (Int)).length (([dg o0 0, dg a0 0, dg b0 0] : List (Int)).flatMap encU8) (by simp) (by simp) fun A1002 c1002 => ?_
  refine ck 10 [] [] fun γ1003 => ⟨⟨kt (bdy Try.f43) [1, 1, 1, 1, 0, 1, 0] [], upv (aun_putwarrene10_b2 c0 u11 u12) [(7, .slice A1002 3 c1002), (8, .int .i64 0), (11, .slice A1002 3 c1002), (12, .int .i64 1), (13, .bool false), (14, .bool false), (15, .int .i64 1), (16, .bool false), (17, .bool false), (19, .int .i64 1), (20, .int .i64 0)], []⟩, [], [], by kernel_rfl, .nil, ?_⟩
  refine lu 12 (fun I1004 hI1004 => ?_)
  refine ck 5 [] [] fun γ1005 => ⟨⟨ktl [1, 0, 0, 3] (I1004 12) (kt (bdy Try.f43) [1, 1, 1, 1, 0, 1, 0] []), (aun_putwarrene10_b5 c0 u11 u12 A1002 c1002), []⟩, [], [], by kernel_rfl, .nil, ?_⟩
  refine cp (fun W hW => aun_putwarrene11 c0) ?_
  refine ck 1 [] [] fun γ1006 => ⟨⟨ktl [1, 0, 0, 5] (I1004 12) (kt (bdy Try.f43) [1, 1, 1, 1, 0, 1, 0] []), upv (aun_putwarrene10_b5 c0 u11 u12 A1002 c1002) [(28, .int .u8 (dg c0 0)), (29, .slice (some ⟨γ1006 0, 0, none⟩) 1 1)], [(γ1006 0, 5, [.int .u8 (dg c0 0)])]⟩, [], [], by kernel_rfl, .nil, ?_⟩
  refine ap (m := 1) (c := 1) (g := (γ1006 0)) (T := 5) (cs := [.int .u8 (dg c0 0)]) 0 0 1 rfl (by first | omega | (simp only [List.length_append, List.length_cons, List.length_nil]; omega)) (by simp only [maxLen]; first | omega | (simp only [List.length_append, List.length_cons, List.length_nil]; omega)) ([dg o0 0, dg a0 0, dg b0 0, dg c0 0] : List (Int)).length (([dg o0 0, dg a0 0, dg b0 0, dg c0 0] : List (Int)).flatMap encU8) (by simp) (by simp [encU8]) fun A1007 c1007 => ?_
  refine ck 4 [] [] fun γ1008 => ⟨⟨ktp (I1004 12) (kt (bdy Try.f43) [1, 1, 1, 1, 0, 1, 0] []), upv (aun_putwarrene10_b5 c0 u11 u12 A1002 c1002) [(7, .slice A1007 4 c1007), (8, .int .i64 (-1)), (23, .int .i64 0), (24, .int .i64 (-1)), (28, .int .u8 (dg c0 0)), (29, .slice (some ⟨γ1006 0, 0, none⟩) 1 1), (30, .slice A1007 4 c1007)], [(γ1006 0, 5, [.int .u8 (dg c0 0)])]⟩, [], [], by kernel_rfl, .nil, ?_⟩
  refine lv hI1004 11 ?_
  refine ck 4 [] [] fun γ1009 => ⟨⟨kt (bdy Try.f43) [1, 1, 1, 1, 1, 1] [], upv (aun_putwarrene10_b5 c0 u11 u12 A1002 c1002) [(6, .slice A1007 4 c1007), (7, .slice A1007 4 c1007), (8, .int .i64 (-1)), (21, .int .i64 (-1)), (22, .bool false), (23, .int .i64 0), (24, .int .i64 (-1)), (28, .int .u8 (dg c0 0)), (29, .slice (some ⟨γ1006 0, 0, none⟩) 1 1), (30, .slice A1007 4 c1007), (31, .slice A1007 4 c1007)], [(γ1006 0, 5, [.int .u8 (dg c0 0)])]⟩, [], [], by kernel_rfl, .nil, ?_⟩
  refine rt (.slice A1007 4 c1007) [] [] (fun W hW => ?_)
  exact ⟨⟨A1007, c1007⟩, rfl, Fresh.of (R := [rowA 5 1 (.slice A1007 4 c1007) ([dg o0 0, dg a0 0, dg b0 0, dg c0 0] : List (Int)).length (([dg o0 0, dg a0 0, dg b0 0, dg c0 0] : List (Int)).flatMap encU8)]) (hW.perm (List.Perm.refl _)) (.cons_cons _ (.cons_cons _ (.slnil)))⟩
def aun_putwarrene13_l0 (n0 : Int) : List Value := [.int .i64 n0, .int .i64 7, zz, zz, .int .u8 (dg n0 7), .int .i64 n0, .int .u64 (sh n0 0), .int .i64 7, .int .i64 56, .int .u64 (sh n0 7), .int .u64 (dg n0 7), .int .u8 (dg n0 7)]
set_option maxHeartbeats 8000000 in
set_option maxRecDepth 100000 in
theorem aun_putwarrene13 (n0 : Int) {w : World} : Calls Try.prog 71 #[.int .i64 n0, .int .i64 7] w fun e w' => e = .returned (.int .u8 (dg n0 7)) ∧ Below w.heap.size w w' := by
  refine enter (args := [.int .i64 n0, .int .i64 7]) (fn := Try.f71) rfl (c := bdy Try.f71) (by kernel_rfl) ?_
  refine ck 9 [] [(2, .int .u64 (sh n0 0)), (5, .int .u64 (sh n0 7)), (6, .int .u64 (dg n0 7)), (7, .int .u8 (dg n0 7))] fun γ1301 => ⟨⟨kt (bdy Try.f71) [1, 1] [], (aun_putwarrene13_l0 n0), []⟩, [], [Value.int .u64 (IntKind.wrap .u64 n0) = .int .u64 (sh n0 0), Value.int .u64 (Int.fdiv (sh n0 0) (2 ^ 56)) = .int .u64 (sh n0 7), Value.int .u64 (IntKind.wrap .u64 (((BitVec.ofInt 64 (sh n0 7)) &&& (BitVec.ofInt 64 255)).toNat : Int)) = .int .u64 (dg n0 7), Value.int .u8 (IntKind.wrap .u8 (dg n0 7)) = .int .u8 (dg n0 7)], by kernel_rfl, (.cons (congrArg (Value.int .u64) (conv64 n0)) (.cons (congrArg (Value.int .u64) (sh_add n0 0 7)) (.cons (congrArg (Value.int .u64) (and255 n0 7)) (.cons (congrArg (Value.int .u8) (conv8' n0 7)) .nil)))), ?_⟩
  refine rt (.int .u8 (dg n0 7)) [] [] (fun W hW => ?_)
  exact ⟨rfl, (hW.old 0 rfl)⟩
def aun_putwarrene14_l0 (n0 : Int) : List Value := [.int .i64 n0, .int .i64 6, zz, zz, .int .u8 (dg n0 6), .int .i64 n0, .int .u64 (sh n0 0), .int .i64 6, .int .i64 48, .int .u64 (sh n0 6), .int .u64 (dg n0 6), .int .u8 (dg n0 6)]
set_option maxHeartbeats 8000000 in
set_option maxRecDepth 100000 in
theorem aun_putwarrene14 (n0 : Int) {w : World} : Calls Try.prog 71 #[.int .i64 n0, .int .i64 6] w fun e w' => e = .returned (.int .u8 (dg n0 6)) ∧ Below w.heap.size w w' := by
  refine enter (args := [.int .i64 n0, .int .i64 6]) (fn := Try.f71) rfl (c := bdy Try.f71) (by kernel_rfl) ?_
  refine ck 9 [] [(2, .int .u64 (sh n0 0)), (5, .int .u64 (sh n0 6)), (6, .int .u64 (dg n0 6)), (7, .int .u8 (dg n0 6))] fun γ1401 => ⟨⟨kt (bdy Try.f71) [1, 1] [], (aun_putwarrene14_l0 n0), []⟩, [], [Value.int .u64 (IntKind.wrap .u64 n0) = .int .u64 (sh n0 0), Value.int .u64 (Int.fdiv (sh n0 0) (2 ^ 48)) = .int .u64 (sh n0 6), Value.int .u64 (IntKind.wrap .u64 (((BitVec.ofInt 64 (sh n0 6)) &&& (BitVec.ofInt 64 255)).toNat : Int)) = .int .u64 (dg n0 6), Value.int .u8 (IntKind.wrap .u8 (dg n0 6)) = .int .u8 (dg n0 6)], by kernel_rfl, (.cons (congrArg (Value.int .u64) (conv64 n0)) (.cons (congrArg (Value.int .u64) (sh_add n0 0 6)) (.cons (congrArg (Value.int .u64) (and255 n0 6)) (.cons (congrArg (Value.int .u8) (conv8' n0 6)) .nil)))), ?_⟩
  refine rt (.int .u8 (dg n0 6)) [] [] (fun W hW => ?_)
  exact ⟨rfl, (hW.old 0 rfl)⟩
def aun_putwarrene15_l0 (n0 : Int) : List Value := [.int .i64 n0, .int .i64 5, zz, zz, .int .u8 (dg n0 5), .int .i64 n0, .int .u64 (sh n0 0), .int .i64 5, .int .i64 40, .int .u64 (sh n0 5), .int .u64 (dg n0 5), .int .u8 (dg n0 5)]
set_option maxHeartbeats 8000000 in
set_option maxRecDepth 100000 in
theorem aun_putwarrene15 (n0 : Int) {w : World} : Calls Try.prog 71 #[.int .i64 n0, .int .i64 5] w fun e w' => e = .returned (.int .u8 (dg n0 5)) ∧ Below w.heap.size w w' := by
  refine enter (args := [.int .i64 n0, .int .i64 5]) (fn := Try.f71) rfl (c := bdy Try.f71) (by kernel_rfl) ?_
  refine ck 9 [] [(2, .int .u64 (sh n0 0)), (5, .int .u64 (sh n0 5)), (6, .int .u64 (dg n0 5)), (7, .int .u8 (dg n0 5))] fun γ1501 => ⟨⟨kt (bdy Try.f71) [1, 1] [], (aun_putwarrene15_l0 n0), []⟩, [], [Value.int .u64 (IntKind.wrap .u64 n0) = .int .u64 (sh n0 0), Value.int .u64 (Int.fdiv (sh n0 0) (2 ^ 40)) = .int .u64 (sh n0 5), Value.int .u64 (IntKind.wrap .u64 (((BitVec.ofInt 64 (sh n0 5)) &&& (BitVec.ofInt 64 255)).toNat : Int)) = .int .u64 (dg n0 5), Value.int .u8 (IntKind.wrap .u8 (dg n0 5)) = .int .u8 (dg n0 5)], by kernel_rfl, (.cons (congrArg (Value.int .u64) (conv64 n0)) (.cons (congrArg (Value.int .u64) (sh_add n0 0 5)) (.cons (congrArg (Value.int .u64) (and255 n0 5)) (.cons (congrArg (Value.int .u8) (conv8' n0 5)) .nil)))), ?_⟩
  refine rt (.int .u8 (dg n0 5)) [] [] (fun W hW => ?_)
  exact ⟨rfl, (hW.old 0 rfl)⟩
def aun_putwarrene16_l0 (n0 : Int) : List Value := [.int .i64 n0, .int .i64 4, zz, zz, .int .u8 (dg n0 4), .int .i64 n0, .int .u64 (sh n0 0), .int .i64 4, .int .i64 32, .int .u64 (sh n0 4), .int .u64 (dg n0 4), .int .u8 (dg n0 4)]
set_option maxHeartbeats 8000000 in
set_option maxRecDepth 100000 in
theorem aun_putwarrene16 (n0 : Int) {w : World} : Calls Try.prog 71 #[.int .i64 n0, .int .i64 4] w fun e w' => e = .returned (.int .u8 (dg n0 4)) ∧ Below w.heap.size w w' := by
  refine enter (args := [.int .i64 n0, .int .i64 4]) (fn := Try.f71) rfl (c := bdy Try.f71) (by kernel_rfl) ?_
  refine ck 9 [] [(2, .int .u64 (sh n0 0)), (5, .int .u64 (sh n0 4)), (6, .int .u64 (dg n0 4)), (7, .int .u8 (dg n0 4))] fun γ1601 => ⟨⟨kt (bdy Try.f71) [1, 1] [], (aun_putwarrene16_l0 n0), []⟩, [], [Value.int .u64 (IntKind.wrap .u64 n0) = .int .u64 (sh n0 0), Value.int .u64 (Int.fdiv (sh n0 0) (2 ^ 32)) = .int .u64 (sh n0 4), Value.int .u64 (IntKind.wrap .u64 (((BitVec.ofInt 64 (sh n0 4)) &&& (BitVec.ofInt 64 255)).toNat : Int)) = .int .u64 (dg n0 4), Value.int .u8 (IntKind.wrap .u8 (dg n0 4)) = .int .u8 (dg n0 4)], by kernel_rfl, (.cons (congrArg (Value.int .u64) (conv64 n0)) (.cons (congrArg (Value.int .u64) (sh_add n0 0 4)) (.cons (congrArg (Value.int .u64) (and255 n0 4)) (.cons (congrArg (Value.int .u8) (conv8' n0 4)) .nil)))), ?_⟩
  refine rt (.int .u8 (dg n0 4)) [] [] (fun W hW => ?_)
  exact ⟨rfl, (hW.old 0 rfl)⟩
def aun_putwarrene17_l0 (n0 : Int) : List Value := [.int .i64 n0, .int .i64 3, zz, zz, .int .u8 (dg n0 3), .int .i64 n0, .int .u64 (sh n0 0), .int .i64 3, .int .i64 24, .int .u64 (sh n0 3), .int .u64 (dg n0 3), .int .u8 (dg n0 3)]
set_option maxHeartbeats 8000000 in
set_option maxRecDepth 100000 in
theorem aun_putwarrene17 (n0 : Int) {w : World} : Calls Try.prog 71 #[.int .i64 n0, .int .i64 3] w fun e w' => e = .returned (.int .u8 (dg n0 3)) ∧ Below w.heap.size w w' := by
  refine enter (args := [.int .i64 n0, .int .i64 3]) (fn := Try.f71) rfl (c := bdy Try.f71) (by kernel_rfl) ?_
  refine ck 9 [] [(2, .int .u64 (sh n0 0)), (5, .int .u64 (sh n0 3)), (6, .int .u64 (dg n0 3)), (7, .int .u8 (dg n0 3))] fun γ1701 => ⟨⟨kt (bdy Try.f71) [1, 1] [], (aun_putwarrene17_l0 n0), []⟩, [], [Value.int .u64 (IntKind.wrap .u64 n0) = .int .u64 (sh n0 0), Value.int .u64 (Int.fdiv (sh n0 0) (2 ^ 24)) = .int .u64 (sh n0 3), Value.int .u64 (IntKind.wrap .u64 (((BitVec.ofInt 64 (sh n0 3)) &&& (BitVec.ofInt 64 255)).toNat : Int)) = .int .u64 (dg n0 3), Value.int .u8 (IntKind.wrap .u8 (dg n0 3)) = .int .u8 (dg n0 3)], by kernel_rfl, (.cons (congrArg (Value.int .u64) (conv64 n0)) (.cons (congrArg (Value.int .u64) (sh_add n0 0 3)) (.cons (congrArg (Value.int .u64) (and255 n0 3)) (.cons (congrArg (Value.int .u8) (conv8' n0 3)) .nil)))), ?_⟩
  refine rt (.int .u8 (dg n0 3)) [] [] (fun W hW => ?_)
  exact ⟨rfl, (hW.old 0 rfl)⟩
def aun_putwarrene18_l0 (n0 : Int) : List Value := [.int .i64 n0, .int .i64 2, zz, zz, .int .u8 (dg n0 2), .int .i64 n0, .int .u64 (sh n0 0), .int .i64 2, .int .i64 16, .int .u64 (sh n0 2), .int .u64 (dg n0 2), .int .u8 (dg n0 2)]
set_option maxHeartbeats 8000000 in
set_option maxRecDepth 100000 in
theorem aun_putwarrene18 (n0 : Int) {w : World} : Calls Try.prog 71 #[.int .i64 n0, .int .i64 2] w fun e w' => e = .returned (.int .u8 (dg n0 2)) ∧ Below w.heap.size w w' := by
  refine enter (args := [.int .i64 n0, .int .i64 2]) (fn := Try.f71) rfl (c := bdy Try.f71) (by kernel_rfl) ?_
  refine ck 9 [] [(2, .int .u64 (sh n0 0)), (5, .int .u64 (sh n0 2)), (6, .int .u64 (dg n0 2)), (7, .int .u8 (dg n0 2))] fun γ1801 => ⟨⟨kt (bdy Try.f71) [1, 1] [], (aun_putwarrene18_l0 n0), []⟩, [], [Value.int .u64 (IntKind.wrap .u64 n0) = .int .u64 (sh n0 0), Value.int .u64 (Int.fdiv (sh n0 0) (2 ^ 16)) = .int .u64 (sh n0 2), Value.int .u64 (IntKind.wrap .u64 (((BitVec.ofInt 64 (sh n0 2)) &&& (BitVec.ofInt 64 255)).toNat : Int)) = .int .u64 (dg n0 2), Value.int .u8 (IntKind.wrap .u8 (dg n0 2)) = .int .u8 (dg n0 2)], by kernel_rfl, (.cons (congrArg (Value.int .u64) (conv64 n0)) (.cons (congrArg (Value.int .u64) (sh_add n0 0 2)) (.cons (congrArg (Value.int .u64) (and255 n0 2)) (.cons (congrArg (Value.int .u8) (conv8' n0 2)) .nil)))), ?_⟩
  refine rt (.int .u8 (dg n0 2)) [] [] (fun W hW => ?_)
  exact ⟨rfl, (hW.old 0 rfl)⟩
def aun_putwarrene19_l0 (n0 : Int) : List Value := [.int .i64 n0, .int .i64 1, zz, zz, .int .u8 (dg n0 1), .int .i64 n0, .int .u64 (sh n0 0), .int .i64 1, .int .i64 8, .int .u64 (sh n0 1), .int .u64 (dg n0 1), .int .u8 (dg n0 1)]
set_option maxHeartbeats 8000000 in
set_option maxRecDepth 100000 in
theorem aun_putwarrene19 (n0 : Int) {w : World} : Calls Try.prog 71 #[.int .i64 n0, .int .i64 1] w fun e w' => e = .returned (.int .u8 (dg n0 1)) ∧ Below w.heap.size w w' := by
  refine enter (args := [.int .i64 n0, .int .i64 1]) (fn := Try.f71) rfl (c := bdy Try.f71) (by kernel_rfl) ?_
  refine ck 9 [] [(2, .int .u64 (sh n0 0)), (5, .int .u64 (sh n0 1)), (6, .int .u64 (dg n0 1)), (7, .int .u8 (dg n0 1))] fun γ1901 => ⟨⟨kt (bdy Try.f71) [1, 1] [], (aun_putwarrene19_l0 n0), []⟩, [], [Value.int .u64 (IntKind.wrap .u64 n0) = .int .u64 (sh n0 0), Value.int .u64 (Int.fdiv (sh n0 0) (2 ^ 8)) = .int .u64 (sh n0 1), Value.int .u64 (IntKind.wrap .u64 (((BitVec.ofInt 64 (sh n0 1)) &&& (BitVec.ofInt 64 255)).toNat : Int)) = .int .u64 (dg n0 1), Value.int .u8 (IntKind.wrap .u8 (dg n0 1)) = .int .u8 (dg n0 1)], by kernel_rfl, (.cons (congrArg (Value.int .u64) (conv64 n0)) (.cons (congrArg (Value.int .u64) (sh_add n0 0 1)) (.cons (congrArg (Value.int .u64) (and255 n0 1)) (.cons (congrArg (Value.int .u8) (conv8' n0 1)) .nil)))), ?_⟩
  refine rt (.int .u8 (dg n0 1)) [] [] (fun W hW => ?_)
  exact ⟨rfl, (hW.old 0 rfl)⟩
def aun_putwarrene20_l0 (n0 : Int) : List Value := [.int .i64 n0, .int .i64 0, zz, zz, .int .u8 (dg n0 0), .int .i64 n0, .int .u64 (sh n0 0), .int .i64 0, .int .i64 0, .int .u64 (sh n0 0), .int .u64 (dg n0 0), .int .u8 (dg n0 0)]
set_option maxHeartbeats 8000000 in
set_option maxRecDepth 100000 in
theorem aun_putwarrene20 (n0 : Int) {w : World} : Calls Try.prog 71 #[.int .i64 n0, .int .i64 0] w fun e w' => e = .returned (.int .u8 (dg n0 0)) ∧ Below w.heap.size w w' := by
  refine enter (args := [.int .i64 n0, .int .i64 0]) (fn := Try.f71) rfl (c := bdy Try.f71) (by kernel_rfl) ?_
  refine ck 9 [] [(2, .int .u64 (sh n0 0)), (5, .int .u64 (sh n0 0)), (6, .int .u64 (dg n0 0)), (7, .int .u8 (dg n0 0))] fun γ2001 => ⟨⟨kt (bdy Try.f71) [1, 1] [], (aun_putwarrene20_l0 n0), []⟩, [], [Value.int .u64 (IntKind.wrap .u64 n0) = .int .u64 (sh n0 0), Value.int .u64 (Int.fdiv (sh n0 0) (2 ^ 0)) = .int .u64 (sh n0 0), Value.int .u64 (IntKind.wrap .u64 (((BitVec.ofInt 64 (sh n0 0)) &&& (BitVec.ofInt 64 255)).toNat : Int)) = .int .u64 (dg n0 0), Value.int .u8 (IntKind.wrap .u8 (dg n0 0)) = .int .u8 (dg n0 0)], by kernel_rfl, (.cons (congrArg (Value.int .u64) (conv64 n0)) (.cons (congrArg (Value.int .u64) (sh_add n0 0 0)) (.cons (congrArg (Value.int .u64) (and255 n0 0)) (.cons (congrArg (Value.int .u8) (conv8' n0 0)) .nil)))), ?_⟩
  refine rt (.int .u8 (dg n0 0)) [] [] (fun W hW => ?_)
  exact ⟨rfl, (hW.old 0 rfl)⟩
def aun_putwarrene12_l0 (n0 : Int) (u15 : Option Addr) (u16 : Nat) : List Value := [.slice u15 4 u16, .int .i64 n0, .int .i64 8, zz, zz, zz, .slice none 0 0, .slice none 0 0, zz, .slice none 0 0, .slice u15 4 u16, zz, zz, zz, zz, zz]
def aun_putwarrene12_l1 : List Value := [zz, zz, zz, zz, zz, zz, zz, zz, zz, zz, zz, zz, zz, zz, zz, zz]
def aun_putwarrene12_b2 (n0 : Int) (u15 : Option Addr) (u16 : Nat) : List Value := (aun_putwarrene12_l0 n0 u15 u16) ++ (aun_putwarrene12_l1)
def aun_putwarrene12_l3 (n0 : Int) (u15 : Option Addr) (u16 : Nat) (A1202 : Option Addr) (c1202 : Nat) : List Value := [.slice u15 4 u16, .int .i64 n0, .int .i64 8, zz, zz, zz, .slice none 0 0, .slice A1202 4 c1202, .int .i64 7, .slice none 0 0, .slice u15 4 u16, .slice A1202 4 c1202, .int .i64 8, .bool false, .bool false, .int .i64 8]
def aun_putwarrene12_l4 (n0 : Int) (A1202 : Option Addr) (c1202 : Nat) : List Value := [.bool false, .bool false, zz, .int .i64 8, .int .i64 7, .int .i64 7, .bool true, zz, zz, .slice A1202 4 c1202, .int .i64 n0, .int .i64 7, zz, zz, zz, zz]
def aun_putwarrene12_b5 (n0 : Int) (u15 : Option Addr) (u16 : Nat) (A1202 : Option Addr) (c1202 : Nat) : List Value := (aun_putwarrene12_l3 n0 u15 u16 A1202 c1202) ++ ((aun_putwarrene12_l4 n0 A1202 c1202))
def aun_putwarrene12_l6 (n0 : Int) (u15 : Option Addr) (u16 : Nat) (A1202 : Option Addr) (c1202 : Nat) (A1235 : Option Addr) (c1235 : Nat) : List Value := [.slice u15 4 u16, .int .i64 n0, .int .i64 8, zz, zz, zz, .slice A1235 12 c1235, .slice A1235 12 c1235, .int .i64 (-1), .slice none 0 0, .slice u15 4 u16, .slice A1202 4 c1202, .int .i64 8, .bool false, .bool false, .int .i64 8]
def aun_putwarrene12_l7 (n0 : Int) (A1231 : Option Addr) (c1231 : Nat) (γ1234 : Nat → Nat) (A1235 : Option Addr) (c1235 : Nat) : List Value := [.bool false, .bool false, zz, .int .i64 8, .int .i64 7, .int .i64 (-1), .bool false, .int .i64 0, .int .i64 (-1), .slice A1231 11 c1231, .int .i64 n0, .int .i64 0, .int .u8 (dg n0 0), .slice (some ⟨γ1234 0, 0, none⟩) 1 1, .slice A1235 12 c1235, .slice A1235 12 c1235]
def aun_putwarrene12_b8 (n0 : Int) (u15 : Option Addr) (u16 : Nat) (A1202 : Option Addr) (c1202 : Nat) (A1231 : Option Addr) (c1231 : Nat) (γ1234 : Nat → Nat) (A1235 : Option Addr) (c1235 : Nat) : List Value := (aun_putwarrene12_l6 n0 u15 u16 A1202 c1202 A1235 c1235) ++ ((aun_putwarrene12_l7 n0 A1231 c1231 γ1234 A1235 c1235))
set_option maxHeartbeats 8000000 in
set_option maxRecDepth 100000 in
theorem aun_putwarrene12 (o0 : Int) (a0 : Int) (b0 : Int) (c0 : Int) (n0 : Int) (u15 : Option Addr) (u16 : Nat) {w : World} (hr0 : Rd w (.slice u15 4 u16) 1 encU8 ([dg o0 0, dg a0 0, dg b0 0, dg c0 0] : List (Int))) (hb0 : ([dg o0 0, dg a0 0, dg b0 0, dg c0 0] : List (Int)).length ≤ 1000) : Calls Try.prog 43 #[.slice u15 4 u16, .int .i64 n0, .int .i64 8] w fun e w' => ∃ x : (Option Addr) × Nat, e = .returned (.slice x.1 12 x.2) ∧ Fresh w w' [rowA 5 1 (.slice x.1 12 x.2) ([dg o0 0, dg a0 0, dg b0 0, dg c0 0, dg n0 7, dg n0 6, dg n0 5, dg n0 4, dg n0 3, dg n0 2, dg n0 1, dg n0 0] : List (Int)).length (([dg o0 0, dg a0 0, dg b0 0, dg c0 0, dg n0 7, dg n0 6, dg n0 5, dg n0 4, dg n0 3, dg n0 2, dg n0 1, dg n0 0] : List (Int)).flatMap encU8)] := by
  refine enter (args := [.slice u15 4 u16, .int .i64 n0, .int .i64 8]) (fn := Try.f43) rfl (c := bdy Try.f43) (by kernel_rfl) ?_
  have hcap0 := hr0.cap.2
  refine ck 4 [] [] fun γ1201 => ⟨⟨kt (bdy Try.f43) [1, 1, 0, 2] [], (aun_putwarrene12_b2 n0 u15 u16), []⟩, [], [], by kernel_rfl, .nil, ?_⟩
  refine nilrow 5 1 ?_
  refine aps (enc := encU8) (l := ([dg o0 0, dg a0 0, dg b0 0, dg c0 0] : List (Int))) 0 1 rfl (fun W hW => (hr0.below (hW.old 1 rfl))) encU8_len encU8_cell (by first | omega | (simp only [List.length_append, List.length_cons, List.length_nil]; omega)) (by simp only [maxLen]; first | omega | (simp only [List.length_append, List.length_cons, List.length_nil]; omega)) ([dg o0 0, dg a0 0, dg b0 0, dg c0 0] : List (Int)).length (([dg o0 0, dg a0 0, dg b0 0, dg c0 0] : List (Int)).flatMap encU8) (by simp) (by simp) fun A1202 c1202 => ?_
  refine ck 10 [] [] fun γ1203 => ⟨⟨kt (bdy Try.f43) [1, 1, 1, 1, 0, 1, 0] [], upv (aun_putwarrene12_b2 n0 u15 u16) [(7, .slice A1202 4 c1202), (8, .int .i64 7), (11, .slice A1202 4 c1202), (12, .int .i64 8), (13, .bool false), (14, .bool false), (15, .int .i64 8), (16, .bool false), (17, .bool false), (19, .int .i64 8), (20, .int .i64 7)], []⟩, [], [], by kernel_rfl, .nil, ?_⟩
  refine lu 12 (fun I1204 hI1204 => ?_)
  refine ck 5 [] [] fun γ1205 => ⟨⟨ktl [1, 0, 0, 3] (I1204 12) (kt (bdy Try.f43) [1, 1, 1, 1, 0, 1, 0] []), (aun_putwarrene12_b5 n0 u15 u16 A1202 c1202), []⟩, [], [], by kernel_rfl, .nil, ?_⟩
  refine cp (fun W hW => aun_putwarrene13 n0) ?_
  refine ck 1 [] [] fun γ1206 => ⟨⟨ktl [1, 0, 0, 5] (I1204 12) (kt (bdy Try.f43) [1, 1, 1, 1, 0, 1, 0] []), upv (aun_putwarrene12_b5 n0 u15 u16 A1202 c1202) [(28, .int .u8 (dg n0 7)), (29, .slice (some ⟨γ1206 0, 0, none⟩) 1 1)], [(γ1206 0, 5, [.int .u8 (dg n0 7)])]⟩, [], [], by kernel_rfl, .nil, ?_⟩
  refine ap (m := 1) (c := 1) (g := (γ1206 0)) (T := 5) (cs := [.int .u8 (dg n0 7)]) 0 0 1 rfl (by first | omega | (simp only [List.length_append, List.length_cons, List.length_nil]; omega)) (by simp only [maxLen]; first | omega | (simp only [List.length_append, List.length_cons, List.length_nil]; omega)) ([dg o0 0, dg a0 0, dg b0 0, dg c0 0, dg n0 7] : List (Int)).length (([dg o0 0, dg a0 0, dg b0 0, dg c0 0, dg n0 7] : List (Int)).flatMap encU8) (by simp) (by simp [encU8]) fun A1207 c1207 => ?_
  refine ck 4 [] [] fun γ1208 => ⟨⟨ktp (I1204 12) (kt (bdy Try.f43) [1, 1, 1, 1, 0, 1, 0] []), upv (aun_putwarrene12_b5 n0 u15 u16 A1202 c1202) [(7, .slice A1207 5 c1207), (8, .int .i64 6), (23, .int .i64 7), (24, .int .i64 6), (28, .int .u8 (dg n0 7)), (29, .slice (some ⟨γ1206 0, 0, none⟩) 1 1), (30, .slice A1207 5 c1207)], [(γ1206 0, 5, [.int .u8 (dg n0 7)])]⟩, [], [], by kernel_rfl, .nil, ?_⟩
  refine lv hI1204 11 ?_
  refine ck 5 [] [] fun γ1209 => ⟨⟨ktl [1, 0, 0, 3] (I1204 11) (kt (bdy Try.f43) [1, 1, 1, 1, 0, 1, 0] []), upv (aun_putwarrene12_b5 n0 u15 u16 A1202 c1202) [(7, .slice A1207 5 c1207), (8, .int .i64 6), (21, .int .i64 6), (23, .int .i64 7), (24, .int .i64 6), (25, .slice A1207 5 c1207), (27, .int .i64 6), (28, .int .u8 (dg n0 7)), (29, .slice (some ⟨γ1206 0, 0, none⟩) 1 1), (30, .slice A1207 5 c1207)], [(γ1206 0, 5, [.int .u8 (dg n0 7)])]⟩, [], [], by kernel_rfl, .nil, ?_⟩
  refine cp (fun W hW => aun_putwarrene14 n0) ?_
  refine ck 1 [] [] fun γ1210 => ⟨⟨ktl [1, 0, 0, 5] (I1204 11) (kt (bdy Try.f43) [1, 1, 1, 1, 0, 1, 0] []), upv (aun_putwarrene12_b5 n0 u15 u16 A1202 c1202) [(7, .slice A1207 5 c1207), (8, .int .i64 6), (21, .int .i64 6), (23, .int .i64 7), (24, .int .i64 6), (25, .slice A1207 5 c1207), (27, .int .i64 6), (28, .int .u8 (dg n0 6)), (29, .slice (some ⟨γ1210 0, 0, none⟩) 1 1), (30, .slice A1207 5 c1207)], [(γ1210 0, 5, [.int .u8 (dg n0 6)]), (γ1206 0, 5, [.int .u8 (dg n0 7)])]⟩, [], [], by kernel_rfl, .nil, ?_⟩
  refine ap (m := 1) (c := 1) (g := (γ1210 0)) (T := 5) (cs := [.int .u8 (dg n0 6)]) 0 0 1 rfl (by first | omega | (simp only [List.length_append, List.length_cons, List.length_nil]; omega)) (by simp only [maxLen]; first | omega | (simp only [List.length_append, List.length_cons, List.length_nil]; omega)) ([dg o0 0, dg a0 0, dg b0 0, dg c0 0, dg n0 7, dg n0 6] : List (Int)).length (([dg o0 0, dg a0 0, dg b0 0, dg c0 0, dg n0 7, dg n0 6] : List (Int)).flatMap encU8) (by simp) (by simp [encU8]) fun A1211 c1211 => ?_
  refine ck 4 [] [] fun γ1212 => ⟨⟨ktp (I1204 11) (kt (bdy Try.f43) [1, 1, 1, 1, 0, 1, 0] []), upv (aun_putwarrene12_b5 n0 u15 u16 A1202 c1202) [(7, .slice A1211 6 c1211), (8, .int .i64 5), (21, .int .i64 6), (23, .int .i64 6), (24, .int .i64 5), (25, .slice A1207 5 c1207), (27, .int .i64 6), (28, .int .u8 (dg n0 6)), (29, .slice (some ⟨γ1210 0, 0, none⟩) 1 1), (30, .slice A1211 6 c1211)], [(γ1210 0, 5, [.int .u8 (dg n0 6)]), (γ1206 0, 5, [.int .u8 (dg n0 7)])]⟩, [], [], by kernel_rfl, .nil, ?_⟩
  refine lv hI1204 10 ?_
  refine ck 5 [] [] fun γ1213 => ⟨⟨ktl [1, 0, 0, 3] (I1204 10) (kt (bdy Try.f43) [1, 1, 1, 1, 0, 1, 0] []), upv (aun_putwarrene12_b5 n0 u15 u16 A1202 c1202) [(7, .slice A1211 6 c1211), (8, .int .i64 5), (21, .int .i64 5), (23, .int .i64 6), (24, .int .i64 5), (25, .slice A1211 6 c1211), (27, .int .i64 5), (28, .int .u8 (dg n0 6)), (29, .slice (some ⟨γ1210 0, 0, none⟩) 1 1), (30, .slice A1211 6 c1211)], [(γ1210 0, 5, [.int .u8 (dg n0 6)]), (γ1206 0, 5, [.int .u8 (dg n0 7)])]⟩, [], [], by kernel_rfl, .nil, ?_⟩
  refine cp (fun W hW => aun_putwarrene15 n0) ?_
  refine ck 1 [] [] fun γ1214 => ⟨⟨ktl [1, 0, 0, 5] (I1204 10) (kt (bdy Try.f43) [1, 1, 1, 1, 0, 1, 0] []), upv (aun_putwarrene12_b5 n0 u15 u16 A1202 c1202) [(7, .slice A1211 6 c1211), (8, .int .i64 5), (21, .int .i64 5), (23, .int .i64 6), (24, .int .i64 5), (25, .slice A1211 6 c1211), (27, .int .i64 5), (28, .int .u8 (dg n0 5)), (29, .slice (some ⟨γ1214 0, 0, none⟩) 1 1), (30, .slice A1211 6 c1211)], [(γ1214 0, 5, [.int .u8 (dg n0 5)]), (γ1210 0, 5, [.int .u8 (dg n0 6)]), (γ1206 0, 5, [.int .u8 (dg n0 7)])]⟩, [], [], by kernel_rfl, .nil, ?_⟩
  refine ap (m := 1) (c := 1) (g := (γ1214 0)) (T := 5) (cs := [.int .u8 (dg n0 5)]) 0 0 1 rfl (by first | omega | (simp only [List.length_append, List.length_cons, List.length_nil]; omega)) (by simp only [maxLen]; first | omega | (simp only [List.length_append, List.length_cons, List.length_nil]; omega)) ([dg o0 0, dg a0 0, dg b0 0, dg c0 0, dg n0 7, dg n0 6, dg n0 5] : List (Int)).length (([dg o0 0, dg a0 0, dg b0 0, dg c0 0, dg n0 7, dg n0 6, dg n0 5] : List (Int)).flatMap encU8) (by simp) (by simp [encU8]) fun A1215 c1215 => ?_
  refine ck 4 [] [] fun γ1216 => ⟨⟨ktp (I1204 10) (kt (bdy Try.f43) [1, 1, 1, 1, 0, 1, 0] []), upv (aun_putwarrene12_b5 n0 u15 u16 A1202 c1202) [(7, .slice A1215 7 c1215), (8, .int .i64 4), (21, .int .i64 5), (23, .int .i64 5), (24, .int .i64 4), (25, .slice A1211 6 c1211), (27, .int .i64 5), (28, .int .u8 (dg n0 5)), (29, .slice (some ⟨γ1214 0, 0, none⟩) 1 1), (30, .slice A1215 7 c1215)], [(γ1214 0, 5, [.int .u8 (dg n0 5)]), (γ1210 0, 5, [.int .u8 (dg n0 6)]), (γ1206 0, 5, [.int .u8 (dg n0 7)])]⟩, [], [], by kernel_rfl, .nil, ?_⟩
  refine lv hI1204 9 ?_
  refine ck 5 [] [] fun γ1217 => ⟨⟨ktl [1, 0, 0, 3] (I1204 9) (kt (bdy Try.f43) [1, 1, 1, 1, 0, 1, 0] []), upv (aun_putwarrene12_b5 n0 u15 u16 A1202 c1202) [(7, .slice A1215 7 c1215), (8, .int .i64 4), (21, .int .i64 4), (23, .int .i64 5), (24, .int .i64 4), (25, .slice A1215 7 c1215), (27, .int .i64 4), (28, .int .u8 (dg n0 5)), (29, .slice (some ⟨γ1214 0, 0, none⟩) 1 1), (30, .slice A1215 7 c1215)], [(γ1214 0, 5, [.int .u8 (dg n0 5)]), (γ1210 0, 5, [.int .u8 (dg n0 6)]), (γ1206 0, 5, [.int .u8 (dg n0 7)])]⟩, [], [], by kernel_rfl, .nil, ?_⟩
  refine cp (fun W hW => aun_putwarrene16 n0) ?_
  refine ck 1 [] [] fun γ1218 => ⟨⟨ktl [1, 0, 0, 5] (I1204 9) (kt (bdy Try.f43) [1, 1, 1, 1, 0, 1, 0] []), upv (aun_putwarrene12_b5 n0 u15 u16 A1202 c1202) [(7, .slice A1215 7 c1215), (8, .int .i64 4), (21, .int .i64 4), (23, .int .i64 5), (24, .int .i64 4), (25, .slice A1215 7 c1215), (27, .int .i64 4), (28, .int .u8 (dg n0 4)), (29, .slice (some ⟨γ1218 0, 0, none⟩) 1 1), (30, .slice A1215 7 c1215)], [(γ1218 0, 5, [.int .u8 (dg n0 4)]), (γ1214 0, 5, [.int .u8 (dg n0 5)]), (γ1210 0, 5, [.int .u8 (dg n0 6)]), (γ1206 0, 5, [.int .u8 (dg n0 7)])]⟩, [], [], by kernel_rfl, .nil, ?_⟩
  refine ap (m := 1) (c := 1) (g := (γ1218 0)) (T := 5) (cs := [.int .u8 (dg n0 4)]) 0 0 1 rfl (by first | omega | (simp only [List.length_append, List.length_cons, List.length_nil]; omega)) (by simp only [maxLen]; first | omega | (simp only [List.length_append, List.length_cons, List.length_nil]; omega)) ([dg o0 0, dg a0 0, dg b0 0, dg c0 0, dg n0 7, dg n0 6, dg n0 5, dg n0 4] : List (Int)).length (([dg o0 0, dg a0 0, dg b0 0, dg c0 0, dg n0 7, dg n0 6, dg n0 5, dg n0 4] : List (Int)).flatMap encU8) (by simp) (by simp [encU8]) fun A1219 c1219 => ?_
  refine ck 4 [] [] fun γ1220 => ⟨⟨ktp (I1204 9) (kt (bdy Try.f43) [1, 1, 1, 1, 0, 1, 0] []), upv (aun_putwarrene12_b5 n0 u15 u16 A1202 c1202) [(7, .slice A1219 8 c1219), (8, .int .i64 3), (21, .int .i64 4), (23, .int .i64 4), (24, .int .i64 3), (25, .slice A1215 7 c1215), (27, .int .i64 4), (28, .int .u8 (dg n0 4)), (29, .slice (some ⟨γ1218 0, 0, none⟩) 1 1), (30, .slice A1219 8 c1219)], [(γ1218 0, 5, [.int .u8 (dg n0 4)]), (γ1214 0, 5, [.int .u8 (dg n0 5)]), (γ1210 0, 5, [.int .u8 (dg n0 6)]), (γ1206 0, 5, [.int .u8 (dg n0 7)])]⟩, [], [], by kernel_rfl, .nil, ?_⟩
  refine lv hI1204 8 ?_
  refine ck 5 [] [] fun γ1221 => ⟨⟨ktl [1, 0, 0, 3] (I1204 8) (kt (bdy Try.f43) [1, 1, 1, 1, 0, 1, 0] []), upv (aun_putwarrene12_b5 n0 u15 u16 A1202 c1202) [(7, .slice A1219 8 c1219), (8, .int .i64 3), (21, .int .i64 3), (23, .int .i64 4), (24, .int .i64 3), (25, .slice A1219 8 c1219), (27, .int .i64 3), (28, .int .u8 (dg n0 4)), (29, .slice (some ⟨γ1218 0, 0, none⟩) 1 1), (30, .slice A1219 8 c1219)], [(γ1218 0, 5, [.int .u8 (dg n0 4)]), (γ1214 0, 5, [.int .u8 (dg n0 5)]), (γ1210 0, 5, [.int .u8 (dg n0 6)]), (γ1206 0, 5, [.int .u8 (dg n0 7)])]⟩, [], [], by kernel_rfl, .nil, ?_⟩
  refine cp (fun W hW => aun_putwarrene17 n0) ?_
  refine ck 1 [] [] fun γ1222 => ⟨⟨ktl [1, 0, 0, 5] (I1204 8) (kt (bdy Try.f43) [1, 1, 1, 1, 0, 1, 0] []), upv (aun_putwarrene12_b5 n0 u15 u16 A1202 c1202) [(7, .slice A1219 8 c1219), (8, .int .i64 3), (21, .int .i64 3), (23, .int .i64 4), (24, .int .i64 3), (25, .slice A1219 8 c1219), (27, .int .i64 3), (28, .int .u8 (dg n0 3)), (29, .slice (some ⟨γ1222 0, 0, none⟩) 1 1), (30, .slice A1219 8 c1219)], [(γ1222 0, 5, [.int .u8 (dg n0 3)]), (γ1218 0, 5, [.int .u8 (dg n0 4)]), (γ1214 0, 5, [.int .u8 (dg n0 5)]), (γ1210 0, 5, [.int .u8 (dg n0 6)]), (γ1206 0, 5, [.int .u8 (dg n0 7)])]⟩, [], [], by kernel_rfl, .nil, ?_⟩
  refine ap (m := 1) (c := 1) (g := (γ1222 0)) (T := 5) (cs := [.int .u8 (dg n0 3)]) 0 0 1 rfl (by first | omega | (simp only [List.length_append, List.length_cons, List.length_nil]; omega)) (by simp only [maxLen]; first | omega | (simp only [List.length_append, List.length_cons, List.length_nil]; omega)) ([dg o0 0, dg a0 0, dg b0 0, dg c0 0, dg n0 7, dg n0 6, dg n0 5, dg n0 4, dg n0 3] : List (Int)).length (([dg o0 0, dg a0 0, dg b0 0, dg c0 0, dg n0 7, dg n0 6, dg n0 5, dg n0 4, dg n0 3] : List (Int)).flatMap encU8) (by simp) (by simp [encU8]) fun A1223 c1223 => ?_
  refine ck 4 [] [] fun γ1224 => ⟨⟨ktp (I1204 8) (kt (bdy Try.f43) [1, 1, 1, 1, 0, 1, 0] []), upv (aun_putwarrene12_b5 n0 u15 u16 A1202 c1202) [(7, .slice A1223 9 c1223), (8, .int .i64 2), (21, .int .i64 3), (23, .int .i64 3), (24, .int .i64 2), (25, .slice A1219 8 c1219), (27, .int .i64 3), (28, .int .u8 (dg n0 3)), (29, .slice (some ⟨γ1222 0, 0, none⟩) 1 1), (30, .slice A1223 9 c1223)], [(γ1222 0, 5, [.int .u8 (dg n0 3)]), (γ1218 0, 5, [.int .u8 (dg n0 4)]), (γ1214 0, 5, [.int .u8 (dg n0 5)]), (γ1210 0, 5, [.int .u8 (dg n0 6)]), (γ1206 0, 5, [.int .u8 (dg n0 7)])]⟩, [], [], by kernel_rfl, .nil, ?_⟩
  refine lv hI1204 7 ?_
  refine ck 5 [] [] fun γ1225 => ⟨⟨ktl [1, 0, 0, 3] (I1204 7) (kt (bdy Try.f43) [1, 1, 1, 1, 0, 1, 0] []), upv (aun_putwarrene12_b5 n0 u15 u16 A1202 c1202) [(7, .slice A1223 9 c1223), (8, .int .i64 2), (21, .int .i64 2), (23, .int .i64 3), (24, .int .i64 2), (25, .slice A1223 9 c1223), (27, .int .i64 2), (28, .int .u8 (dg n0 3)), (29, .slice (some ⟨γ1222 0, 0, none⟩) 1 1), (30, .slice A1223 9 c1223)], [(γ1222 0, 5, [.int .u8 (dg n0 3)]), (γ1218 0, 5, [.int .u8 (dg n0 4)]), (γ1214 0, 5, [.int .u8 (dg n0 5)]), (γ1210 0, 5, [.int .u8 (dg n0 6)]), (γ1206 0, 5, [.int .u8 (dg n0 7)])]⟩, [], [], by kernel_rfl, .nil, ?_⟩
  refine cp (fun W hW => aun_putwarrene18 n0) ?_
  refine ck 1 [] [] fun γ1226 => ⟨⟨ktl [1, 0, 0, 5] (I1204 7) (kt (bdy Try.f43) [1, 1, 1, 1, 0, 1, 0] []), upv (aun_putwarrene12_b5 n0 u15 u16 A1202 c1202) [(7, .slice A1223 9 c1223), (8, .int .i64 2), (21, .int .i64 2), (23, .int .i64 3), (24, .int .i64 2), (25, .slice A1223 9 c1223), (27, .int .i64 2), (28, .int .u8 (dg n0 2)), (29, .slice (some ⟨γ1226 0, 0, none⟩) 1 1), (30, .slice A1223 9 c1223)], [(γ1226 0, 5, [.int .u8 (dg n0 2)]), (γ1222 0, 5, [.int .u8 (dg n0 3)]), (γ1218 0, 5, [.int .u8 (dg n0 4)]), (γ1214 0, 5, [.int .u8 (dg n0 5)]), (γ1210 0, 5, [.int .u8 (dg n0 6)]), (γ1206 0, 5, [.int .u8 (dg n0 7)])]⟩, [], [], by kernel_rfl, .nil, ?_⟩
  refine ap (m := 1) (c := 1) (g := (γ1226 0)) (T := 5) (cs := [.int .u8 (dg n0 2)]) 0 0 1 rfl (by first | omega | (simp only [List.length_append, List.length_cons, List.length_nil]; omega)) (by simp only [maxLen]; first | omega | (simp only [List.length_append, List.length_cons, List.length_nil]; omega)) ([dg o0 0, dg a0 0, dg b0 0, dg c0 0, dg n0 7, dg n0 6, dg n0 5, dg n0 4, dg n0 3, dg n0 2] : List (Int)).length (([dg o0 0, dg a0 0, dg b0 0, dg c0 0, dg n0 7, dg n0 6, dg n0 5, dg n0 4, dg n0 3, dg n0 2] : List (Int)).flatMap encU8) (by simp) (by simp [encU8]) fun A1227 c1227 => ?_
  refine ck 4 [] [] fun γ1228 => ⟨⟨ktp (I1204 7) (kt (bdy Try.f43) [1, 1, 1, 1, 0, 1, 0] []), upv (aun_putwarrene12_b5 n0 u15 u16 A1202 c1202) [(7, .slice A1227 10 c1227), (8, .int .i64 1), (21, .int .i64 2), (23, .int .i64 2), (24, .int .i64 1), (25, .slice A1223 9 c1223), (27, .int .i64 2), (28, .int .u8 (dg n0 2)), (29, .slice (some ⟨γ1226 0, 0, none⟩) 1 1), (30, .slice A1227 10 c1227)], [(γ1226 0, 5, [.int .u8 (dg n0 2)]), (γ1222 0, 5, [.int .u8 (dg n0 3)]), (γ1218 0, 5, [.int .u8 (dg n0 4)]), (γ1214 0, 5, [.int .u8 (dg n0 5)]), (γ1210 0, 5, [.int .u8 (dg n0 6)]), (γ1206 0, 5, [.int .u8 (dg n0 7)])]⟩, [], [], by kernel_rfl, .nil, ?_⟩
  refine lv hI1204 6 ?_
  refine ck 5 [] [] fun γ1229 => ⟨⟨ktl [1, 0, 0, 3] (I1204 6) (kt (bdy Try.f43) [1, 1, 1, 1, 0, 1, 0] []), upv (aun_putwarrene12_b5 n0 u15 u16 A1202 c1202) [(7, .slice A1227 10 c1227), (8, .int .i64 1), (21, .int .i64 1), (23, .int .i64 2), (24, .int .i64 1), (25, .slice A1227 10 c1227), (27, .int .i64 1), (28, .int .u8 (dg n0 2)), (29, .slice (some ⟨γ1226 0, 0, none⟩) 1 1), (30, .slice A1227 10 c1227)], [(γ1226 0, 5, [.int .u8 (dg n0 2)]), (γ1222 0, 5, [.int .u8 (dg n0 3)]), (γ1218 0, 5, [.int .u8 (dg n0 4)]), (γ1214 0, 5, [.int .u8 (dg n0 5)]), (γ1210 0, 5, [.int .u8 (dg n0 6)]), (γ1206 0, 5, [.int .u8 (dg n0 7)])]⟩, [], [], by kernel_rfl, .nil, ?_⟩
  refine cp (fun W hW => aun_putwarrene19 n0) ?_
  refine ck 1 [] [] fun γ1230 => ⟨⟨ktl [1, 0, 0, 5] (I1204 6) (kt (bdy Try.f43) [1, 1, 1, 1, 0, 1, 0] []), upv (aun_putwarrene12_b5 n0 u15 u16 A1202 c1202) [(7, .slice A1227 10 c1227), (8, .int .i64 1), (21, .int .i64 1), (23, .int .i64 2), (24, .int .i64 1), (25, .slice A1227 10 c1227), (27, .int .i64 1), (28, .int .u8 (dg n0 1)), (29, .slice (some ⟨γ1230 0, 0, none⟩) 1 1), (30, .slice A1227 10 c1227)], [(γ1230 0, 5, [.int .u8 (dg n0 1)]), (γ1226 0, 5, [.int .u8 (dg n0 2)]), (γ1222 0, 5, [.int .u8 (dg n0 3)]), (γ1218 0, 5, [.int .u8 (dg n0 4)]), (γ1214 0, 5, [.int .u8 (dg n0 5)]), (γ1210 0, 5, [.int .u8 (dg n0 6)]), (γ1206 0, 5, [.int .u8 (dg n0 7)])]⟩, [], [], by kernel_rfl, .nil, ?_⟩
  refine ap (m := 1) (c := 1) (g := (γ1230 0)) (T := 5) (cs := [.int .u8 (dg n0 1)]) 0 0 1 rfl (by first | omega | (simp only [List.length_append, List.length_cons, List.length_nil]; omega)) (by simp only [maxLen]; first | omega | (simp only [List.length_append, List.length_cons, List.length_nil]; omega)) ([dg o0 0, dg a0 0, dg b0 0, dg c0 0, dg n0 7, dg n0 6, dg n0 5, dg n0 4, dg n0 3, dg n0 2, dg n0 1] : List (Int)).length (([dg o0 0, dg a0 0, dg b0 0, dg c0 0, dg n0 7, dg n0 6, dg n0 5, dg n0 4, dg n0 3, dg n0 2, dg n0 1] : List (Int)).flatMap encU8) (by simp) (by simp [encU8]) fun A1231 c1231 => ?_
  refine ck 4 [] [] fun γ1232 => ⟨⟨ktp (I1204 6) (kt (bdy Try.f43) [1, 1, 1, 1, 0, 1, 0] []), upv (aun_putwarrene12_b5 n0 u15 u16 A1202 c1202) [(7, .slice A1231 11 c1231), (8, .int .i64 0), (21, .int .i64 1), (23, .int .i64 1), (24, .int .i64 0), (25, .slice A1227 10 c1227), (27, .int .i64 1), (28, .int .u8 (dg n0 1)), (29, .slice (some ⟨γ1230 0, 0, none⟩) 1 1), (30, .slice A1231 11 c1231)], [(γ1230 0, 5, [.int .u8 (dg n0 1)]), (γ1226 0, 5, [.int .u8 (dg n0 2)]), (γ1222 0, 5, [.int .u8 (dg n0 3)]), (γ1218 0, 5, [.int .u8 (dg n0 4)]), (γ1214 0, 5, [.int .u8 (dg n0 5)]), (γ1210 0, 5, [.int .u8 (dg n0 6)]), (γ1206 0, 5, [.int .u8 (dg n0 7)])]⟩, [], [], by kernel_rfl, .nil, ?_⟩
  refine lv hI1204 5 ?_
  refine ck 5 [] [] fun γ1233 => ⟨⟨ktl [1, 0, 0, 3] (I1204 5) (kt (bdy Try.f43) [1, 1, 1, 1, 0, 1, 0] []), upv (aun_putwarrene12_b5 n0 u15 u16 A1202 c1202) [(7, .slice A1231 11 c1231), (8, .int .i64 0), (21, .int .i64 0), (23, .int .i64 1), (24, .int .i64 0), (25, .slice A1231 11 c1231), (27, .int .i64 0), (28, .int .u8 (dg n0 1)), (29, .slice (some ⟨γ1230 0, 0, none⟩) 1 1), (30, .slice A1231 11 c1231)], [(γ1230 0, 5, [.int .u8 (dg n0 1)]), (γ1226 0, 5, [.int .u8 (dg n0 2)]), (γ1222 0, 5, [.int .u8 (dg n0 3)]), (γ1218 0, 5, [.int .u8 (dg n0 4)]), (γ1214 0, 5, [.int .u8 (dg n0 5)]), (γ1210 0, 5, [.int .u8 (dg n0 6)]), (γ1206 0, 5, [.int .u8 (dg n0 7)])]⟩, [], [], by kernel_rfl, .nil, ?_⟩
  refine cp (fun W hW => aun_putwarrene20 n0) ?_
  refine ck 1 [] [] fun γ1234 => ⟨⟨ktl [1, 0, 0, 5] (I1204 5) (kt (bdy Try.f43) [1, 1, 1, 1, 0, 1, 0] []), upv (aun_putwarrene12_b5 n0 u15 u16 A1202 c1202) [(7, .slice A1231 11 c1231), (8, .int .i64 0), (21, .int .i64 0), (23, .int .i64 1), (24, .int .i64 0), (25, .slice A1231 11 c1231), (27, .int .i64 0), (28, .int .u8 (dg n0 0)), (29, .slice (some ⟨γ1234 0, 0, none⟩) 1 1), (30, .slice A1231 11 c1231)], [(γ1234 0, 5, [.int .u8 (dg n0 0)]), (γ1230 0, 5, [.int .u8 (dg n0 1)]), (γ1226 0, 5, [.int .u8 (dg n0 2)]), (γ1222 0, 5, [.int .u8 (dg n0 3)]), (γ1218 0, 5, [.int .u8 (dg n0 4)]), (γ1214 0, 5, [.int .u8 (dg n0 5)]), (γ1210 0, 5, [.int .u8 (dg n0 6)]), (γ1206 0, 5, [.int .u8 (dg n0 7)])]⟩, [], [], by kernel_rfl, .nil, ?_⟩
  refine ap (m := 1) (c := 1) (g := (γ1234 0)) (T := 5) (cs := [.int .u8 (dg n0 0)]) 0 0 1 rfl (by first | omega | (simp only [List.length_append, List.length_cons, List.length_nil]; omega)) (by simp only [maxLen]; first | omega | (simp only [List.length_append, List.length_cons, List.length_nil]; omega)) ([dg o0 0, dg a0 0, dg b0 0, dg c0 0, dg n0 7, dg n0 6, dg n0 5, dg n0 4, dg n0 3, dg n0 2, dg n0 1, dg n0 0] : List (Int)).length (([dg o0 0, dg a0 0, dg b0 0, dg c0 0, dg n0 7, dg n0 6, dg n0 5, dg n0 4, dg n0 3, dg n0 2, dg n0 1, dg n0 0] : List (Int)).flatMap encU8) (by simp) (by simp [encU8]) fun A1235 c1235 => ?_
  refine ck 4 [] [] fun γ1236 => ⟨⟨ktp (I1204 5) (kt (bdy Try.f43) [1, 1, 1, 1, 0, 1, 0] []), upv (aun_putwarrene12_b5 n0 u15 u16 A1202 c1202) [(7, .slice A1235 12 c1235), (8, .int .i64 (-1)), (21, .int .i64 0), (23, .int .i64 0), (24, .int .i64 (-1)), (25, .slice A1231 11 c1231), (27, .int .i64 0), (28, .int .u8 (dg n0 0)), (29, .slice (some ⟨γ1234 0, 0, none⟩) 1 1), (30, .slice A1235 12 c1235)], [(γ1234 0, 5, [.int .u8 (dg n0 0)]), (γ1230 0, 5, [.int .u8 (dg n0 1)]), (γ1226 0, 5, [.int .u8 (dg n0 2)]), (γ1222 0, 5, [.int .u8 (dg n0 3)]), (γ1218 0, 5, [.int .u8 (dg n0 4)]), (γ1214 0, 5, [.int .u8 (dg n0 5)]), (γ1210 0, 5, [.int .u8 (dg n0 6)]), (γ1206 0, 5, [.int .u8 (dg n0 7)])]⟩, [], [], by kernel_rfl, .nil, ?_⟩
  refine lv hI1204 4 ?_
  refine ck 4 [] [] fun γ1237 => ⟨⟨kt (bdy Try.f43) [1, 1, 1, 1, 1, 1] [], (aun_putwarrene12_b8 n0 u15 u16 A1202 c1202 A1231 c1231 γ1234 A1235 c1235), [(γ1234 0, 5, [.int .u8 (dg n0 0)]), (γ1230 0, 5, [.int .u8 (dg n0 1)]), (γ1226 0, 5, [.int .u8 (dg n0 2)]), (γ1222 0, 5, [.int .u8 (dg n0 3)]), (γ1218 0, 5, [.int .u8 (dg n0 4)]), (γ1214 0, 5, [.int .u8 (dg n0 5)]), (γ1210 0, 5, [.int .u8 (dg n0 6)]), (γ1206 0, 5, [.int .u8 (dg n0 7)])]⟩, [], [], by kernel_rfl, .nil, ?_⟩
  refine rt (.slice A1235 12 c1235) [] [] (fun W hW => ?_)
  exact ⟨⟨A1235, c1235⟩, rfl, Fresh.of (R := [rowA 5 1 (.slice A1235 12 c1235) ([dg o0 0, dg a0 0, dg b0 0, dg c0 0, dg n0 7, dg n0 6, dg n0 5, dg n0 4, dg n0 3, dg n0 2, dg n0 1, dg n0 0] : List (Int)).length (([dg o0 0, dg a0 0, dg b0 0, dg c0 0, dg n0 7, dg n0 6, dg n0 5, dg n0 4, dg n0 3, dg n0 2, dg n0 1, dg n0 0] : List (Int)).flatMap encU8)]) (hW.perm (List.Perm.refl _)) (.cons_cons _ (.cons_cons _ (.slnil)))⟩
def rpu_l0 (o0 : Int) (a0 : Int) (b0 : Int) (c0 : Int) (n0 : Int) (γ1 : Nat → Nat) : List Value := [.agg #[.int .i64 o0, .int .i64 a0, .int .i64 b0, .int .i64 c0, .int .i64 n0], .pointer (some ⟨γ1 0, 0, none⟩), .slice none 0 0, .slice none 0 0, zz, .slice none 0 0, .pointer (some ⟨γ1 0, 0, none⟩), .int .i64 o0, zz, zz, zz, zz, zz, zz, zz, zz]
def rpu_l1 : List Value := [zz, zz, zz, zz, zz, zz]
def rpu_b2 (o0 : Int) (a0 : Int) (b0 : Int) (c0 : Int) (n0 : Int) (γ1 : Nat → Nat) : List Value := (rpu_l0 o0 a0 b0 c0 n0 γ1) ++ (rpu_l1)
def rpu_l3 (o0 : Int) (a0 : Int) (b0 : Int) (c0 : Int) (n0 : Int) (γ1 : Nat → Nat) (u2 : Option Addr) (u3 : Nat) (u11 : Option Addr) (u12 : Nat) (u15 : Option Addr) (u16 : Nat) : List Value := [.agg #[.int .i64 o0, .int .i64 a0, .int .i64 b0, .int .i64 c0, .int .i64 n0], .pointer (some ⟨γ1 0, 0, none⟩), .slice none 0 0, .slice u15 4 u16, .int .i64 3, .slice none 0 0, .pointer (some ⟨γ1 0, 0, none⟩), .int .i64 o0, .slice u2 1 u3, .int .i64 3, .bool false, .int .i64 2, .int .i64 3, .slice u11 3 u12, .agg #[.int .i64 o0, .int .i64 a0, .int .i64 b0, .int .i64 c0, .int .i64 n0], .int .i64 2]
def rpu_l4 (c0 : Int) (n0 : Int) (γ1 : Nat → Nat) (u15 : Option Addr) (u16 : Nat) : List Value := [.int .i64 c0, .slice u15 4 u16, .slice u15 4 u16, .pointer (some ⟨γ1 0, 4, none⟩), .int .i64 n0, zz]
def rpu_b5 (o0 : Int) (a0 : Int) (b0 : Int) (c0 : Int) (n0 : Int) (γ1 : Nat → Nat) (u2 : Option Addr) (u3 : Nat) (u11 : Option Addr) (u12 : Nat) (u15 : Option Addr) (u16 : Nat) : List Value := (rpu_l3 o0 a0 b0 c0 n0 γ1 u2 u3 u11 u12 u15 u16) ++ ((rpu_l4 c0 n0 γ1 u15 u16))
set_option maxHeartbeats 8000000 in
set_option maxRecDepth 100000 in
theorem rput_is (o0 a0 b0 c0 n0 : Int) (w : World) : Calls Try.prog 20 #[.agg #[.int .i64 o0, .int .i64 a0, .int .i64 b0, .int .i64 c0, .int .i64 n0]] w fun e w' => ∃ r : RV, e = .returned (.slice r.1 12 r.2) ∧ Fresh w w' [rowA 5 1 (.slice r.1 12 r.2) 12 ((([dg o0 0, dg a0 0, dg b0 0, dg c0 0, dg n0 7, dg n0 6, dg n0 5, dg n0 4, dg n0 3, dg n0 2, dg n0 1, dg n0 0]) : List Int).flatMap encU8)] := by
  refine enter (args := [.agg #[.int .i64 o0, .int .i64 a0, .int .i64 b0, .int .i64 c0, .int .i64 n0]]) (fn := Try.f20) rfl (c := bdy Try.f20) (by kernel_rfl) ?_
  refine ck 6 [(1, 0)] [] fun γ1 => ⟨⟨kt (bdy Try.f20) [1, 1, 0, 3] [], (rpu_b2 o0 a0 b0 c0 n0 γ1), [(γ1 0, 41, [.int .i64 o0, .int .i64 a0, .int .i64 b0, .int .i64 c0, .int .i64 n0])]⟩, [(1, γ1 0)], [], by kernel_rfl, .nil, ?_⟩
  refine cf (fun W hW => aun_putwarrene1 o0) ?_
  rintro ⟨u2, u3⟩
  refine ck 2 [] [] fun γ4 => ⟨⟨kt (bdy Try.f20) [1, 1, 1, 0, 1, 0] [], upv (rpu_b2 o0 a0 b0 c0 n0 γ1) [(3, .slice u2 1 u3), (4, .int .i64 0), (8, .slice u2 1 u3)], [(γ1 0, 41, [.int .i64 o0, .int .i64 a0, .int .i64 b0, .int .i64 c0, .int .i64 n0])]⟩, [], [], by kernel_rfl, .nil, ?_⟩
  refine lu 12 (fun I5 hI5 => ?_)
  refine ck 5 [(5, 0)] [] fun γ6 => ⟨⟨ktl [1, 0, 0, 3] (I5 12) (kt (bdy Try.f20) [1, 1, 1, 0, 1, 0] []), upv (rpu_b2 o0 a0 b0 c0 n0 γ1) [(3, .slice u2 1 u3), (4, .int .i64 0), (8, .slice u2 1 u3), (9, .int .i64 0), (10, .bool true), (13, .slice u2 1 u3), (14, .agg #[.int .i64 o0, .int .i64 a0, .int .i64 b0, .int .i64 c0, .int .i64 n0]), (15, .int .i64 0)], [(γ1 0, 41, [.int .i64 o0, .int .i64 a0, .int .i64 b0, .int .i64 c0, .int .i64 n0])]⟩, [(5, γ1 0)], [], by kernel_rfl, .nil, ?_⟩
  refine cp (fun W hW => aun_putwarrene3 o0 a0 b0 c0 n0) ?_
  refine cf (fun W hW => aun_putwarrene4 o0 a0 u2 u3 (own_rd encU8_len (hW.at 0 rfl)) (by first | omega | (simp only [List.length_append, List.length_cons, List.length_nil]; omega) | simp)) ?_
  rintro ⟨u7, u8⟩
  refine ck 4 [] [] fun γ9 => ⟨⟨ktp (I5 12) (kt (bdy Try.f20) [1, 1, 1, 0, 1, 0] []), upv (rpu_b2 o0 a0 b0 c0 n0 γ1) [(3, .slice u7 2 u8), (4, .int .i64 1), (8, .slice u2 1 u3), (9, .int .i64 0), (10, .bool true), (11, .int .i64 0), (12, .int .i64 1), (13, .slice u2 1 u3), (14, .agg #[.int .i64 o0, .int .i64 a0, .int .i64 b0, .int .i64 c0, .int .i64 n0]), (15, .int .i64 0), (16, .int .i64 a0), (17, .slice u7 2 u8)], [(γ1 0, 41, [.int .i64 o0, .int .i64 a0, .int .i64 b0, .int .i64 c0, .int .i64 n0])]⟩, [], [], by kernel_rfl, .nil, ?_⟩
  refine lv hI5 11 ?_
  refine ck 5 [(5, 0)] [] fun γ10 => ⟨⟨ktl [1, 0, 0, 3] (I5 11) (kt (bdy Try.f20) [1, 1, 1, 0, 1, 0] []), upv (rpu_b2 o0 a0 b0 c0 n0 γ1) [(3, .slice u7 2 u8), (4, .int .i64 1), (8, .slice u2 1 u3), (9, .int .i64 1), (10, .bool true), (11, .int .i64 0), (12, .int .i64 1), (13, .slice u7 2 u8), (14, .agg #[.int .i64 o0, .int .i64 a0, .int .i64 b0, .int .i64 c0, .int .i64 n0]), (15, .int .i64 1), (16, .int .i64 a0), (17, .slice u7 2 u8)], [(γ1 0, 41, [.int .i64 o0, .int .i64 a0, .int .i64 b0, .int .i64 c0, .int .i64 n0])]⟩, [(5, γ1 0)], [], by kernel_rfl, .nil, ?_⟩
  refine cp (fun W hW => aun_putwarrene6 o0 a0 b0 c0 n0) ?_
  refine cf (fun W hW => aun_putwarrene7 o0 a0 b0 u7 u8 (own_rd encU8_len (hW.at 0 rfl)) (by first | omega | (simp only [List.length_append, List.length_cons, List.length_nil]; omega) | simp)) ?_
  rintro ⟨u11, u12⟩
  refine ck 4 [] [] fun γ13 => ⟨⟨ktp (I5 11) (kt (bdy Try.f20) [1, 1, 1, 0, 1, 0] []), upv (rpu_b2 o0 a0 b0 c0 n0 γ1) [(3, .slice u11 3 u12), (4, .int .i64 2), (8, .slice u2 1 u3), (9, .int .i64 1), (10, .bool true), (11, .int .i64 1), (12, .int .i64 2), (13, .slice u7 2 u8), (14, .agg #[.int .i64 o0, .int .i64 a0, .int .i64 b0, .int .i64 c0, .int .i64 n0]), (15, .int .i64 1), (16, .int .i64 b0), (17, .slice u11 3 u12)], [(γ1 0, 41, [.int .i64 o0, .int .i64 a0, .int .i64 b0, .int .i64 c0, .int .i64 n0])]⟩, [], [], by kernel_rfl, .nil, ?_⟩
  refine lv hI5 10 ?_
  refine ck 5 [(5, 0)] [] fun γ14 => ⟨⟨ktl [1, 0, 0, 3] (I5 10) (kt (bdy Try.f20) [1, 1, 1, 0, 1, 0] []), upv (rpu_b2 o0 a0 b0 c0 n0 γ1) [(3, .slice u11 3 u12), (4, .int .i64 2), (8, .slice u2 1 u3), (9, .int .i64 2), (10, .bool true), (11, .int .i64 1), (12, .int .i64 2), (13, .slice u11 3 u12), (14, .agg #[.int .i64 o0, .int .i64 a0, .int .i64 b0, .int .i64 c0, .int .i64 n0]), (15, .int .i64 2), (16, .int .i64 b0), (17, .slice u11 3 u12)], [(γ1 0, 41, [.int .i64 o0, .int .i64 a0, .int .i64 b0, .int .i64 c0, .int .i64 n0])]⟩, [(5, γ1 0)], [], by kernel_rfl, .nil, ?_⟩
  refine cp (fun W hW => aun_putwarrene9 o0 a0 b0 c0 n0) ?_
  refine cf (fun W hW => aun_putwarrene10 o0 a0 b0 c0 u11 u12 (own_rd encU8_len (hW.at 0 rfl)) (by first | omega | (simp only [List.length_append, List.length_cons, List.length_nil]; omega) | simp)) ?_
  rintro ⟨u15, u16⟩
  refine ck 4 [] [] fun γ17 => ⟨⟨ktp (I5 10) (kt (bdy Try.f20) [1, 1, 1, 0, 1, 0] []), upv (rpu_b2 o0 a0 b0 c0 n0 γ1) [(3, .slice u15 4 u16), (4, .int .i64 3), (8, .slice u2 1 u3), (9, .int .i64 2), (10, .bool true), (11, .int .i64 2), (12, .int .i64 3), (13, .slice u11 3 u12), (14, .agg #[.int .i64 o0, .int .i64 a0, .int .i64 b0, .int .i64 c0, .int .i64 n0]), (15, .int .i64 2), (16, .int .i64 c0), (17, .slice u15 4 u16)], [(γ1 0, 41, [.int .i64 o0, .int .i64 a0, .int .i64 b0, .int .i64 c0, .int .i64 n0])]⟩, [], [], by kernel_rfl, .nil, ?_⟩
  refine lv hI5 9 ?_
  refine ck 5 [(1, 0)] [] fun γ18 => ⟨⟨kt (bdy Try.f20) [1, 1, 1, 1, 0, 3] [], (rpu_b5 o0 a0 b0 c0 n0 γ1 u2 u3 u11 u12 u15 u16), [(γ1 0, 41, [.int .i64 o0, .int .i64 a0, .int .i64 b0, .int .i64 c0, .int .i64 n0])]⟩, [(1, γ1 0)], [], by kernel_rfl, .nil, ?_⟩
  refine cf (fun W hW => aun_putwarrene12 o0 a0 b0 c0 n0 u15 u16 (own_rd encU8_len (hW.at 0 rfl)) (by first | omega | (simp only [List.length_append, List.length_cons, List.length_nil]; omega) | simp)) ?_
  rintro ⟨u19, u20⟩
  refine ck 1 [] [] fun γ21 => ⟨⟨kt (bdy Try.f20) [1, 1, 1, 1, 1] [], upv (rpu_b5 o0 a0 b0 c0 n0 γ1 u2 u3 u11 u12 u15 u16) [(2, .slice u19 12 u20), (21, .slice u19 12 u20)], [(γ1 0, 41, [.int .i64 o0, .int .i64 a0, .int .i64 b0, .int .i64 c0, .int .i64 n0])]⟩, [], [], by kernel_rfl, .nil, ?_⟩
  refine rt (.slice u19 12 u20) [] [] (fun W hW => ?_)
  exact ⟨(u19, u20), rfl, Fresh.of (R := [rowA 5 1 (.slice u19 12 u20) ([dg o0 0, dg a0 0, dg b0 0, dg c0 0, dg n0 7, dg n0 6, dg n0 5, dg n0 4, dg n0 3, dg n0 2, dg n0 1, dg n0 0] : List (Int)).length (([dg o0 0, dg a0 0, dg b0 0, dg c0 0, dg n0 7, dg n0 6, dg n0 5, dg n0 4, dg n0 3, dg n0 2, dg n0 1, dg n0 0] : List (Int)).flatMap encU8)]) (hW.perm (List.Perm.refl _)) (.cons_cons _ (.cons _ (.cons _ (.cons _ (.cons _ (.cons_cons _ (.slnil)))))))⟩
end Go.Proofs.Ythcmcekjgecnhab.Sr
