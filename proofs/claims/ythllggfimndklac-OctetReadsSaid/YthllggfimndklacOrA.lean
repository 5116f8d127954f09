/- What the plain Take and Signed answer, and what a call of the law reads. No condition beside those that each theorem names. -/
import Derived.Test.YthllggfimndklacQOctetReadsx1
namespace Go.Proofs.Ythllggfimndklac.Or
open Go.RowKit Go.Proofs.YthllggfimndklacW.PrintWords Go.Proofs.YthllggfimndklacW.PrintLast Go.Proofs.YthllggfimndklacW.PrintMore
attribute [local go_sem] max2_int min2_int max_two min_two max_three min_three max_four min_four   -- for this text's walks alone
open Go.Proofs.YthllggfimndklacW.HWords
set_option linter.unusedVariables false
set_option linter.unusedSimpArgs false
open Go.Proofs.Ythllggfimndklac.QOctetReads
theorem u64_join {x y : Int} (hx0 : 0 ≤ x) (hx : x % 256 = 0) (hx1 : x < 18446744073709551616) (h0 : 0 ≤ y) (h1 : y < 256) : bits .or .u64 x y = x + y :=
  bits_join .u64 64 (by decide) (fun n h0 h1 => by simp only [IntKind.wrap, IntKind.bits, IntKind.signed]; simp; omega) 8 x y hx0 (by omega) (by omega) h0 (by omega) (by omega)
theorem step_is {x b : Int} (h0 : 0 ≤ x) (h1 : x < 72057594037927936) (b0 : 0 ≤ b) (b1 : b < 256) : oct_step x b = x * 256 + b := by
  have e1 : IntKind.u64.wrap (x * 256) = x * 256 := by simp only [IntKind.wrap, IntKind.bits, IntKind.signed]; simp; omega
  have e2 : IntKind.u64.wrap b = b := by simp only [IntKind.wrap, IntKind.bits, IntKind.signed]; simp; omega
  unfold oct_step
  rw [e1, e2]
  exact u64_join (by omega) (by omega) (by omega) b0 b1
theorem take_is : ∀ (l : List Int) (x : Int) (n : Nat), (∀ b ∈ l, 0 ≤ b ∧ b < 256) → 0 ≤ x → x < 256 ^ n → n + l.length ≤ 8 → l.foldl oct_step x = l.foldl (fun x b => x * 256 + b) x := by
  intro l
  induction l with
  | nil => intros; rfl
  | cons b l ih =>
    intro x n hb h0 h1 hn
    have hb0 := hb b (by simp)
    simp only [List.length_cons] at hn
    have hx : x < 72057594037927936 := by
      have h2 : n = 0 ∨ n = 1 ∨ n = 2 ∨ n = 3 ∨ n = 4 ∨ n = 5 ∨ n = 6 ∨ n = 7 := by omega
      rcases h2 with rfl | rfl | rfl | rfl | rfl | rfl | rfl | rfl <;> omega
    simp only [List.foldl_cons]
    rw [step_is h0 hx hb0.1 hb0.2]
    refine ih (x * 256 + b) (n + 1) (fun b hb' => hb b (by simp [hb'])) (by omega) ?_ (by omega)
    rw [Int.pow_succ]
    omega
theorem C_ints {w : World} {A : Option Addr} {n : Nat} {xs : List Int} (h : Kd.C (Kd.int .u8) w A n xs) : ReadsInt w .u8 A n xs := by
  refine ⟨h.1, h.2.1, fun hp => ?_⟩
  obtain ⟨ad, hA, _⟩ := h.2.2 hp
  refine ⟨ad, hA, fun j hj => ?_⟩
  obtain ⟨ad', hA', hc⟩ := Kd.at_int h (j : Int) (by omega) (by omega)
  rw [hA] at hA'
  cases hA'
  rw [Int.toNat_natCast] at hc
  refine hc.trans ?_
  rw [rd, Int.toNat_natCast]
def oct_val (l : List Int) : Int := l.foldl (fun x b => x * 256 + b) 0
theorem ref_l0 (l : List Int) (hd : ∀ b ∈ l, 0 ≤ b ∧ b < 256) (h8 : l.length ≤ 8) (d : Nat) : ∀ (i k : Nat) (x : Int), i + d = l.length → d < k → 0 ≤ x → x < 256 ^ i → warrenerref02_Take.l0 k l x i = some (wrap64 ((l.drop i).foldl (fun x b => x * 256 + b) x)) := by
  induction d with
  | zero =>
    intro i k x hi hk h0 h1
    obtain ⟨k, rfl⟩ : ∃ j, k = j + 1 := ⟨k - 1, by omega⟩
    simp only [warrenerref02_Take.l0]
    rw [if_neg (by omega), List.drop_of_length_le (by omega)]
    rfl
  | succ d ih =>
    intro i k x hi hk h0 h1
    obtain ⟨k, rfl⟩ : ∃ j, k = j + 1 := ⟨k - 1, by omega⟩
    have hil : i < l.length := by omega
    have hb := hd l[i] (List.getElem_mem hil)
    have hr : rd l (i : Int) = l[i] := by
      rw [rd, Int.toNat_natCast, List.getD_eq_getElem?_getD, List.getElem?_eq_getElem hil]
      rfl
    have hx : x < 72057594037927936 := by
      have h2 : i = 0 ∨ i = 1 ∨ i = 2 ∨ i = 3 ∨ i = 4 ∨ i = 5 ∨ i = 6 ∨ i = 7 := by omega
      rcases h2 with rfl | rfl | rfl | rfl | rfl | rfl | rfl | rfl <;> omega
    have e1 : IntKind.u64.wrap (IntKind.u64.wrap (x * 256) + IntKind.u64.wrap l[i]) = x * 256 + l[i] := by
      simp only [IntKind.wrap, IntKind.bits, IntKind.signed]
      simp
      omega
    have e2 : wrap64 ((i : Int) + 1) = ((i + 1 : Nat) : Int) := by unfold wrap64; omega
    simp only [warrenerref02_Take.l0]
    rw [if_pos (by omega), if_pos (by omega), hr, e1, e2, ih (i + 1) k _ (by omega) (by omega) (by omega) (by rw [Int.pow_succ]; omega), List.drop_eq_getElem_cons hil]
    rfl
theorem ref_take (l : List Int) (hd : ∀ b ∈ l, 0 ≤ b ∧ b < 256) (h8 : l.length ≤ 8) : warrenerref02_Take.f 20 l = some (wrap64 (oct_take l)) := by
  have h := ref_l0 l hd h8 l.length 0 20 0 (by omega) (by omega) (by decide) (by decide)
  rw [List.drop_zero] at h
  unfold oct_take
  rw [take_is l 0 0 hd (by decide) (by decide) (by omega)]
  exact h
theorem ref_signed (l : List Int) (hd : ∀ b ∈ l, 0 ≤ b ∧ b < 256) (h1 : 1 ≤ l.length) (h8 : l.length ≤ 8) : warrenerref02_Signed.f 20 l = some (oct_signed (wrap64 (oct_take l)) (l.length : Int)) := by
  unfold warrenerref02_Signed.f
  rw [ref_take l hd h8, Option.bind_some]
  have hv : oct_take l = l.foldl (fun x b => x * 256 + b) 0 := by
    unfold oct_take
    exact take_is l 0 0 hd (by decide) (by decide) (by omega)
  rw [hv]
  clear hv
  match l, h1, h8, hd with
  | [b0], _, _, hd =>
    have h_b0 := hd b0 (by simp)
    clear hd
    simp only [List.foldl_cons, List.foldl_nil, List.length_cons, List.length_nil, rd]
    unfold oct_signed
    rw [show (64 - 8 * ((0 + 1 : Nat) : Int)).toNat = 56 from rfl, show ((2 : Int) ^ 56) = 72057594037927936 from by kernel_rfl]
    have q1 : wrap64 (8 * ((0 + 1 : Nat) : Int)) = 8 := by kernel_rfl
    have q2 : shl .i64 1 8 = 256 := by kernel_rfl
    simp only [q1, q2]
    rw [if_pos (by omega), if_pos (by omega), if_pos (by omega)]
    simp only [Int.toNat_zero, List.getD_cons_zero]
    by_cases c : b0 ≥ 128
    · rw [if_pos c, if_pos (by decide)]
      simp only [wrap64]
      congr 1
      omega
    · rw [if_neg c]
      simp only [wrap64]
      congr 1
      omega
  | [b0, b1], _, _, hd =>
    have h_b0 := hd b0 (by simp)
    have h_b1 := hd b1 (by simp)
    clear hd
    simp only [List.foldl_cons, List.foldl_nil, List.length_cons, List.length_nil, rd]
    unfold oct_signed
    rw [show (64 - 8 * ((0 + 1 + 1 : Nat) : Int)).toNat = 48 from rfl, show ((2 : Int) ^ 48) = 281474976710656 from by kernel_rfl]
    have q1 : wrap64 (8 * ((0 + 1 + 1 : Nat) : Int)) = 16 := by kernel_rfl
    have q2 : shl .i64 1 16 = 65536 := by kernel_rfl
    simp only [q1, q2]
    rw [if_pos (by omega), if_pos (by omega), if_pos (by omega)]
    simp only [Int.toNat_zero, List.getD_cons_zero]
    by_cases c : b0 ≥ 128
    · rw [if_pos c, if_pos (by decide)]
      simp only [wrap64]
      congr 1
      omega
    · rw [if_neg c]
      simp only [wrap64]
      congr 1
      omega
  | [b0, b1, b2], _, _, hd =>
    have h_b0 := hd b0 (by simp)
    have h_b1 := hd b1 (by simp)
    have h_b2 := hd b2 (by simp)
    clear hd
    simp only [List.foldl_cons, List.foldl_nil, List.length_cons, List.length_nil, rd]
    unfold oct_signed
    rw [show (64 - 8 * ((0 + 1 + 1 + 1 : Nat) : Int)).toNat = 40 from rfl, show ((2 : Int) ^ 40) = 1099511627776 from by kernel_rfl]
    have q1 : wrap64 (8 * ((0 + 1 + 1 + 1 : Nat) : Int)) = 24 := by kernel_rfl
    have q2 : shl .i64 1 24 = 16777216 := by kernel_rfl
    simp only [q1, q2]
    rw [if_pos (by omega), if_pos (by omega), if_pos (by omega)]
    simp only [Int.toNat_zero, List.getD_cons_zero]
    by_cases c : b0 ≥ 128
    · rw [if_pos c, if_pos (by decide)]
      simp only [wrap64]
      congr 1
      omega
    · rw [if_neg c]
      simp only [wrap64]
      congr 1
      omega
  | [b0, b1, b2, b3], _, _, hd =>
    have h_b0 := hd b0 (by simp)
    have h_b1 := hd b1 (by simp)
    have h_b2 := hd b2 (by simp)
    have h_b3 := hd b3 (by simp)
    clear hd
    simp only [List.foldl_cons, List.foldl_nil, List.length_cons, List.length_nil, rd]
    unfold oct_signed
    rw [show (64 - 8 * ((0 + 1 + 1 + 1 + 1 : Nat) : Int)).toNat = 32 from rfl, show ((2 : Int) ^ 32) = 4294967296 from by kernel_rfl]
    have q1 : wrap64 (8 * ((0 + 1 + 1 + 1 + 1 : Nat) : Int)) = 32 := by kernel_rfl
    have q2 : shl .i64 1 32 = 4294967296 := by kernel_rfl
    simp only [q1, q2]
    rw [if_pos (by omega), if_pos (by omega), if_pos (by omega)]
    simp only [Int.toNat_zero, List.getD_cons_zero]
    by_cases c : b0 ≥ 128
    · rw [if_pos c, if_pos (by decide)]
      simp only [wrap64]
      congr 1
      omega
    · rw [if_neg c]
      simp only [wrap64]
      congr 1
      omega
  | [b0, b1, b2, b3, b4], _, _, hd =>
    have h_b0 := hd b0 (by simp)
    have h_b1 := hd b1 (by simp)
    have h_b2 := hd b2 (by simp)
    have h_b3 := hd b3 (by simp)
    have h_b4 := hd b4 (by simp)
    clear hd
    simp only [List.foldl_cons, List.foldl_nil, List.length_cons, List.length_nil, rd]
    unfold oct_signed
    rw [show (64 - 8 * ((0 + 1 + 1 + 1 + 1 + 1 : Nat) : Int)).toNat = 24 from rfl, show ((2 : Int) ^ 24) = 16777216 from by kernel_rfl]
    have q1 : wrap64 (8 * ((0 + 1 + 1 + 1 + 1 + 1 : Nat) : Int)) = 40 := by kernel_rfl
    have q2 : shl .i64 1 40 = 1099511627776 := by kernel_rfl
    simp only [q1, q2]
    rw [if_pos (by omega), if_pos (by omega), if_pos (by omega)]
    simp only [Int.toNat_zero, List.getD_cons_zero]
    by_cases c : b0 ≥ 128
    · rw [if_pos c, if_pos (by decide)]
      simp only [wrap64]
      congr 1
      omega
    · rw [if_neg c]
      simp only [wrap64]
      congr 1
      omega
  | [b0, b1, b2, b3, b4, b5], _, _, hd =>
    have h_b0 := hd b0 (by simp)
    have h_b1 := hd b1 (by simp)
    have h_b2 := hd b2 (by simp)
    have h_b3 := hd b3 (by simp)
    have h_b4 := hd b4 (by simp)
    have h_b5 := hd b5 (by simp)
    clear hd
    simp only [List.foldl_cons, List.foldl_nil, List.length_cons, List.length_nil, rd]
    unfold oct_signed
    rw [show (64 - 8 * ((0 + 1 + 1 + 1 + 1 + 1 + 1 : Nat) : Int)).toNat = 16 from rfl, show ((2 : Int) ^ 16) = 65536 from by kernel_rfl]
    have q1 : wrap64 (8 * ((0 + 1 + 1 + 1 + 1 + 1 + 1 : Nat) : Int)) = 48 := by kernel_rfl
    have q2 : shl .i64 1 48 = 281474976710656 := by kernel_rfl
    simp only [q1, q2]
    rw [if_pos (by omega), if_pos (by omega), if_pos (by omega)]
    simp only [Int.toNat_zero, List.getD_cons_zero]
    by_cases c : b0 ≥ 128
    · rw [if_pos c, if_pos (by decide)]
      simp only [wrap64]
      congr 1
      omega
    · rw [if_neg c]
      simp only [wrap64]
      congr 1
      omega
  | [b0, b1, b2, b3, b4, b5, b6], _, _, hd =>
    have h_b0 := hd b0 (by simp)
    have h_b1 := hd b1 (by simp)
    have h_b2 := hd b2 (by simp)
    have h_b3 := hd b3 (by simp)
    have h_b4 := hd b4 (by simp)
    have h_b5 := hd b5 (by simp)
    have h_b6 := hd b6 (by simp)
    clear hd
    simp only [List.foldl_cons, List.foldl_nil, List.length_cons, List.length_nil, rd]
    unfold oct_signed
    rw [show (64 - 8 * ((0 + 1 + 1 + 1 + 1 + 1 + 1 + 1 : Nat) : Int)).toNat = 8 from rfl, show ((2 : Int) ^ 8) = 256 from by kernel_rfl]
    have q1 : wrap64 (8 * ((0 + 1 + 1 + 1 + 1 + 1 + 1 + 1 : Nat) : Int)) = 56 := by kernel_rfl
    have q2 : shl .i64 1 56 = 72057594037927936 := by kernel_rfl
    simp only [q1, q2]
    rw [if_pos (by omega), if_pos (by omega), if_pos (by omega)]
    simp only [Int.toNat_zero, List.getD_cons_zero]
    by_cases c : b0 ≥ 128
    · rw [if_pos c, if_pos (by decide)]
      simp only [wrap64]
      congr 1
      omega
    · rw [if_neg c]
      simp only [wrap64]
      congr 1
      omega
  | [b0, b1, b2, b3, b4, b5, b6, b7], _, _, hd =>
    have h_b0 := hd b0 (by simp)
    have h_b1 := hd b1 (by simp)
    have h_b2 := hd b2 (by simp)
    have h_b3 := hd b3 (by simp)
    have h_b4 := hd b4 (by simp)
    have h_b5 := hd b5 (by simp)
    have h_b6 := hd b6 (by simp)
    have h_b7 := hd b7 (by simp)
    clear hd
    simp only [List.foldl_cons, List.foldl_nil, List.length_cons, List.length_nil, rd]
    unfold oct_signed
    rw [show (64 - 8 * ((0 + 1 + 1 + 1 + 1 + 1 + 1 + 1 + 1 : Nat) : Int)).toNat = 0 from rfl, show ((2 : Int) ^ 0) = 1 from by kernel_rfl]
    rw [if_pos (by omega), if_neg (by omega)]
    simp only [wrap64]
    congr 1
    omega
set_option maxHeartbeats 8000000 in
set_option maxRecDepth 100000 in
theorem cl_no_s {w : World} {base g : Nat} {v : Value} {bs : List Int} {at_ : Nat} {bad : Bool} (h : Rdr w base g v bs at_ bad) (k : Int) (hk : ¬ rd_ok bs at_ bad k) : Calls Try.prog 19 #[.pointer (some ⟨g, 0, none⟩), .agg #[.int .i64 k, .bool true]] w fun e w' => e = .returned (.tuple #[.int .i64 0, .bool false]) ∧ Rdr w' base g v bs at_ true ∧ ∃ wa, Below w.heap.size w wa ∧ wa.grownBy w' (some g) := by
  have hba : Below w.heap.size w (w.alloc (.cells #[.int .i64 k, .bool true] 39)) := below_alloc (Below.refl _ _) _
  have H := Aside0.mk (h.below hba)
  have HA := Aside0.mk hba
  have HK := Aside0.mk hk
  clear h hk hba
  go_enter Try.func19, Try.ntmps19
  go_wp2_with (go_at_call 23; refine (rd_Signed_no H.out k HK.out).mono ?_; rintro e w1 ⟨rfl, hR, hG⟩; have HR := Aside0.mk hR; have HG := Aside0.mk hG; clear hR hG)
  refine bodyPost_ret (results_tmp2 rfl _ _ _) rfl ?_
  exact ⟨rfl, HR.out, _, HA.out, HG.out⟩
set_option maxHeartbeats 8000000 in
set_option maxRecDepth 100000 in
theorem cl_no_n {w : World} {base g : Nat} {v : Value} {bs : List Int} {at_ : Nat} {bad : Bool} (h : Rdr w base g v bs at_ bad) (k : Int) (hk : ¬ rd_ok bs at_ bad k) : Calls Try.prog 19 #[.pointer (some ⟨g, 0, none⟩), .agg #[.int .i64 k, .bool false]] w fun e w' => e = .returned (.tuple #[.int .i64 0, .bool false]) ∧ Rdr w' base g v bs at_ true ∧ ∃ wa, Below w.heap.size w wa ∧ wa.grownBy w' (some g) := by
  have hba : Below w.heap.size w (w.alloc (.cells #[.int .i64 k, .bool false] 39)) := below_alloc (Below.refl _ _) _
  have H := Aside0.mk (h.below hba)
  have HA := Aside0.mk hba
  have HK := Aside0.mk hk
  clear h hk hba
  go_enter Try.func19, Try.ntmps19
  go_wp2_with (go_at_call 24; refine (rd_Num_no H.out k HK.out).mono ?_; rintro e w1 ⟨rfl, hR, hG⟩; have HR := Aside0.mk hR; have HG := Aside0.mk hG; clear hR hG)
  refine bodyPost_ret (results_tmp2 rfl _ _ _) rfl ?_
  exact ⟨rfl, HR.out, _, HA.out, HG.out⟩
set_option maxHeartbeats 8000000 in
set_option maxRecDepth 100000 in
theorem cl_ok_s {w : World} {base g : Nat} {v : Value} {bs : List Int} {at_ : Nat} {bad : Bool} (h : Rdr w base g v bs at_ false) (k : Int) (hk : 1 ≤ k ∧ k ≤ 8 ∧ k ≤ (bs.length : Int) - at_) : Calls Try.prog 19 #[.pointer (some ⟨g, 0, none⟩), .agg #[.int .i64 k, .bool true]] w fun e w' => e = .returned (.tuple #[.int .i64 (oct_signed (wrap64 (oct_take (oct_cut bs at_ k.toNat))) k), .bool true]) ∧ Rdr w' base g v bs (at_ + k.toNat) false ∧ ∃ wa, Below w.heap.size w wa ∧ wa.grownBy w' (some g) := by
  have hba : Below w.heap.size w (w.alloc (.cells #[.int .i64 k, .bool true] 39)) := below_alloc (Below.refl _ _) _
  have H := Aside0.mk (h.below hba)
  have HA := Aside0.mk hba
  have HK := Aside0.mk hk
  clear h hk hba
  go_enter Try.func19, Try.ntmps19
  go_wp2_with (go_at_call 23; refine (rd_Signed_ok H.out k HK.out).mono ?_; rintro e w1 ⟨rfl, hR, hG⟩; have HR := Aside0.mk hR; have HG := Aside0.mk hG; clear hR hG)
  refine bodyPost_ret (results_tmp2 rfl _ _ _) rfl ?_
  exact ⟨rfl, HR.out, _, HA.out, HG.out⟩
set_option maxHeartbeats 8000000 in
set_option maxRecDepth 100000 in
theorem cl_ok_n {w : World} {base g : Nat} {v : Value} {bs : List Int} {at_ : Nat} {bad : Bool} (h : Rdr w base g v bs at_ false) (k : Int) (hk : 1 ≤ k ∧ k ≤ 8 ∧ k ≤ (bs.length : Int) - at_) : Calls Try.prog 19 #[.pointer (some ⟨g, 0, none⟩), .agg #[.int .i64 k, .bool false]] w fun e w' => e = .returned (.tuple #[.int .i64 (wrap64 (oct_take (oct_cut bs at_ k.toNat))), .bool true]) ∧ Rdr w' base g v bs (at_ + k.toNat) false ∧ ∃ wa, Below w.heap.size w wa ∧ wa.grownBy w' (some g) := by
  have hba : Below w.heap.size w (w.alloc (.cells #[.int .i64 k, .bool false] 39)) := below_alloc (Below.refl _ _) _
  have H := Aside0.mk (h.below hba)
  have HA := Aside0.mk hba
  have HK := Aside0.mk hk
  clear h hk hba
  go_enter Try.func19, Try.ntmps19
  go_wp2_with (go_at_call 24; refine (rd_Num_ok H.out k HK.out).mono ?_; rintro e w1 ⟨rfl, hR, hG⟩; have HR := Aside0.mk hR; have HG := Aside0.mk hG; clear hR hG)
  refine bodyPost_ret (results_tmp2 rfl _ _ _) rfl ?_
  exact ⟨rfl, HR.out, _, HA.out, HG.out⟩
def kOp := Kd.pair (Kd.int .i64) Kd.bool
structure OpAt (w : World) (ad : Addr) (i : Nat) (k : Int) (sg : Bool) : Prop where
  cell : ∀ (j : Nat) v, [Value.int .i64 k, .bool sg][j]? = some v → w.cell? ((ad.add (i * 2)).add j) = some v
theorem OpAt.below {w W : World} {ad : Addr} {i : Nat} {k : Int} {sg : Bool} (h : OpAt w ad i k sg) (hb : Below w.heap.size w W) : OpAt W ad i k sg :=
  ⟨fun j v hj => (hb.cell (World.block_lt_of_cell? w _ (h.cell j v hj))).trans (h.cell j v hj)⟩
theorem op_at {w : World} {A : Option Addr} {n : Nat} {l : List (Int × Bool)} (h : Kd.C kOp w A n l) {i : Nat} (h1 : i < n) : ∃ ad k sg, A = some ad ∧ OpAt w ad i k sg := by
  obtain ⟨ad, cs, e, _, hK, hc0⟩ := Kd.C_get h (0, false) (i : Int) (by omega) (by omega)
  have hc : ∀ j u, cs[j]? = some u → w.cell? (ad.add ((i : Int).toNat * 2 + j)) = some u := hc0
  obtain ⟨_, _, rfl, rfl, rfl⟩ := hK
  exact ⟨ad, _, _, e, ⟨fun j v hj => by rw [add_add]; exact hc j v hj⟩⟩
theorem load_row {P : Program} (w : World) (a : Addr) (ty : TypeId) (cs : List Value) (d : TypeDesc) (hc : ∀ (j : Nat) v, cs[j]? = some v → w.cell? (a.add j) = some v) (hu : P.underlying ty = some d) (hd : d.isRow = true) (hi : (P.info? ty).map (·.size) = some cs.length) :
    (Instr.loadAt ty (.pointer (some a))).run P w = .ok (.agg cs.toArray) w := by
  have hl : (loadCells a cs.length).run P w = .ok cs.toArray w := run_loadCells_list (P := P) w a cs hc
  cases hq : P.info? ty with
  | none => simp [hq] at hi
  | some i =>
    have hs : i.size = cs.length := by simpa [hq] using hi
    have hagg : (isAgg ty).run P w = .ok true w := by
      unfold isAgg
      rw [Sem.run_bind, run_underlying hu w]
      cases d <;> simp_all
    simp [Instr.loadAt, Instr.sureAddr, loadVar, Sem.run_bind, hagg, sizeOf, typeInfo, hq, hs, hl]
theorem load_one {P : Program} (w : World) (a : Addr) (ty : TypeId) (v : Value) (d : TypeDesc) (hc : w.cell? a = some v) (hu : P.underlying ty = some d) (hd : d.isRow = false) : (Instr.loadAt ty (.pointer (some a))).run P w = .ok v w := by
  have hagg : (isAgg ty).run P w = .ok false w := by
    unfold isAgg
    rw [Sem.run_bind, run_underlying hu w]
    cases d <;> simp_all
  simp [Instr.loadAt, Instr.sureAddr, loadVar, Sem.run_bind, hagg, hc]
theorem idx_op {ad : Addr} {n c i : Nat} (h1 : i < n) (W : World) : (Instr.indexAt 35 (.slice (some ad) n c) (.int .i64 (i : Int))).run Try.prog W = .ok (.pointer (some (ad.add (i * 2)))) W := by
  have hu : (underlying 35).run Try.prog W = .ok (.slice 39) W := by kernel_rfl
  have hs : (sizeOf 39).run Try.prog W = .ok 2 W := by kernel_rfl
  simp [Instr.indexAt, Sem.run_bind, asIntOf, hu, hs, h1]
theorem inf5 : ∃ i, Try.prog.info? 5 = some i ∧ i.size = 1 := by
  obtain ⟨i, h, e⟩ := Option.map_eq_some_iff.1 (show (Try.prog.info? 5).map (fun i => (i.zero, i.size, i.bytes)) = some (some (.int .u8 0), 1, 1) from by kernel_rfl)
  exact ⟨i, h, by simpa using congrArg (fun x => x.2.1) e⟩
theorem cut_first {A : Option Addr} {n c : Nat} (m : Nat) (hm : m ≤ n) (hc : n ≤ c) (W : World) : (Instr.sliceAt 32 (.slice A n c) none (some (.int .i64 (m : Int))) none).run Try.prog W = .ok (.slice A m c) W := by
  obtain ⟨i, hi, _⟩ := inf5
  have hel : Try.prog.elem 32 = 5 := by simp [Program.elem, Try.underlying32]
  have h1 := run_sliceAt_slice (P := Try.prog) (w := W) 32 (.slice A n c) none (some (.int .i64 (m : Int))) none (by rw [hel]; exact Try.underlying32)
  have h2 := cut_to 32 5 .i64 Try.underlying32 hi A n c m (by omega) (by omega) hc W
  rw [Int.toNat_natCast] at h2
  exact h1.trans h2
theorem cut_in {w : World} {A : Option Addr} {c : Nat} {bs : List Int} (h : Kd.C (Kd.int .u8) w A bs.length bs) (hc : bs.length ≤ c) (p k : Nat) (hp : p + k ≤ bs.length) : ∃ A2 c2, (∀ W, (Instr.sliceAt 32 (.slice A bs.length c) (some (.int .i64 (p : Int))) (some (.int .i64 ((p + k : Nat) : Int))) none).run Try.prog W = .ok (.slice A2 (oct_cut bs p k).length c2) W) ∧ Kd.C (Kd.int .u8) w A2 (oct_cut bs p k).length (oct_cut bs p k) ∧ (oct_cut bs p k).length ≤ c2 ∧ (oct_cut bs p k).length = k := by
  obtain ⟨i, hi, hs⟩ := inf5
  have hl : (oct_cut bs p k).length = k := by unfold oct_cut; rw [List.length_take, List.length_drop]; omega
  have he : (bs.take (p + k)).drop p = oct_cut bs p k := by unfold oct_cut; rw [List.drop_take, Nat.add_sub_cancel_left]
  have hm := Kd.C_mid (c := c) h (lo := p) (hi := p + k) (by omega) hp hc
  rw [he] at hm
  refine ⟨_, c - p, fun W => ?_, hm, by omega, hl⟩
  have hel : Try.prog.elem 32 = 5 := by simp [Program.elem, Try.underlying32]
  have h1 := run_sliceAt_slice (P := Try.prog) (w := W) 32 (.slice A bs.length c) (some (.int .i64 (p : Int))) (some (.int .i64 ((p + k : Nat) : Int))) none (by rw [hel]; exact Try.underlying32)
  have h2 := cut_mid 32 5 .i64 .i64 Try.underlying32 hi 1 hs A bs.length c (p : Int) ((p + k : Nat) : Int) (by omega) (by omega) (by omega) hc W
  rw [h1, h2, hl, Int.toNat_natCast, Int.toNat_natCast, Nat.add_sub_cancel_left]
  rfl
theorem rd_or {bs : List Int} {p : Nat} {q : Bool} {k : Int} (h : q = true ∨ k < 1 ∨ 8 < k ∨ (bs.length : Int) < p + k) : ¬ rd_ok bs p q k := by
  rintro ⟨rfl, h1, h2, h3⟩
  rcases h with h | h | h | h
  · cases h
  · omega
  · omega
  · omega
theorem cl_no {w : World} {base g : Nat} {v : Value} {bs : List Int} {at_ : Nat} {bad : Bool} (h : Rdr w base g v bs at_ bad) (k : Int) (hk : ¬ rd_ok bs at_ bad k) (sg : Bool) : Calls Try.prog 19 #[.pointer (some ⟨g, 0, none⟩), .agg #[.int .i64 k, .bool sg]] w fun e w' => e = .returned (.tuple #[.int .i64 0, .bool false]) ∧ Rdr w' base g v bs at_ true ∧ ∃ wa, Below w.heap.size w wa ∧ wa.grownBy w' (some g) := by
  cases sg
  · exact cl_no_n h k hk
  · exact cl_no_s h k hk
end Go.Proofs.Ythllggfimndklac.Or
