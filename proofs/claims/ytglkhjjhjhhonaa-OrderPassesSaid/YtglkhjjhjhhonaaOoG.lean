/- The program's steps beside the plain ones. No condition beside those that each theorem names. -/
import Derived.Test.YtglkhjjhjhhonaaOoF
namespace Go.Proofs.Ytglkhjjhjhhonaa.Sr
open Go.RowKit Go.Proofs.YtglkhjjhjhhonaaM.Mach
set_option linter.unusedVariables false
set_option linter.unusedSimpArgs false
/-! The program's steps beside the plain ones. -/
def ckI (os : List S12) (k : Nat) (i : Int) : Nat := if 0 ≤ i ∧ i < 8 then (clk (os[k]!) i.toNat).toNat else 0
def agW (wl : List AC) (k : Nat) : Int := (wl[k]!).1
structure ORD (t : Nat) (X : List Asrt) (os : List S12) (wl : List AC) (fr fw : Nat → List P3) : Prop where
  len : os.length = wl.length
  agr : ∀ k, k < wl.length → (os[k]!).1 = (wl[k]!).1
  val : ∀ k, k < wl.length → 0 ≤ (wl[k]!).1 ∧ (wl[k]!).1 < 2 * (t : Int)
  rd : ∀ k, k < wl.length → rdA (slV (os[k]!).2.1) 3 encT67 (nrmF (fr k ++ ([] : List P3))) ∈ X ∧ rdA (slV (os[k]!).2.2.1) 3 encT67 (nrmF (fw k ++ ([] : List P3))) ∈ X ∧ (fr k).length ≤ 3 ∧ (fw k).length ≤ 3
  nth : ∀ k, k < wl.length → (os[k]!).2.2.2.1 = ((nthO (agW wl) k : Nat) : Int)
  nn : ∀ k, k < wl.length → ∀ i, i < 8 → 0 ≤ clk (os[k]!) i
  ck : CLK wl.length (agW wl) (Tg t wl fr fw) (ckI os)
theorem clash_cg {a1 a2 c1 c2 b1 b2 : List P3} (h1 : ∀ z, z ∈ a1 ↔ z ∈ c1) (h2 : ∀ z, z ∈ a2 ↔ z ∈ c2) : clashB a1 a2 b1 b2 = clashB c1 c2 b1 b2 := by
  unfold clashB
  refine decide_eq_decide.2 ⟨?_, ?_⟩
  · rintro (⟨x, h3, h4⟩ | ⟨x, h3, h4⟩)
    · exact .inl ⟨x, (h2 x).1 h3, h4⟩
    · exact .inr ⟨x, h3, (h1 x).1 h4⟩
  · rintro (⟨x, h3, h4⟩ | ⟨x, h3, h4⟩)
    · exact .inl ⟨x, (h2 x).2 h3, h4⟩
    · exact .inr ⟨x, h3, (h1 x).2 h4⟩
theorem tog_nrm {t : Nat} {x y : Int} {a1 a2 b1 b2 : List P3} : togF t x (nrmF (a1 ++ ([] : List P3))) (nrmF (a2 ++ ([] : List P3))) y b1 b2 = togF t x a1 a2 y b1 b2 := by
  unfold togF
  rw [clash_cg (c1 := a1) (c2 := a2) (fun z => by rw [nrm_mem, List.append_nil]) (fun z => by rw [nrm_mem, List.append_nil])]
theorem mxI_up {os : List S12} {tg : Nat → Bool} {i : Nat} : ∀ {k j : Nat}, j < k → tg j = true → clk (os[j]!) i ≤ mxI os tg i k
  | k + 1, j, hj, ht => by
    have hm : mxI os tg i k ≤ mxI os tg i (k + 1) := by
      cases h : tg k with
      | false => rw [mxI_n h]; omega
      | true => rw [mxI_y h]; split <;> omega
    by_cases h1 : j = k
    · subst h1
      rw [mxI_y ht]
      split <;> omega
    · have := mxI_up (os := os) (tg := tg) (i := i) (k := k) (j := j) (by omega) ht
      omega
theorem mxI_dn {os : List S12} {tg : Nat → Bool} {i : Nat} : ∀ k : Nat, mxI os tg i k = 0 ∨ ∃ j, j < k ∧ tg j = true ∧ mxI os tg i k = clk (os[j]!) i
  | 0 => .inl rfl
  | k + 1 => by
    cases h : tg k with
    | false =>
      rw [mxI_n h]
      rcases mxI_dn (os := os) (tg := tg) (i := i) k with h1 | ⟨j, h1, h2, h3⟩
      · exact .inl h1
      · exact .inr ⟨j, by omega, h2, h3⟩
    | true =>
      rw [mxI_y h]
      split
      · exact .inr ⟨k, by omega, h, rfl⟩
      · rcases mxI_dn (os := os) (tg := tg) (i := i) k with h1 | ⟨j, h1, h2, h3⟩
        · exact .inl h1
        · exact .inr ⟨j, by omega, h2, h3⟩
theorem mxI_nn {os : List S12} {tg : Nat → Bool} {i : Nat} : ∀ k : Nat, 0 ≤ mxI os tg i k
  | 0 => Int.le_refl 0
  | k + 1 => by
    have := mxI_nn (os := os) (tg := tg) (i := i) k
    cases h : tg k with
    | false => rw [mxI_n h]; exact this
    | true => rw [mxI_y h]; split <;> omega
theorem cnt_cg {f g : Nat → Int} {a : Int} : ∀ {n : Nat}, (∀ k, k < n → f k = g k) → cnt f a n = cnt g a n
  | 0, _ => rfl
  | n + 1, h => by
    show cnt f a n + _ = cnt g a n + _
    rw [cnt_cg (n := n) fun k hk => h k (by omega), h n (by omega)]
theorem nth_cg {f g : Nat → Int} {n : Nat} (h : ∀ k, k ≤ n → f k = g k) : nthO f n = nthO g n := by
  unfold nthO
  rw [h n (Nat.le_refl n), cnt_cg fun k hk => h k (by omega)]
theorem cntS_cnt {os : List S12} {f : Nat → Int} {a : Int} : ∀ {n : Nat}, (∀ k, k < n → (os[k]!).1 = f k) → cntS os a n = cnt f a n
  | 0, _ => rfl
  | n + 1, h => by
    show cntS os a n + _ = cnt f a n + _
    rw [cntS_cnt (n := n) fun k hk => h k (by omega), h n (by omega)]
theorem clk_cg {n : Nat} {f g : Nat → Int} {tg th : Nat → Nat → Prop} {ck cl : Nat → Int → Nat} (h : CLK n f tg ck) (h1 : ∀ k, k < n → f k = g k) (h2 : ∀ j k, j < k → k < n → (tg j k ↔ th j k)) (h3 : ∀ k, k < n → ∀ i, ck k i = cl k i) : CLK n g th cl := by
  refine ⟨fun k hk => ?_, fun k hk i hi j hj ht => ?_, fun k hk i hi => ?_⟩
  · rw [← h3 k hk, ← h1 k hk, h.own k hk]
    exact nth_cg fun j hj => h1 j (by omega)
  · rw [← h3 k hk, ← h3 j (by omega)]
    exact h.up k hk i (by rw [h1 k hk]; exact hi) j hj ((h2 j k hj hk).2 ht)
  · rcases h.dn k hk i (by rw [h1 k hk]; exact hi) with h4 | ⟨j, h4, h5, h6⟩
    · exact .inl (by rw [← h3 k hk]; exact h4)
    · exact .inr ⟨j, h4, (h2 j k h4 hk).1 h5, by rw [← h3 k hk, ← h3 j (by omega)]; exact h6⟩
def updF (f : Nat → List P3) (n : Nat) (x : List P3) (k : Nat) : List P3 := if k = n then x else f k
theorem updF_at {f : Nat → List P3} {n : Nat} {x : List P3} : updF f n x n = x := if_pos rfl
theorem updF_lt {f : Nat → List P3} {n k : Nat} {x : List P3} (h : k < n) : updF f n x k = f k := if_neg (by omega)
theorem ap_lt {α : Type} [Inhabited α] {R : List α} {x : α} {n : Nat} (h : n < R.length) : (R ++ [x])[n]! = R[n]! := by
  rw [getElem!_pos (R ++ [x]) n (by simp; omega), getElem!_pos R n h, List.getElem_append_left h]
theorem ap_at {α : Type} [Inhabited α] {R : List α} {x : α} {n : Nat} (h : n = R.length) : (R ++ [x])[n]! = x := by
  subst h
  rw [getElem!_pos (R ++ [x]) R.length (by simp)]
  simp
/-- Another step on both. -/
theorem ord_push {t : Nat} {X Y : List Asrt} {os : List S12} {wl : List AC} {fr fw : Nat → List P3} (h : ORD t X os wl fr fw) (ht4 : t ≤ 4) {x : S12} {y : AC} {a1 a2 : List P3} (hl1 : a1.length ≤ 3) (hl2 : a2.length ≤ 3) (hv : 0 ≤ y.1 ∧ y.1 < 2 * (t : Int)) (hx : NEWS os (tgN t os (fun k => nrmF (fr k ++ ([] : List P3))) (fun k => nrmF (fw k ++ ([] : List P3))) y.1 a1 a2) y.1 x) (hXY : ∀ A ∈ X, A ∈ Y)
    (hr1 : rdA (slV x.2.1) 3 encT67 (nrmF (a1 ++ ([] : List P3))) ∈ Y) (hr2 : rdA (slV x.2.2.1) 3 encT67 (nrmF (a2 ++ ([] : List P3))) ∈ Y) : ORD t Y (os ++ [x]) (wl ++ [y]) (updF fr wl.length a1) (updF fw wl.length a2) := by
  have hl := h.len
  have hw : (wl ++ [y]).length = wl.length + 1 := by simp
  have ea : ∀ k, k < wl.length → agW wl k = agW (wl ++ [y]) k := fun k hk => by
    unfold agW
    rw [ap_lt hk]
  have en : agW (wl ++ [y]) wl.length = y.1 := by
    unfold agW
    rw [ap_at rfl]
  have eo : ∀ k, k < wl.length → (os ++ [x])[k]! = os[k]! := fun k hk => ap_lt (by omega)
  have eon : (os ++ [x])[wl.length]! = x := ap_at (by omega)
  have hcs : cntS os y.1 os.length = cnt (agW (wl ++ [y])) y.1 wl.length := by
    rw [hl]
    exact cntS_cnt fun k hk => by rw [h.agr k hk, ← ea k hk]; rfl
  have hnx : x.2.2.2.1 = ((nthO (agW (wl ++ [y])) wl.length : Nat) : Int) := by
    rw [hx.nth, hcs]
    unfold nthO
    rw [en]
  have htg : ∀ j, j < wl.length → (tgN t os (fun k => nrmF (fr k ++ ([] : List P3))) (fun k => nrmF (fw k ++ ([] : List P3))) y.1 a1 a2 j = true ↔ Tg t (wl ++ [y]) (updF fr wl.length a1) (updF fw wl.length a2) j wl.length) := fun j hj => by
    show togF t (os[j]!).1 (nrmF (fr j ++ ([] : List P3))) (nrmF (fw j ++ ([] : List P3))) y.1 a1 a2 = true ↔ togF t ((wl ++ [y])[j]!).1 (updF fr wl.length a1 j) (updF fw wl.length a2 j) ((wl ++ [y])[wl.length]!).1 (updF fr wl.length a1 wl.length) (updF fw wl.length a2 wl.length) = true
    rw [tog_nrm, h.agr j hj, ap_lt hj, ap_at rfl, updF_lt hj, updF_lt hj, updF_at, updF_at]
  refine ⟨by simp [hl], fun k hk => ?_, fun k hk => ?_, fun k hk => ?_, fun k hk => ?_, fun k hk => ?_, ?_⟩
  · by_cases h1 : k < wl.length
    · rw [eo k h1, ap_lt h1]
      exact h.agr k h1
    · obtain rfl : k = wl.length := by omega
      rw [eon, ap_at rfl]
      exact hx.ag
  · by_cases h1 : k < wl.length
    · rw [ap_lt h1]
      exact h.val k h1
    · obtain rfl : k = wl.length := by omega
      rw [ap_at rfl]
      exact hv
  · by_cases h1 : k < wl.length
    · rw [eo k h1, updF_lt h1, updF_lt h1]
      obtain ⟨h2, h3, h4, h5⟩ := h.rd k h1
      exact ⟨hXY _ h2, hXY _ h3, h4, h5⟩
    · obtain rfl : k = wl.length := by omega
      rw [eon, updF_at, updF_at]
      exact ⟨hr1, hr2, hl1, hl2⟩
  · by_cases h1 : k < wl.length
    · rw [eo k h1, h.nth k h1, nth_cg (f := agW wl) (g := agW (wl ++ [y])) fun j hj => ea j (by omega)]
    · obtain rfl : k = wl.length := by omega
      rw [eon]
      exact hnx
  · intro i hi
    by_cases h1 : k < wl.length
    · rw [eo k h1]
      exact h.nn k h1 i hi
    · obtain rfl : k = wl.length := by omega
      rw [eon, hx.ck i hi]
      split
      · omega
      · exact mxI_nn _
  · rw [hw]
    have h0 : CLK wl.length (agW (wl ++ [y])) (Tg t (wl ++ [y]) (updF fr wl.length a1) (updF fw wl.length a2)) (ckI (os ++ [x])) := by
      refine clk_cg h.ck ea (fun j k hjk hk => ?_) fun k hk i => ?_
      · show togF t (wl[j]!).1 (fr j) (fw j) (wl[k]!).1 (fr k) (fw k) = true ↔ togF t ((wl ++ [y])[j]!).1 (updF fr wl.length a1 j) (updF fw wl.length a2 j) ((wl ++ [y])[k]!).1 (updF fr wl.length a1 k) (updF fw wl.length a2 k) = true
        rw [ap_lt hk, ap_lt (show j < wl.length by omega), updF_lt hk, updF_lt hk, updF_lt (show j < wl.length by omega), updF_lt (show j < wl.length by omega)]
      · unfold ckI
        rw [eo k hk]
    have ha8 : 0 ≤ y.1 ∧ y.1 < 8 := by omega
    refine clk_more h0 ?_ (fun i hi j hj htj => ?_) fun i hi => ?_
    · rw [en]
      unfold ckI
      rw [if_pos ha8, eon, hx.ck _ (by omega), if_pos (by omega), hcs]
      unfold nthO
      rw [en]
      omega
    · rw [en] at hi
      unfold ckI
      by_cases h8 : 0 ≤ i ∧ i < 8
      · rw [if_pos h8, if_pos h8, eo j hj, eon, hx.ck _ (by omega), if_neg (by omega)]
        have := mxI_up (os := os) (i := i.toNat) (show j < os.length by omega) ((htg j hj).2 htj)
        omega
      · rw [if_neg h8, if_neg h8]
        exact Nat.le_refl _
    · rw [en] at hi
      unfold ckI
      by_cases h8 : 0 ≤ i ∧ i < 8
      · rw [if_pos h8, eon, hx.ck _ (by omega), if_neg (by omega)]
        rcases mxI_dn (os := os) (tg := tgN t os (fun k => nrmF (fr k ++ ([] : List P3))) (fun k => nrmF (fw k ++ ([] : List P3))) y.1 a1 a2) (i := i.toNat) os.length with h1 | ⟨j, h1, h2, h3⟩
        · exact .inl (by rw [h1]; rfl)
        · exact .inr ⟨j, by omega, (htg j (by omega)).1 h2, by rw [if_pos h8, eo j (by omega), h3]⟩
      · exact .inl (if_neg h8)
theorem ord_nil (t : Nat) (X : List Asrt) (fr fw : Nat → List P3) : ORD t X [] [] fr fw where
  len := rfl
  agr := fun k hk => absurd hk (Nat.not_lt_zero k)
  val := fun k hk => absurd hk (Nat.not_lt_zero k)
  rd := fun k hk => absurd hk (Nat.not_lt_zero k)
  nth := fun k hk => absurd hk (Nat.not_lt_zero k)
  nn := fun k hk => absurd hk (Nat.not_lt_zero k)
  ck := ⟨fun k hk => absurd hk (Nat.not_lt_zero k), fun k hk => absurd hk (Nat.not_lt_zero k), fun k hk => absurd hk (Nat.not_lt_zero k)⟩
theorem same_tog {t : Nat} {x : Int} {a1 a2 b1 b2 : List P3} (h : 0 ≤ x ∧ x < 2 * (t : Int)) : togF t x a1 a2 x b1 b2 = true := by
  have h1 := th_nn h
  unfold togF
  rw [decide_eq_true ⟨by omega, rfl⟩, Bool.true_or]

theorem lstC_spec {os : List S12} {a : Int} : ∀ n : Nat, (lstC os a n = zero12 ∧ ∀ j, j < n → (os[j]!).1 ≠ a) ∨ ∃ L, L < n ∧ lstC os a n = os[L]! ∧ (os[L]!).1 = a ∧ ∀ j, j < n → (os[j]!).1 = a → j ≤ L
  | 0 => .inl ⟨rfl, fun j hj => absurd hj (Nat.not_lt_zero j)⟩
  | n + 1 => by
    by_cases h : (os[n]!).1 = a
    · exact .inr ⟨n, Nat.lt_succ_self n, lstC_y h, h, fun j hj _ => by omega⟩
    · rw [lstC_n h]
      rcases lstC_spec (os := os) (a := a) n with ⟨h1, h2⟩ | ⟨L, h1, h2, h3, h4⟩
      · refine .inl ⟨h1, fun j hj => ?_⟩
        by_cases hjn : j = n
        · subst hjn
          exact h
        · exact h2 j (by omega)
      · refine .inr ⟨L, by omega, h2, h3, fun j hj hja => ?_⟩
        by_cases hjn : j = n
        · subst hjn
          exact absurd hja h
        · exact h4 j (by omega) hja
/-- What the program tells of Ahead is what the plain steps tell. -/
theorem ahd_iff {t : Nat} {X : List Asrt} {os : List S12} {wl : List AC} {fr fw : Nat → List P3} (h : ORD t X os wl fr fw) (ht4 : t ≤ 4) {n : Nat} (hn : n < wl.length) (a : Int) : ahdB os n a = true ↔ Ahd wl.length (agW wl) (Tg t wl fr fw) n a := by
  have hl := h.len
  have hs : ∀ j k, j < k → k < wl.length → agW wl j = agW wl k → Tg t wl fr fw j k := fun j k hjk hk he => by
    show togF t (wl[j]!).1 (fr j) (fw j) (wl[k]!).1 (fr k) (fw k) = true
    have he' : (wl[j]!).1 = (wl[k]!).1 := he
    rw [he']
    exact same_tog (h.val k hk)
  have hv := h.val n hn
  have hag : (os[n]!).1 = agW wl n := h.agr n hn
  have hv' : 0 ≤ agW wl n ∧ agW wl n < 2 * (t : Int) := hv
  unfold ahdB
  rw [decide_eq_true_iff, h.nth n hn, hl, hag]
  rcases lstC_spec (os := os) (a := a) wl.length with ⟨h1, h2⟩ | ⟨L, h1, h2, h3, h4⟩
  · rw [h1]
    have h5 : clk zero12 (agW wl n).toNat = 0 := by
      unfold clk zero12
      split <;> rfl
    rw [h5]
    constructor
    · intro h6
      unfold nthO at h6
      omega
    · intro h6
      exact absurd h6 (ahd_none fun j hj he => h2 j hj ((h.agr j hj).trans he))
  · have hL : agW wl L = a := (h.agr L h1).symm.trans h3
    rw [h2, ahd_last hs h1 hL (fun j hj he => h4 j hj ((h.agr j hj).trans he)), clk_iff h.ck hs hn h1]
    have h6 : ckI os L (agW wl n) = (clk (os[L]!) (agW wl n).toNat).toNat := by
      unfold ckI
      rw [if_pos (by omega)]
    have h7 := h.nn L h1 (agW wl n).toNat (by omega)
    rw [h6]
    omega
end Go.Proofs.Ytglkhjjhjhhonaa.Sr
