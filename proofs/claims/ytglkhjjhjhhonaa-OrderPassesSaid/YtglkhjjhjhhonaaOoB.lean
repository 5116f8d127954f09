/- The closure: Before. No condition beside those that each theorem names. -/
import Derived.Test.YtglkhjjhjhhonaaOoP
namespace Go.Proofs.Ytglkhjjhjhhonaa.Sr
open Go.RowKit Go.Proofs.YtglkhjjhjhhonaaM.Mach
set_option linter.unusedVariables false
set_option linter.unusedSimpArgs false
def encT32 (x : Int × (Option Addr × Nat × Nat) × (Option Addr × Nat × Nat)) : List Value := [.int .i64 x.1, .slice x.2.1.1 x.2.1.2.1 x.2.1.2.2, .slice x.2.2.1 x.2.2.2.1 x.2.2.2.2]
theorem encT32_len (x : Int × (Option Addr × Nat × Nat) × (Option Addr × Nat × Nat)) : (encT32 x).length = 3 := rfl
abbrev SL := Option Addr × Nat × Nat
abbrev AC := Int × SL × SL
def slV (s : SL) : Value := .slice s.1 s.2.1 s.2.2
theorem rdlen {α : Type} {W : World} {A : Option Addr} {n c sz : Nat} {enc : α → List Value} {l : List α} (h : Rd W (.slice A n c) sz enc l) : n = l.length := by
  obtain ⟨A', c', e, _⟩ := h
  cases e
  rfl
/-- Steps as they are read: the agents, and what each reads and writes. -/
structure RDS (w : World) (A : Option Addr) (c : Nat) (l : List AC) (fr fw : Nat → List P3) : Prop where
  row : Rd w (.slice A l.length c) 3 encT32 l
  len : l.length ≤ 100
  r : ∀ k, k < l.length → Rd w (slV (l[k]!).2.1) 3 encT67 (fr k) ∧ (fr k).length ≤ 1000
  w' : ∀ k, k < l.length → Rd w (slV (l[k]!).2.2) 3 encT67 (fw k) ∧ (fw k).length ≤ 1000
theorem RDS.below {w W : World} {A : Option Addr} {c : Nat} {l : List AC} {fr fw : Nat → List P3} (h : RDS w A c l fr fw) (hb : Below w.heap.size w W) : RDS W A c l fr fw :=
  ⟨h.row.below hb, h.len, fun k hk => ⟨(h.r k hk).1.below hb, (h.r k hk).2⟩, fun k hk => ⟨(h.w' k hk).1.below hb, (h.w' k hk).2⟩⟩
def tgB (t : Nat) (l : List AC) (fr fw : Nat → List P3) (i k : Nat) : Bool := togF t (l[i]!).1 (fr i) (fw i) (l[k]!).1 (fr k) (fw k)
theorem rtog_v {w : World} {t : Nat} (ht : t ≤ 4) {A : Option Addr} {c : Nat} {l : List AC} {fr fw : Nat → List P3} (h : RDS w A c l fr fw) {i k : Nat} (hi : i < l.length) (hk : k < l.length) {b : Bool} (hb : tgB t l fr fw i k = b) : Calls Try.prog 30 #[.int .i64 ((t : Nat) : Int), .agg #[.int .i64 (l[i]!).1, .slice (l[i]!).2.1.1 (l[i]!).2.1.2.1 (l[i]!).2.1.2.2, .slice (l[i]!).2.2.1 (l[i]!).2.2.2.1 (l[i]!).2.2.2.2], .agg #[.int .i64 (l[k]!).1, .slice (l[k]!).2.1.1 (l[k]!).2.1.2.1 (l[k]!).2.1.2.2, .slice (l[k]!).2.2.1 (l[k]!).2.2.2.1 (l[k]!).2.2.2.2]] w fun e w' => e = .returned (.bool b) ∧ Below w.heap.size w w' := by
  subst hb
  have h1 := (h.r i hi).1
  have h2 := (h.w' i hi).1
  have h3 := (h.r k hk).1
  have h4 := (h.w' k hk).1
  unfold slV at h1 h2 h3 h4
  have e1 := rdlen h1
  have e2 := rdlen h2
  have e3 := rdlen h3
  have e4 := rdlen h4
  rw [e1] at h1
  rw [e2] at h2
  rw [e3] at h3
  rw [e4] at h4
  have key := rtog_is ht (l[i]!).1 (l[k]!).1 h1 (h.r i hi).2 h2 (h.w' i hi).2 h3 (h.r k hk).2 h4 (h.w' k hk).2
  rw [← e1, ← e2, ← e3, ← e4] at key
  exact key
/-- The closure, reckoned. -/
def bfB (tg : Nat → Nat → Bool) (j : Nat) : Nat → Nat → Bool
  | 0, i => i == j
  | d + 1, i => i == j || (List.range (j + 1)).any fun m => decide (i < m) && (tg i m && bfB tg j d m)
theorem bfB_iff {tg : Nat → Nat → Bool} {j : Nat} : ∀ (d i : Nat), i ≤ j → j - i ≤ d → (bfB tg j d i = true ↔ Bf (fun a b => tg a b = true) i j)
  | 0, i, h1, h2 => by
    have e : i = j := by omega
    subst e
    simp [bfB]
    exact .refl i
  | d + 1, i, h1, h2 => by
    unfold bfB
    rw [Bool.or_eq_true, List.any_eq_true]
    constructor
    · rintro (h | ⟨m, hm, h⟩)
      · have e : i = j := by simpa using h
        subst e
        exact .refl i
      · simp only [Bool.and_eq_true, decide_eq_true_eq] at h
        rw [List.mem_range] at hm
        exact .step h.1 h.2.1 ((bfB_iff d m (by omega) (by omega)).1 h.2.2)
    · intro h
      cases h with
      | refl => exact .inl (by simp)
      | @step _ m _ h3 h4 h5 =>
        have := h5.le
        exact .inr ⟨m, List.mem_range.2 (by omega), by simp only [Bool.and_eq_true, decide_eq_true_eq]; exact ⟨h3, h4, (bfB_iff d m (by omega) (by omega)).2 h5⟩⟩
def bfV (t : Nat) (l : List AC) (fr fw : Nat → List P3) (i j : Nat) : Bool := bfB (tgB t l fr fw) j (j - i) i
abbrev Tg (t : Nat) (l : List AC) (fr fw : Nat → List P3) : Nat → Nat → Prop := fun a b => tgB t l fr fw a b = true
theorem bfV_iff {t : Nat} {l : List AC} {fr fw : Nat → List P3} {i j : Nat} (h : i ≤ j) : bfV t l fr fw i j = true ↔ Bf (Tg t l fr fw) i j := bfB_iff (j - i) i h (Nat.le_refl _)
theorem bfV_self {t : Nat} {l : List AC} {fr fw : Nat → List P3} {i : Nat} : bfV t l fr fw i i = true := (bfV_iff (Nat.le_refl i)).2 (.refl i)
theorem bfV_y {t : Nat} {l : List AC} {fr fw : Nat → List P3} {i m j : Nat} (h1 : i < m) (h2 : m ≤ j) (h3 : tgB t l fr fw i m = true) (h4 : bfV t l fr fw m j = true) : bfV t l fr fw i j = true := (bfV_iff (by omega)).2 (.step h1 h3 ((bfV_iff h2).1 h4))
theorem bfV_n {t : Nat} {l : List AC} {fr fw : Nat → List P3} {i j : Nat} (h0 : i < j) (h : ∀ m, i < m → m ≤ j → ¬ (tgB t l fr fw i m = true ∧ bfV t l fr fw m j = true)) : bfV t l fr fw i j = false := by
  cases hb : bfV t l fr fw i j with
  | false => rfl
  | true =>
    exfalso
    have := (bfV_iff (by omega)).1 hb
    cases this with
    | refl => omega
    | @step _ m _ h3 h4 h5 => exact h m h3 h5.le ⟨h4, (bfV_iff h5.le).2 h5⟩
theorem bef_v {w : World} {b b2 : Bool} {args : Array Value} (hb : b = b2) (h : Calls Try.prog 13 args w fun e W => e = .returned (.bool b) ∧ Below w.heap.size w W) : Calls Try.prog 13 args w fun e W => e = .returned (.bool b2) ∧ Below w.heap.size w W := by
  subst hb
  exact h
def be_l0 (t : Nat) (A : Option Addr) (c : Nat) (l : List AC) (i : Nat) (j : Nat) : List Value := [.int .i64 ((t : Nat) : Int), .slice A l.length c, .int .i64 ((i : Nat) : Int), .int .i64 ((j : Nat) : Int), zz, zz, zz, zz, .bool false, zz, zz, zz, zz, zz, zz, zz]
def be_l1 : List Value := [zz, zz, zz, zz, zz, zz, zz, zz, zz, zz, zz, zz, zz, zz, zz, zz]
def be_l2 : List Value := [zz, zz, zz, zz, zz]
def be_b3 (t : Nat) (A : Option Addr) (c : Nat) (l : List AC) (i : Nat) (j : Nat) : List Value := (be_l0 t A c l i j) ++ (be_l1 ++ (be_l2))
def be_l4 (t : Nat) (A : Option Addr) (c : Nat) (l : List AC) (i : Nat) (j : Nat) (z4 : Nat → Value) (m : Nat) : List Value := [.int .i64 ((t : Nat) : Int), .slice A l.length c, .int .i64 ((i : Nat) : Int), .int .i64 ((j : Nat) : Int), zz, zz, zz, zz, z4 8, .int .i64 ((m : Nat) : Int), .int .i64 ((i : Nat) : Int), .int .i64 ((j : Nat) : Int), .bool false, .int .i64 ((i : Nat) : Int), .int .i64 ((i + 1 : Nat) : Int), z4 15]
def be_l5 (z4 : Nat → Value) : List Value := [z4 16, z4 17, z4 18, z4 19, z4 20, z4 21, z4 22, z4 23, z4 24, z4 25, z4 26, z4 27, z4 28, z4 29, z4 30, z4 31]
def be_l6 (z4 : Nat → Value) : List Value := [z4 32, z4 33, z4 34, z4 35, z4 36]
def be_b7 (t : Nat) (A : Option Addr) (c : Nat) (l : List AC) (i : Nat) (j : Nat) (z4 : Nat → Value) (m : Nat) : List Value := (be_l4 t A c l i j z4 m) ++ ((be_l5 z4) ++ ((be_l6 z4)))
abbrev be_4X := (Nat → Value) × Nat
def be_4s (t : Nat) (A : Option Addr) (c : Nat) (l : List AC) (fr : Nat → List P3) (fw : Nat → List P3) (i : Nat) (j : Nat) (x : be_4X) : List Value × List Blk := ((be_b7 t A c l i j (x.1) (x.2)), [])
def be_4k (t : Nat) (A : Option Addr) (c : Nat) (l : List AC) (fr : Nat → List P3) (fw : Nat → List P3) (i : Nat) (j : Nat) (x : be_4X) : Prop := i < (x.2) ∧ (x.2) ≤ j + 1 ∧ ∀ k, i < k → k < (x.2) → ¬ (tgB t l fr fw i k = true ∧ bfV t l fr fw k j = true)
def be_4m (t : Nat) (A : Option Addr) (c : Nat) (l : List AC) (fr : Nat → List P3) (fw : Nat → List P3) (i : Nat) (j : Nat) (x : be_4X) : Nat := j + 1 - (x.2)
def be_4F (t : Nat) (A : Option Addr) (c : Nat) (l : List AC) (fr : Nat → List P3) (fw : Nat → List P3) (i : Nat) (j : Nat) (w : World) (x : be_4X) : List Asrt := [old w]
abbrev be_4I (t : Nat) (A : Option Addr) (c : Nat) (l : List AC) (fr : Nat → List P3) (fw : Nat → List P3) (i : Nat) (j : Nat) (w : World) (x : be_4X) : Act → World → Prop := Inv (be_4s t A c l fr fw i j) (be_4F t A c l fr fw i j w) (be_4k t A c l fr fw i j) (be_4m t A c l fr fw i j) x
def be_l14 (t : Nat) (A : Option Addr) (c : Nat) (l : List AC) (i : Nat) (j : Nat) : List Value := [.int .i64 ((t : Nat) : Int), .slice A l.length c, .int .i64 ((i : Nat) : Int), .int .i64 ((j : Nat) : Int), zz, zz, zz, zz, .bool false, .int .i64 ((i + 1 : Nat) : Int), .int .i64 ((i : Nat) : Int), .int .i64 ((j : Nat) : Int), .bool false, .int .i64 ((i : Nat) : Int), .int .i64 ((i + 1 : Nat) : Int), zz]
def be_b15 (t : Nat) (A : Option Addr) (c : Nat) (l : List AC) (i : Nat) (j : Nat) : List Value := (be_l14 t A c l i j) ++ (be_l1 ++ (be_l2))
def be_l16 (t : Nat) (A : Option Addr) (c : Nat) (l : List AC) (i : Nat) (j : Nat) (z4 : Nat → Value) (m : Nat) : List Value := [.int .i64 ((t : Nat) : Int), .slice A l.length c, .int .i64 ((i : Nat) : Int), .int .i64 ((j : Nat) : Int), zz, zz, zz, zz, z4 8, .int .i64 ((m : Nat) : Int), .int .i64 ((i : Nat) : Int), .int .i64 ((j : Nat) : Int), .bool false, .int .i64 ((i : Nat) : Int), .int .i64 ((i + 1 : Nat) : Int), .int .i64 ((m : Nat) : Int)]
def be_l17 (t : Nat) (A : Option Addr) (c : Nat) (l : List AC) (i : Nat) (j : Nat) (z4 : Nat → Value) (m : Nat) (B6 : Nat) (o7 : Nat) : List Value := [.int .i64 ((j : Nat) : Int), .bool true, z4 18, z4 19, .int .i64 ((t : Nat) : Int), .slice A l.length c, .int .i64 ((i : Nat) : Int), .pointer (some ⟨B6, o7 + i * 3, none⟩), .agg #[.int .i64 ((l[i]!).1), .slice ((l[i]!).2.1.1) ((l[i]!).2.1.2.1) ((l[i]!).2.1.2.2), .slice ((l[i]!).2.2.1) ((l[i]!).2.2.2.1) ((l[i]!).2.2.2.2)], .slice A l.length c, .int .i64 ((m : Nat) : Int), .pointer (some ⟨B6, o7 + m * 3, none⟩), .agg #[.int .i64 ((l[m]!).1), .slice ((l[m]!).2.1.1) ((l[m]!).2.1.2.1) ((l[m]!).2.1.2.2), .slice ((l[m]!).2.2.1) ((l[m]!).2.2.2.1) ((l[m]!).2.2.2.2)], .bool true, .bool true, .int .i64 ((t : Nat) : Int)]
def be_l18 (A : Option Addr) (c : Nat) (l : List AC) (j : Nat) (m : Nat) : List Value := [.slice A l.length c, .int .i64 ((m : Nat) : Int), .int .i64 ((j : Nat) : Int), .bool true, .bool true]
def be_b19 (t : Nat) (A : Option Addr) (c : Nat) (l : List AC) (i : Nat) (j : Nat) (z4 : Nat → Value) (m : Nat) (B6 : Nat) (o7 : Nat) : List Value := (be_l16 t A c l i j z4 m) ++ ((be_l17 t A c l i j z4 m B6 o7) ++ ((be_l18 A c l j m)))
def be_l20 (t : Nat) (A : Option Addr) (c : Nat) (l : List AC) (i : Nat) (j : Nat) (z4 : Nat → Value) (m : Nat) (B9 : Nat) (o10 : Nat) : List Value := [.int .i64 ((j : Nat) : Int), .bool true, z4 18, z4 19, .int .i64 ((t : Nat) : Int), .slice A l.length c, .int .i64 ((i : Nat) : Int), .pointer (some ⟨B9, o10 + i * 3, none⟩), .agg #[.int .i64 ((l[i]!).1), .slice ((l[i]!).2.1.1) ((l[i]!).2.1.2.1) ((l[i]!).2.1.2.2), .slice ((l[i]!).2.2.1) ((l[i]!).2.2.2.1) ((l[i]!).2.2.2.2)], .slice A l.length c, .int .i64 ((m : Nat) : Int), .pointer (some ⟨B9, o10 + m * 3, none⟩), .agg #[.int .i64 ((l[m]!).1), .slice ((l[m]!).2.1.1) ((l[m]!).2.1.2.1) ((l[m]!).2.1.2.2), .slice ((l[m]!).2.2.1) ((l[m]!).2.2.2.1) ((l[m]!).2.2.2.2)], .bool true, .bool true, .int .i64 ((t : Nat) : Int)]
def be_l21 (A : Option Addr) (c : Nat) (l : List AC) (j : Nat) (m : Nat) : List Value := [.slice A l.length c, .int .i64 ((m : Nat) : Int), .int .i64 ((j : Nat) : Int), .bool false, .bool false]
def be_b22 (t : Nat) (A : Option Addr) (c : Nat) (l : List AC) (i : Nat) (j : Nat) (z4 : Nat → Value) (m : Nat) (B9 : Nat) (o10 : Nat) : List Value := (be_l16 t A c l i j z4 m) ++ ((be_l20 t A c l i j z4 m B9 o10) ++ ((be_l21 A c l j m)))
def be_l23 (t : Nat) (A : Option Addr) (c : Nat) (l : List AC) (i : Nat) (j : Nat) (z4 : Nat → Value) (m : Nat) (B12 : Nat) (o13 : Nat) : List Value := [.int .i64 ((j : Nat) : Int), .bool true, z4 18, z4 19, .int .i64 ((t : Nat) : Int), .slice A l.length c, .int .i64 ((i : Nat) : Int), .pointer (some ⟨B12, o13 + i * 3, none⟩), .agg #[.int .i64 ((l[i]!).1), .slice ((l[i]!).2.1.1) ((l[i]!).2.1.2.1) ((l[i]!).2.1.2.2), .slice ((l[i]!).2.2.1) ((l[i]!).2.2.2.1) ((l[i]!).2.2.2.2)], .slice A l.length c, .int .i64 ((m : Nat) : Int), .pointer (some ⟨B12, o13 + m * 3, none⟩), .agg #[.int .i64 ((l[m]!).1), .slice ((l[m]!).2.1.1) ((l[m]!).2.1.2.1) ((l[m]!).2.1.2.2), .slice ((l[m]!).2.2.1) ((l[m]!).2.2.2.1) ((l[m]!).2.2.2.2)], .bool false, .bool false, zz]
def be_l24 : List Value := [zz, zz, zz, zz, .bool false]
def be_b25 (t : Nat) (A : Option Addr) (c : Nat) (l : List AC) (i : Nat) (j : Nat) (z4 : Nat → Value) (m : Nat) (B12 : Nat) (o13 : Nat) : List Value := (be_l16 t A c l i j z4 m) ++ ((be_l23 t A c l i j z4 m B12 o13) ++ (be_l24))
set_option maxHeartbeats 8000000 in
set_option maxRecDepth 100000 in
theorem before_st {w : World} {t : Nat} (ht : t ≤ 4) {A : Option Addr} {c : Nat} {l : List AC} {fr fw : Nat → List P3} {j : Nat} (hj : j < l.length) {i : Nat} (hij : i ≤ j) (ih : ∀ m, i < m → m ≤ j → ∀ w, RDS w A c l fr fw → Calls Try.prog 13 #[.int .i64 ((t : Nat) : Int), .slice A l.length c, .int .i64 ((m : Nat) : Int), .int .i64 ((j : Nat) : Int)] w fun e W => e = .returned (.bool (bfV t l fr fw m j)) ∧ Below w.heap.size w W) (hR : RDS w A c l fr fw) : Calls Try.prog 13 #[.int .i64 ((t : Nat) : Int), .slice A l.length c, .int .i64 ((i : Nat) : Int), .int .i64 ((j : Nat) : Int)] w fun e w' => e = .returned (.bool (bfV t l fr fw i j)) ∧ Below w.heap.size w w' := by
  have hl9 := hR.len
  refine enter (args := [.int .i64 ((t : Nat) : Int), .slice A l.length c, .int .i64 ((i : Nat) : Int), .int .i64 ((j : Nat) : Int)]) (fn := Try.f13) rfl (c := bdy Try.f13) (by kernel_rfl) ?_
  refine ck 1 [] [] fun γ1 => ⟨⟨kt (bdy Try.f13) [1, 0, 0, 0] [], (be_b3 t A c l i j), []⟩, [], [], by kernel_rfl, .nil, ?_⟩
  by_cases hij2 : i = j
  · skip
    have hres : bfV t l fr fw i j = true := by rw [show i = j by omega]; exact bfV_self
    refine ck 4 [] [(2, .bool true)] fun γ2 => ⟨⟨kt (bdy Try.f13) [1, 0, 1, 0, 1] [], upv (be_b3 t A c l i j) [(8, .bool true), (10, .int .i64 ((i : Nat) : Int)), (11, .int .i64 ((j : Nat) : Int)), (12, .bool true)], []⟩, [], [Value.bool ((((i : Nat) : Int) : Int) == ((j : Nat) : Int)) = .bool true], by kernel_rfl, (.cons (cbE (by omega)) .nil), ?_⟩
    rw [hres]
    refine rt (.bool true) [] [] (fun W hW => ?_)
    exact ⟨rfl, (hW.old 0 rfl)⟩
  · skip
    refine ck 6 [] [(2, .bool false), (4, .int .i64 ((i + 1 : Nat) : Int))] fun γ3 => ⟨⟨kt (bdy Try.f13) [1, 1, 0, 1, 0] [], upv (be_b3 t A c l i j) [(9, .int .i64 ((i + 1 : Nat) : Int)), (10, .int .i64 ((i : Nat) : Int)), (11, .int .i64 ((j : Nat) : Int)), (12, .bool false), (13, .int .i64 ((i : Nat) : Int)), (14, .int .i64 ((i + 1 : Nat) : Int))], []⟩, [], [Value.bool ((((i : Nat) : Int) : Int) == ((j : Nat) : Int)) = .bool false, Value.int .i64 (IntKind.wrap .i64 (((i : Nat) : Int) + 1)) = .int .i64 ((i + 1 : Nat) : Int)], by kernel_rfl, (.cons (cbN (by omega)) (.cons (congrArg (Value.int .i64) (by rw [IntKind.wrap_i64]; omega)) .nil)), ?_⟩
    refine lp (be_4s t A c l fr fw i j) (be_4F t A c l fr fw i j w) (be_4k t A c l fr fw i j) (be_4m t A c l fr fw i j) ((fun mm => ((be_b15 t A c l i j)).getD mm zz, (i + 1))) (kt (bdy Try.f13) [1, 1, 0, 1, 0] []) ⟨Nat.lt_succ_self i, by omega, fun k h1 h2 => absurd h2 (by omega)⟩ rfl ?_
    rintro ⟨z4, m⟩ hok
    obtain ⟨hmi, hmj, hall⟩ : i < m ∧ m ≤ j + 1 ∧ ∀ k, i < k → k < m → ¬ (tgB t l fr fw i k = true ∧ bfV t l fr fw k j = true) := hok
    refine st1 (ktl [] (be_4I t A c l fr fw i j w (z4, m)) (kt (bdy Try.f13) [1, 1, 0, 1, 0] [])) ((be_b7 t A c l i j z4 m)) [] ?_
    by_cases hmj2 : m ≤ j
    · skip
      refine ck 3 [] [(2, .bool true)] fun γ5 => ⟨⟨ktl [1, 0, 0, 0] (be_4I t A c l fr fw i j w (z4, m)) (kt (bdy Try.f13) [1, 1, 0, 1, 0] []), upv (be_b7 t A c l i j z4 m) [(15, .int .i64 ((m : Nat) : Int)), (16, .int .i64 ((j : Nat) : Int)), (17, .bool true)], []⟩, [], [Value.bool (decide ((((m : Nat) : Int) : Int) ≤ ((j : Nat) : Int))) = .bool true], by kernel_rfl, (.cons (cbT (by omega)) .nil), ?_⟩
      have hq : (tgB t l fr fw i m = true ∧ bfV t l fr fw m j = true) ∨ (tgB t l fr fw i m = true ∧ bfV t l fr fw m j = false) ∨ tgB t l fr fw i m = false := by
        cases h1 : tgB t l fr fw i m <;> cases h2 : bfV t l fr fw m j <;> simp
      rcases hq with ⟨ht1, hb1⟩ | ⟨ht1, hb1⟩ | ht1
      · skip
        have hres := bfV_y hmi hmj2 ht1 hb1
        obtain ⟨B6, o7, hAe, hat⟩ := hR.row.at (i := i) (by omega)
        refine dr [] [] .nil ?_
        refine df [0, 1, 2, 5, 6] [] [] [] [] .nil ?_
        refine dixr 3 (n := l.length) (sz := 3) (j := ((i : Nat) : Int)) hAe i (by omega) ?_
        refine dldr 4 (n := 3) (row := true) [.int .i64 ((l[i]!).1), .slice ((l[i]!).2.1.1) ((l[i]!).2.1.2.1) ((l[i]!).2.1.2.2), .slice ((l[i]!).2.2.1) ((l[i]!).2.2.2.1) ((l[i]!).2.2.2.2)] (fun W hW => (hat.below (hW.old 0 rfl)).ld (i := i) (by omega) 0 [.int .i64 ((l[i]!).1), .slice ((l[i]!).2.1.1) ((l[i]!).2.1.2.1) ((l[i]!).2.1.2.2), .slice ((l[i]!).2.2.1) ((l[i]!).2.2.2.1) ((l[i]!).2.2.2.2)] rfl) ?_
        refine dixr 7 (n := l.length) (sz := 3) (j := ((m : Nat) : Int)) hAe m (by omega) ?_
        refine dldr 8 (n := 3) (row := true) [.int .i64 ((l[m]!).1), .slice ((l[m]!).2.1.1) ((l[m]!).2.1.2.1) ((l[m]!).2.1.2.2), .slice ((l[m]!).2.2.1) ((l[m]!).2.2.2.1) ((l[m]!).2.2.2.2)] (fun W hW => (hat.below (hW.old 0 rfl)).ld (i := m) (by omega) 0 [.int .i64 ((l[m]!).1), .slice ((l[m]!).2.1.1) ((l[m]!).2.1.2.1) ((l[m]!).2.1.2.2), .slice ((l[m]!).2.2.1) ((l[m]!).2.2.2.1) ((l[m]!).2.2.2.2)] rfl) ?_
        refine dp 9 (fun W hW => rtog_v (i := i) (k := m) ht (hR.below (hW.old 0 rfl)) (by omega) (by omega) ht1) ?_
        refine df [10, 11, 12, 13, 14] [] [] [] [] .nil ?_
        refine dp 15 (fun W hW => bef_v hb1 (ih m hmi (by omega) W (hR.below (hW.old 0 rfl)))) ?_
        refine df [16] [] [] [] [] .nil ?_
        refine de (fs := (ktl [1, 0, 0, 0] (be_4I t A c l fr fw i j w (z4, m)) (kt (bdy Try.f13) [1, 1, 0, 1, 0] [])).tail) ?_
        refine st0 (fs := (ktl [1, 0, 0, 0] (be_4I t A c l fr fw i j w (z4, m)) (kt (bdy Try.f13) [1, 1, 0, 1, 0] [])).tail) ((be_b19 t A c l i j z4 m B6 o7)) [] ?_
        refine ck 1 [] [] fun γ8 => ⟨⟨ktl [1, 0, 0, 1, 0, 1] (be_4I t A c l fr fw i j w (z4, m)) (kt (bdy Try.f13) [1, 1, 0, 1, 0] []), upv (be_b19 t A c l i j z4 m B6 o7) [(8, .bool true)], []⟩, [], [], by kernel_rfl, .nil, ?_⟩
        rw [hres]
        refine rt (.bool true) [] [] (fun W hW => ?_)
        exact ⟨rfl, (hW.old 0 rfl)⟩
      · skip
        have hno : ¬ (tgB t l fr fw i m = true ∧ bfV t l fr fw m j = true) := fun h => by rw [hb1] at h; cases h.2
        obtain ⟨B9, o10, hAe, hat⟩ := hR.row.at (i := i) (by omega)
        refine dr [] [] .nil ?_
        refine df [0, 1, 2, 5, 6] [] [] [] [] .nil ?_
        refine dixr 3 (n := l.length) (sz := 3) (j := ((i : Nat) : Int)) hAe i (by omega) ?_
        refine dldr 4 (n := 3) (row := true) [.int .i64 ((l[i]!).1), .slice ((l[i]!).2.1.1) ((l[i]!).2.1.2.1) ((l[i]!).2.1.2.2), .slice ((l[i]!).2.2.1) ((l[i]!).2.2.2.1) ((l[i]!).2.2.2.2)] (fun W hW => (hat.below (hW.old 0 rfl)).ld (i := i) (by omega) 0 [.int .i64 ((l[i]!).1), .slice ((l[i]!).2.1.1) ((l[i]!).2.1.2.1) ((l[i]!).2.1.2.2), .slice ((l[i]!).2.2.1) ((l[i]!).2.2.2.1) ((l[i]!).2.2.2.2)] rfl) ?_
        refine dixr 7 (n := l.length) (sz := 3) (j := ((m : Nat) : Int)) hAe m (by omega) ?_
        refine dldr 8 (n := 3) (row := true) [.int .i64 ((l[m]!).1), .slice ((l[m]!).2.1.1) ((l[m]!).2.1.2.1) ((l[m]!).2.1.2.2), .slice ((l[m]!).2.2.1) ((l[m]!).2.2.2.1) ((l[m]!).2.2.2.2)] (fun W hW => (hat.below (hW.old 0 rfl)).ld (i := m) (by omega) 0 [.int .i64 ((l[m]!).1), .slice ((l[m]!).2.1.1) ((l[m]!).2.1.2.1) ((l[m]!).2.1.2.2), .slice ((l[m]!).2.2.1) ((l[m]!).2.2.2.1) ((l[m]!).2.2.2.2)] rfl) ?_
        refine dp 9 (fun W hW => rtog_v (i := i) (k := m) ht (hR.below (hW.old 0 rfl)) (by omega) (by omega) ht1) ?_
        refine df [10, 11, 12, 13, 14] [] [] [] [] .nil ?_
        refine dp 15 (fun W hW => bef_v hb1 (ih m hmi (by omega) W (hR.below (hW.old 0 rfl)))) ?_
        refine df [16] [] [] [] [] .nil ?_
        refine de (fs := (ktl [1, 0, 0, 0] (be_4I t A c l fr fw i j w (z4, m)) (kt (bdy Try.f13) [1, 1, 0, 1, 0] [])).tail) ?_
        refine st0 (fs := (ktl [1, 0, 0, 0] (be_4I t A c l fr fw i j w (z4, m)) (kt (bdy Try.f13) [1, 1, 0, 1, 0] [])).tail) ((be_b22 t A c l i j z4 m B9 o10)) [] ?_
        refine ck 3 [] [(1, .int .i64 ((m + 1 : Nat) : Int))] fun γ11 => ⟨⟨ktp (be_4I t A c l fr fw i j w (z4, m)) (kt (bdy Try.f13) [1, 1, 0, 1, 0] []), upv (be_b22 t A c l i j z4 m B9 o10) [(9, .int .i64 ((m + 1 : Nat) : Int)), (18, .int .i64 ((m : Nat) : Int)), (19, .int .i64 ((m + 1 : Nat) : Int))], []⟩, [], [Value.int .i64 (IntKind.wrap .i64 (((m : Nat) : Int) + 1)) = .int .i64 ((m + 1 : Nat) : Int)], by kernel_rfl, (.cons (congrArg (Value.int .i64) (by rw [IntKind.wrap_i64]; omega)) .nil), ?_⟩
        exact nx (st := be_4s t A c l fr fw i j) (F' := be_4F t A c l fr fw i j w) (ok := be_4k t A c l fr fw i j) (μ := be_4m t A c l fr fw i j) (x := (z4, m)) (fun mm => (upv (be_b22 t A c l i j z4 m B9 o10) [(9, .int .i64 ((m + 1 : Nat) : Int)), (18, .int .i64 ((m : Nat) : Int)), (19, .int .i64 ((m + 1 : Nat) : Int))]).getD mm zz, (m + 1)) (show i < (m + 1) ∧ (m + 1) ≤ j + 1 ∧ ∀ k, i < k → k < (m + 1) → ¬ (tgB t l fr fw i k = true ∧ bfV t l fr fw k j = true) from ⟨by omega, by omega, fun k h1 h2 h3 => by
                    by_cases hkm : k < m
                    · exact hall k h1 hkm h3
                    · obtain rfl : k = m := by omega
                      exact hno h3⟩) (by show _ < _; simp only [be_4m]; omega) 0 0 rfl
      · skip
        have hno : ¬ (tgB t l fr fw i m = true ∧ bfV t l fr fw m j = true) := fun h => by rw [ht1] at h; cases h.1
        obtain ⟨B12, o13, hAe, hat⟩ := hR.row.at (i := i) (by omega)
        refine dr [] [] .nil ?_
        refine df [0, 1, 2, 5, 6] [] [] [] [] .nil ?_
        refine dixr 3 (n := l.length) (sz := 3) (j := ((i : Nat) : Int)) hAe i (by omega) ?_
        refine dldr 4 (n := 3) (row := true) [.int .i64 ((l[i]!).1), .slice ((l[i]!).2.1.1) ((l[i]!).2.1.2.1) ((l[i]!).2.1.2.2), .slice ((l[i]!).2.2.1) ((l[i]!).2.2.2.1) ((l[i]!).2.2.2.2)] (fun W hW => (hat.below (hW.old 0 rfl)).ld (i := i) (by omega) 0 [.int .i64 ((l[i]!).1), .slice ((l[i]!).2.1.1) ((l[i]!).2.1.2.1) ((l[i]!).2.1.2.2), .slice ((l[i]!).2.2.1) ((l[i]!).2.2.2.1) ((l[i]!).2.2.2.2)] rfl) ?_
        refine dixr 7 (n := l.length) (sz := 3) (j := ((m : Nat) : Int)) hAe m (by omega) ?_
        refine dldr 8 (n := 3) (row := true) [.int .i64 ((l[m]!).1), .slice ((l[m]!).2.1.1) ((l[m]!).2.1.2.1) ((l[m]!).2.1.2.2), .slice ((l[m]!).2.2.1) ((l[m]!).2.2.2.1) ((l[m]!).2.2.2.2)] (fun W hW => (hat.below (hW.old 0 rfl)).ld (i := m) (by omega) 0 [.int .i64 ((l[m]!).1), .slice ((l[m]!).2.1.1) ((l[m]!).2.1.2.1) ((l[m]!).2.1.2.2), .slice ((l[m]!).2.2.1) ((l[m]!).2.2.2.1) ((l[m]!).2.2.2.2)] rfl) ?_
        refine dp 9 (fun W hW => rtog_v (i := i) (k := m) ht (hR.below (hW.old 0 rfl)) (by omega) (by omega) ht1) ?_
        refine df [10, 11, 12, 13, 14, 15, 16] [] [] [] [] .nil ?_
        refine de (fs := (ktl [1, 0, 0, 0] (be_4I t A c l fr fw i j w (z4, m)) (kt (bdy Try.f13) [1, 1, 0, 1, 0] [])).tail) ?_
        refine st0 (fs := (ktl [1, 0, 0, 0] (be_4I t A c l fr fw i j w (z4, m)) (kt (bdy Try.f13) [1, 1, 0, 1, 0] [])).tail) ((be_b25 t A c l i j z4 m B12 o13)) [] ?_
        refine ck 3 [] [(1, .int .i64 ((m + 1 : Nat) : Int))] fun γ14 => ⟨⟨ktp (be_4I t A c l fr fw i j w (z4, m)) (kt (bdy Try.f13) [1, 1, 0, 1, 0] []), upv (be_b25 t A c l i j z4 m B12 o13) [(9, .int .i64 ((m + 1 : Nat) : Int)), (18, .int .i64 ((m : Nat) : Int)), (19, .int .i64 ((m + 1 : Nat) : Int))], []⟩, [], [Value.int .i64 (IntKind.wrap .i64 (((m : Nat) : Int) + 1)) = .int .i64 ((m + 1 : Nat) : Int)], by kernel_rfl, (.cons (congrArg (Value.int .i64) (by rw [IntKind.wrap_i64]; omega)) .nil), ?_⟩
        exact nx (st := be_4s t A c l fr fw i j) (F' := be_4F t A c l fr fw i j w) (ok := be_4k t A c l fr fw i j) (μ := be_4m t A c l fr fw i j) (x := (z4, m)) (fun mm => (upv (be_b25 t A c l i j z4 m B12 o13) [(9, .int .i64 ((m + 1 : Nat) : Int)), (18, .int .i64 ((m : Nat) : Int)), (19, .int .i64 ((m + 1 : Nat) : Int))]).getD mm zz, (m + 1)) (show i < (m + 1) ∧ (m + 1) ≤ j + 1 ∧ ∀ k, i < k → k < (m + 1) → ¬ (tgB t l fr fw i k = true ∧ bfV t l fr fw k j = true) from ⟨by omega, by omega, fun k h1 h2 h3 => by
                    by_cases hkm : k < m
                    · exact hall k h1 hkm h3
                    · obtain rfl : k = m := by omega
                      exact hno h3⟩) (by show _ < _; simp only [be_4m]; omega) 0 0 rfl
    · skip
      have hres : bfV t l fr fw i j = false := bfV_n (by omega) (fun k h1 h2 => hall k h1 (by omega))
      refine ck 4 [] [(2, .bool false)] fun γ15 => ⟨⟨kt (bdy Try.f13) [1, 1, 1, 1] [], upv (be_b7 t A c l i j z4 m) [(8, .bool false), (15, .int .i64 ((m : Nat) : Int)), (16, .int .i64 ((j : Nat) : Int)), (17, .bool false)], []⟩, [], [Value.bool (decide ((((m : Nat) : Int) : Int) ≤ ((j : Nat) : Int))) = .bool false], by kernel_rfl, (.cons (cbF (by omega)) .nil), ?_⟩
      rw [hres]
      refine rt (.bool false) [] [] (fun W hW => ?_)
      exact ⟨rfl, (hW.old 0 rfl)⟩
theorem before_is {t : Nat} (ht : t ≤ 4) {A : Option Addr} {c : Nat} {l : List AC} {fr fw : Nat → List P3} {j : Nat} (hj : j < l.length) : ∀ (d i : Nat), i ≤ j → j - i ≤ d → ∀ w, RDS w A c l fr fw → Calls Try.prog 13 #[.int .i64 ((t : Nat) : Int), .slice A l.length c, .int .i64 ((i : Nat) : Int), .int .i64 ((j : Nat) : Int)] w fun e W => e = .returned (.bool (bfV t l fr fw i j)) ∧ Below w.heap.size w W
  | 0, i, h1, h2, w, hR => before_st ht hj h1 (fun m h3 h4 => by omega) hR
  | d + 1, i, h1, h2, w, hR => before_st ht hj h1 (fun m h3 h4 w hR => before_is ht hj d m h4 (by omega) w hR) hR
end Go.Proofs.Ytglkhjjhjhhonaa.Sr
