/- What was there at each mark. No condition beside those that each theorem names. -/
import Derived.Test.YtbijkflfphppgaaAyQ
namespace Go.Proofs.Ytbijkflfphppgaa.Sr
open Go.RowKit Go.Proofs.YtbijkflfphppgaaM.Mach
set_option linter.unusedVariables false
set_option linter.unusedSimpArgs false
/-! What was there at each mark, and what is undone. -/
abbrev SL := Option Addr × Nat × Nat
abbrev ST := List C10 × List Int
abbrev BK := SL × SL × Int
def wasH (h : H12) : C10 := (h.2.1, h.2.2.1, h.2.2.2.1, h.2.2.2.2.1, h.2.2.2.2.2.1, h.2.2.2.2.2.2.1, h.2.2.2.2.2.2.2.1, h.2.2.2.2.2.2.2.2.1, h.2.2.2.2.2.2.2.2.2.1, h.2.2.2.2.2.2.2.2.2.2.1)
def rowH (h : H12) : SL := h.2.2.2.2.2.2.2.2.2.2.2
def backS (s : List C10 × SL) (h : H12) : List C10 × SL := (s.1.set (h.1 - 1).toNat (wasH h), rowH h)
def backF (u : List H12) (s : List C10 × SL) : List C10 × SL := u.foldl backS s
theorem backF_snoc (u : List H12) (h : H12) (s : List C10 × SL) : backF (u ++ [h]) s = backS (backF u s) h := by
  unfold backF
  rw [List.foldl_append]
  rfl
theorem take_last {α : Type} [Inhabited α] {l : List α} {q : Nat} (h : l.length = q + 1) : l.take q ++ [l[q]!] = l := by
  have h1 : q < l.length := by omega
  rw [getElem!_pos l q h1, ← List.take_succ_eq_append_getElem h1, ← h, List.take_length]
/-- One step of undoing. -/
theorem back_step {tl tk u : List H12} {cl ck : List C10} {s0 s1 : SL} {q j : Nat} (h1 : tl = tk ++ u) (h2 : backF u.reverse (cl, s0) = (ck, s1)) (hq : tk.length = q + 1) (hj : (tk[q]!).1 - 1 = (j : Int)) : tl = tk.take q ++ (tk[q]! :: u) ∧ backF (tk[q]! :: u).reverse (cl, s0) = (ck.set j (wasH (tk[q]!)), rowH (tk[q]!)) := by
  constructor
  · rw [h1]
    conv => lhs; rw [← take_last hq]
    simp
  · rw [List.reverse_cons, backF_snoc, h2]
    unfold backS
    rw [hj]
    rfl
theorem back_fin {tl tk u : List H12} {cl ck : List C10} {s0 s1 : SL} {m : Nat} (h1 : tl = tk ++ u) (h2 : backF u.reverse (cl, s0) = (ck, s1)) (hm : tk.length = m) : tl.take m = tk ∧ backF (tl.drop m).reverse (cl, s0) = (ck, s1) := by
  subst hm h1
  rw [List.take_left, List.drop_left]
  exact ⟨rfl, h2⟩
theorem stepA_un {k cell f b_y pc wn wc wg : Int} {cl : List C10} {rl : List Int} (h : (stepA k cell f b_y pc wn wc wg cl rl).2.2 = false) : (stepA k cell f b_y pc wn wc wg cl rl).1 = cl ∧ (stepA k cell f b_y pc wn wc wg cl rl).2.1 = rl := by
  unfold stepA at h ⊢
  by_cases h1 : k = 1
  · rw [if_pos h1] at h ⊢
    by_cases hc : thr cl cell ∧ (cellAt cl cell).1 ≠ 0
    · rw [if_pos hc] at h
      cases h
    · rw [if_neg hc]
      exact ⟨rfl, rfl⟩
  · rw [if_neg h1] at h ⊢
    by_cases h2 : k = 2
    · rw [if_pos h2] at h ⊢
      by_cases hc : thr cl cell ∧ (cellAt cl cell).1 = 1
      · rw [if_pos hc] at h
        cases h
      · rw [if_neg hc]
        exact ⟨rfl, rfl⟩
    · rw [if_neg h2] at h ⊢
      by_cases h3 : k = 3
      · rw [if_pos h3] at h ⊢
        by_cases hc : thr cl cell ∧ f = 0
        · rw [if_pos hc] at h
          cases h
        · rw [if_neg hc] at h ⊢
          by_cases hc : thr cl cell ∧ f = 1
          · rw [if_pos hc] at h
            cases h
          · rw [if_neg hc]
            exact ⟨rfl, rfl⟩
      · rw [if_neg h3] at h ⊢
        cases rl with
        | nil => exact ⟨rfl, rfl⟩
        | cons r rest => cases h
theorem set_back {cl : List C10} {c : Int} (hc : thr cl c) (v : C10) : (cl.set (c - 1).toNat v).set (c - 1).toNat (cellAt cl c) = cl := by
  have h1 : (c - 1).toNat < cl.length := by
    unfold thr at hc
    omega
  rw [List.set_set]
  unfold cellAt
  rw [getElem!_pos cl _ h1, List.set_getElem_self]
theorem stepA_back {k cell f b_y pc wn wc wg : Int} {cl : List C10} {rl : List Int} (hI : INV cl rl) (h : (stepA k cell f b_y pc wn wc wg cl rl).2.2 = true) : thr cl (ceA k cell rl) ∧ (stepA k cell f b_y pc wn wc wg cl rl).1.set (ceA k cell rl - 1).toNat (cellAt cl (ceA k cell rl)) = cl := by
  by_cases h1 : k = 1
  · have e : ceA k cell rl = cell := by
      unfold ceA
      rw [if_pos (.inl h1)]
    rw [e]
    unfold stepA at h ⊢
    rw [if_pos h1] at h ⊢
    split at h
    · rename_i hc
      rw [if_pos hc]
      exact ⟨hc.1, set_back hc.1 _⟩
    · cases h
  · by_cases h2 : k = 2
    · have e : ceA k cell rl = cell := by
        unfold ceA
        rw [if_pos (.inr (.inl h2))]
      rw [e]
      unfold stepA at h ⊢
      rw [if_neg h1, if_pos h2] at h ⊢
      split at h
      · rename_i hc
        rw [if_pos hc]
        exact ⟨hc.1, set_back hc.1 _⟩
      · cases h
    · by_cases h3 : k = 3
      · have e : ceA k cell rl = cell := by
          unfold ceA
          rw [if_pos (.inr (.inr h3))]
        rw [e]
        unfold stepA at h ⊢
        rw [if_neg h1, if_neg h2, if_pos h3] at h ⊢
        split at h
        · rename_i hc
          rw [if_pos hc]
          exact ⟨hc.1, set_back hc.1 _⟩
        · rename_i hc0
          split at h
          · rename_i hc
            rw [if_neg hc0, if_pos hc]
            exact ⟨hc.1, set_back hc.1 _⟩
          · cases h
      · unfold stepA at h ⊢
        rw [if_neg h1, if_neg h2, if_neg h3] at h ⊢
        cases rl with
        | nil => cases h
        | cons r rest =>
          have e : ceA k cell (r :: rest) = r := by
            unfold ceA
            rw [if_neg (fun h => by rcases h with h | h | h <;> contradiction)]
            rfl
          rw [e]
          have hr := hI.rng r List.mem_cons_self
          exact ⟨hr, set_back hr _⟩
theorem was_hq (k cell : Int) (cl : List C10) (rl : List Int) (sl : SL) : wasH (hqA k cell cl rl sl) = cellAt cl (ceA k cell rl) := rfl
/-- The states at the marks. -/
structure HST (n : Nat) (X : List Asrt) (tl : List H12) (hs : List ST) (cl : List C10) (rl : List Int) : Prop where
  len : hs.length = tl.length + 1
  last : hs[tl.length]! = (cl, rl)
  inv : ∀ k, k < hs.length → INV (hs[k]!).1 (hs[k]!).2 ∧ (hs[k]!).1.length = n
  rng : ∀ h ∈ tl, 1 ≤ h.1 ∧ h.1 ≤ (n : Int)
  stp : ∀ k, k < tl.length → (hs[k + 1]!).1.set ((tl[k]!).1 - 1).toNat (wasH (tl[k]!)) = (hs[k]!).1
  row : ∀ k, k < tl.length → (rowH (tl[k]!)).2.1 = (hs[k]!).2.length ∧ rdA (.slice (rowH (tl[k]!)).1 (hs[k]!).2.length (rowH (tl[k]!)).2.2) 1 encT3 (hs[k]!).2 ∈ X
theorem HST.I {n : Nat} {X : List Asrt} {tl : List H12} {hs : List ST} {cl : List C10} {rl : List Int} (h : HST n X tl hs cl rl) : INV cl rl ∧ cl.length = n := by
  have := h.inv tl.length (by rw [h.len]; omega)
  rw [h.last] at this
  exact this
theorem hst_z {n : Nat} {X : List Asrt} {cl : List C10} {rl : List Int} (hI : INV cl rl) (hn : cl.length = n) : HST n X [] [(cl, rl)] cl rl where
  len := rfl
  last := rfl
  inv := fun k hk => by
    obtain rfl : k = 0 := by simpa using hk
    exact ⟨hI, hn⟩
  rng := fun h hm => absurd hm List.not_mem_nil
  stp := fun k hk => absurd hk (Nat.not_lt_zero k)
  row := fun k hk => absurd hk (Nat.not_lt_zero k)
theorem HST.more {n : Nat} {X Y : List Asrt} {tl : List H12} {hs : List ST} {cl : List C10} {rl : List Int} (h : HST n X tl hs cl rl) (hXY : ∀ A ∈ X, A ∈ Y) : HST n Y tl hs cl rl :=
  ⟨h.len, h.last, h.inv, h.rng, h.stp, fun k hk => ⟨(h.row k hk).1, hXY _ (h.row k hk).2⟩⟩
theorem ap_lt {α : Type} [Inhabited α] {R : List α} {x : α} {n : Nat} (h : n < R.length) : (R ++ [x])[n]! = R[n]! := by
  rw [getElem!_pos (R ++ [x]) n (by simp; omega), getElem!_pos R n h, List.getElem_append_left h]
theorem ap_at {α : Type} [Inhabited α] {R : List α} {x : α} {n : Nat} (h : n = R.length) : (R ++ [x])[n]! = x := by
  subst h
  rw [getElem!_pos (R ++ [x]) R.length (by simp)]
  simp
def hsT (hs : List ST) (s : ST) : Bool → List ST
  | true => hs ++ [s]
  | false => hs
theorem hst_step {n : Nat} {X Y : List Asrt} {tl : List H12} {hs : List ST} {cl : List C10} {rl : List Int} (h : HST n X tl hs cl rl) (o : O8) {Ar : Option Addr} {cr : Nat} (hxa : rdA (.slice Ar rl.length cr) 1 encT3 rl ∈ X) (hXY : ∀ A ∈ X, A ∈ Y) : HST n Y (apT tl (hqO o cl rl (Ar, rl.length, cr)) (stepO o cl rl).2.2) (hsT hs ((stepO o cl rl).1, (stepO o cl rl).2.1) (stepO o cl rl).2.2) (stepO o cl rl).1 (stepO o cl rl).2.1 := by
  obtain ⟨hI, hn⟩ := h.I
  obtain ⟨hI2, hl2⟩ := inv_o hI o
  have hb := @stepA_back o.1 o.2.1 o.2.2.1 o.2.2.2.1 o.2.2.2.2.1 o.2.2.2.2.2.1 o.2.2.2.2.2.2.1 o.2.2.2.2.2.2.2 cl rl hI
  have hu := @stepA_un o.1 o.2.1 o.2.2.1 o.2.2.2.1 o.2.2.2.2.1 o.2.2.2.2.2.1 o.2.2.2.2.2.2.1 o.2.2.2.2.2.2.2 cl rl
  have e : stepO o cl rl = stepA o.1 o.2.1 o.2.2.1 o.2.2.2.1 o.2.2.2.2.1 o.2.2.2.2.2.1 o.2.2.2.2.2.2.1 o.2.2.2.2.2.2.2 cl rl := rfl
  rw [← e] at hb hu
  cases hd : (stepO o cl rl).2.2 with
  | false =>
    obtain ⟨h1, h2⟩ := hu hd
    rw [h1, h2]
    exact h.more hXY
  | true =>
    obtain ⟨hc, h2⟩ := hb hd
    have hl := h.len
    refine ⟨by simp [apT, hsT, h.len], ?_, fun k hk => ?_, fun x hx => ?_, fun k hk => ?_, fun k hk => ?_⟩
    · show (hs ++ [_])[(tl ++ [_]).length]! = _
      rw [ap_at (by simp [h.len])]
    · have hk' : k < hs.length + 1 := by simpa [hsT] using hk
      show INV ((hs ++ [_])[k]!).1 ((hs ++ [_])[k]!).2 ∧ ((hs ++ [_])[k]!).1.length = n
      by_cases h3 : k < hs.length
      · rw [ap_lt h3]
        exact h.inv k h3
      · rw [ap_at (by omega)]
        exact ⟨hI2, hl2.trans hn⟩
    · have hx' : x ∈ tl ++ [hqO o cl rl (Ar, rl.length, cr)] := hx
      rcases List.mem_append.1 hx' with h3 | h3
      · exact h.rng x h3
      · rw [List.mem_singleton] at h3
        subst h3
        unfold thr at hc
        rw [hn] at hc
        exact hc
    · have hk' : k < tl.length + 1 := by simpa [apT] using hk
      show ((hs ++ [_])[k + 1]!).1.set (((tl ++ [_])[k]!).1 - 1).toNat (wasH ((tl ++ [_])[k]!)) = ((hs ++ [_])[k]!).1
      by_cases h3 : k < tl.length
      · rw [ap_lt h3, ap_lt (by omega), ap_lt (by omega)]
        exact h.stp k h3
      · obtain rfl : k = tl.length := by omega
        rw [ap_at rfl, ap_at (by omega), ap_lt (by omega), h.last]
        exact h2
    · have hk' : k < tl.length + 1 := by simpa [apT] using hk
      show (rowH ((tl ++ [_])[k]!)).2.1 = ((hs ++ [_])[k]!).2.length ∧ rdA (.slice (rowH ((tl ++ [_])[k]!)).1 ((hs ++ [_])[k]!).2.length (rowH ((tl ++ [_])[k]!)).2.2) 1 encT3 ((hs ++ [_])[k]!).2 ∈ Y
      by_cases h3 : k < tl.length
      · rw [ap_lt h3, ap_lt (by omega)]
        exact ⟨(h.row k h3).1, hXY _ (h.row k h3).2⟩
      · obtain rfl : k = tl.length := by omega
        rw [ap_at rfl, ap_lt (by omega), h.last]
        exact ⟨rfl, hXY _ hxa⟩
def undR (tl : List H12) (s : SL) (m : Nat) : SL := if m < tl.length then rowH (tl[m]!) else s
/-- What is undone, back to a mark, is as it was there. -/
theorem und_is {n : Nat} {X : List Asrt} {tl : List H12} {hs : List ST} {cl : List C10} {rl : List Int} (h : HST n X tl hs cl rl) {s : SL} {m : Nat} (hm : m ≤ tl.length) : backF (tl.drop m).reverse (cl, s) = ((hs[m]!).1, undR tl s m) := by
  obtain ⟨d, hd⟩ : ∃ d, d = tl.length - m := ⟨_, rfl⟩
  induction d generalizing m with
  | zero =>
    obtain rfl : m = tl.length := by omega
    unfold undR
    rw [List.drop_length, if_neg (Nat.lt_irrefl _), h.last]
    rfl
  | succ d ih =>
    have h1 : m < tl.length := by omega
    rw [List.drop_eq_getElem_cons h1, List.reverse_cons, backF_snoc, ih (m := m + 1) (by omega) (by omega), ← getElem!_pos tl m h1]
    unfold backS undR
    rw [if_pos h1, h.stp m h1]
theorem und_mem {n : Nat} {X : List Asrt} {tl : List H12} {hs : List ST} {cl : List C10} {rl : List Int} (h : HST n X tl hs cl rl) {Ar : Option Addr} {cr : Nat} (hxa : rdA (.slice Ar rl.length cr) 1 encT3 rl ∈ X) {m : Nat} (hm : m ≤ tl.length) : (undR tl (Ar, rl.length, cr) m).2.1 = (hs[m]!).2.length ∧ rdA (.slice (undR tl (Ar, rl.length, cr) m).1 (hs[m]!).2.length (undR tl (Ar, rl.length, cr) m).2.2) 1 encT3 (hs[m]!).2 ∈ X := by
  unfold undR
  by_cases h1 : m < tl.length
  · rw [if_pos h1]
    exact h.row m h1
  · obtain rfl : m = tl.length := by omega
    rw [if_neg h1, h.last]
    exact ⟨rfl, hxa⟩
theorem tk_lt {α : Type} [Inhabited α] {l : List α} {m k : Nat} (h : k < m) (hm : m ≤ l.length) : (l.take m)[k]! = l[k]! := by
  rw [getElem!_pos (l.take m) k (by rw [List.length_take]; omega), getElem!_pos l k (by omega), List.getElem_take]
theorem HST.undo {n : Nat} {X : List Asrt} {tl : List H12} {hs : List ST} {cl : List C10} {rl : List Int} (h : HST n X tl hs cl rl) {m : Nat} (hm : m ≤ tl.length) : HST n X (tl.take m) (hs.take (m + 1)) (hs[m]!).1 (hs[m]!).2 := by
  have hl := h.len
  have hlt : (tl.take m).length = m := by rw [List.length_take]; omega
  have hls : (hs.take (m + 1)).length = m + 1 := by rw [List.length_take]; omega
  refine ⟨by rw [hlt, hls], ?_, fun k hk => ?_, fun x hx => h.rng x (List.mem_of_mem_take hx), fun k hk => ?_, fun k hk => ?_⟩
  · rw [hlt, tk_lt (by omega) (by omega)]
  · rw [hls] at hk
    rw [tk_lt hk (by omega)]
    exact h.inv k (by omega)
  · rw [hlt] at hk
    rw [tk_lt hk hm, tk_lt (by omega) (by omega), tk_lt (by omega) (by omega)]
    exact h.stp k (by omega)
  · rw [hlt] at hk
    rw [tk_lt hk hm, tk_lt (by omega) (by omega)]
    exact h.row k (by omega)
/-- The books that were noted at the marks. -/
structure BKS (n : Nat) (X : List Asrt) (hs : List ST) (bs : List BK) : Prop where
  len : bs.length = hs.length
  at_ : ∀ k, k < bs.length → ∃ (B : Option Addr) (c : Nat) (B2 : Option Addr) (c2 : Nat), bs[k]! = ((B, n, c), (B2, (hs[k]!).2.length, c2), ((k : Nat) : Int)) ∧ rdA (.slice B n c) 10 encT43 (hs[k]!).1 ∈ X ∧ rdA (.slice B2 (hs[k]!).2.length c2) 1 encT3 (hs[k]!).2 ∈ X
theorem BKS.more {n : Nat} {X Y : List Asrt} {hs : List ST} {bs : List BK} (h : BKS n X hs bs) (hXY : ∀ A ∈ X, A ∈ Y) : BKS n Y hs bs :=
  ⟨h.len, fun k hk => by
    obtain ⟨B, c, B2, c2, h1, h2, h3⟩ := h.at_ k hk
    exact ⟨B, c, B2, c2, h1, hXY _ h2, hXY _ h3⟩⟩
theorem BKS.add {n : Nat} {X : List Asrt} {hs : List ST} {bs : List BK} (h : BKS n X hs bs) {cl : List C10} {rl : List Int} {B : Option Addr} {c : Nat} {B2 : Option Addr} {c2 : Nat} (h1 : rdA (.slice B n c) 10 encT43 cl ∈ X) (h2 : rdA (.slice B2 rl.length c2) 1 encT3 rl ∈ X) : BKS n X (hs ++ [(cl, rl)]) (bs ++ [((B, n, c), (B2, rl.length, c2), ((hs.length : Nat) : Int))]) := by
  have hl := h.len
  refine ⟨by simp [hl], fun k hk => ?_⟩
  have hk' : k < bs.length + 1 := by simpa using hk
  by_cases h3 : k < bs.length
  · obtain ⟨B', c', B2', c2', h4, h5, h6⟩ := h.at_ k h3
    rw [ap_lt h3, ap_lt (by omega)]
    exact ⟨B', c', B2', c2', h4, h5, h6⟩
  · rw [ap_at (show k = bs.length by omega), ap_at (show k = hs.length by omega)]
    exact ⟨B, c, B2, c2, by rw [show k = hs.length by omega], h1, h2⟩
theorem bks_z {n : Nat} {X : List Asrt} {cl : List C10} {rl : List Int} {B : Option Addr} {c : Nat} {B2 : Option Addr} {c2 : Nat} (h1 : rdA (.slice B n c) 10 encT43 cl ∈ X) (h2 : rdA (.slice B2 rl.length c2) 1 encT3 rl ∈ X) : BKS n X [(cl, rl)] [((B, n, c), (B2, rl.length, c2), 0)] := by
  have h0 : BKS n X [] [] := ⟨rfl, fun k hk => absurd hk (Nat.not_lt_zero k)⟩
  exact h0.add h1 h2
/-! A call on both, told by what was there at each mark. -/
structure RUNW (n : Nat) (X : List Asrt) (tl : List H12) (hs : List ST) (cl2 : List C10) (rl2 : List Int) (tl2 : List H12) (hs2 : List ST) (X2 : List Asrt) (Ar2 : Option Addr) (cr2 : Nat) (Bc2 : Option Addr) (kc2 : Nat) (Br2 : Option Addr) (kr2 : Nat) (mk2 : Int) : Prop where
  hst : HST n X2 tl2 hs2 cl2 rl2
  xa : rdA (.slice Ar2 rl2.length cr2) 1 encT3 rl2 ∈ X2
  xc : rdA (.slice Bc2 n kc2) 10 encT43 cl2 ∈ X2
  xb : rdA (.slice Br2 rl2.length kr2) 1 encT3 rl2 ∈ X2
  sub : ∀ A ∈ X, A ∈ X2
  mkk : mk2 = ((tl2.length : Nat) : Int)
  d : (tl2.length = tl.length + 1 ∧ hs2 = hs ++ [(cl2, rl2)]) ∨ (tl2.length = tl.length ∧ hs2 = hs)
abbrev RZ := Option Addr × Nat × List H12 × List C10 × Option Addr × List Int × Nat × Option Addr × Nat × Option Addr × Nat × Int × List ST × List Asrt
theorem mk_w {mk : Int} {m : Nat} (h : mk = (m : Int)) (hm : m < 1000) (d : Bool) : mkOf mk d = ((m + d.toNat : Nat) : Int) := by
  subst h
  cases d
  · simp [mkOf]
  · simp only [mkOf, if_true, Bool.toNat_true]
    rw [IntKind.wrap_i64]
    omega
theorem pure_snoc {W : World} {b t c q o : Asrt} {p : Prop} (hp : p) (h : HoldR W ([b, t, c, q] ++ [o])) : HoldR W ([b, t, c, q, pureA p] ++ [o]) := (HoldR.pure_in hp h).ix [1, 2, 3, 4, 0, 5] (by decide) rfl
theorem run_w {w : World} {g : Nat} {Ac : Option Addr} {kq n : Nat} {At : Option Addr} {ct : Nat} {tl : List H12} {cl : List C10} {Ar : Option Addr} {rl : List Int} {cr : Nat} {Bc : Option Addr} {kc : Nat} {Br : Option Addr} {kr : Nat} {mk : Int} {X : List Asrt} {hs : List ST} (o : O8) (hcl : n ≤ 1000) (htl : tl.length ≤ 999) (hmk : mk = ((tl.length : Nat) : Int)) (hH : HST n X tl hs cl rl) (hxa : rdA (.slice Ar rl.length cr) 1 encT3 rl ∈ X) (hxc : rdA (.slice Bc n kc) 10 encT43 cl ∈ X) (hxb : rdA (.slice Br rl.length kr) 1 encT3 rl ∈ X) (hown : HoldR w (partsP g Ac kq n At ct tl cl Ar rl.length cr X)) :
    Calls Try.prog 11 #[.pointer (some ⟨g, 0, none⟩), .agg #[.slice Bc n kc, .slice Br rl.length kr, .int .i64 mk], .agg #[.int .i64 o.1, .int .i64 o.2.1, .int .i64 o.2.2.1, .int .i64 o.2.2.2.1, .int .i64 o.2.2.2.2.1, .int .i64 o.2.2.2.2.2.1, .int .i64 o.2.2.2.2.2.2.1, .int .i64 o.2.2.2.2.2.2.2]] w fun e W => ∃ x : RZ, e = .returned (.tuple #[.agg #[.slice x.2.2.2.2.2.2.2.1 n x.2.2.2.2.2.2.2.2.1, .slice x.2.2.2.2.2.2.2.2.2.1 x.2.2.2.2.2.1.length x.2.2.2.2.2.2.2.2.2.2.1, .int .i64 x.2.2.2.2.2.2.2.2.2.2.2.1], .bool true]) ∧ HoldR W ([blkA (g, 63, [.slice x.1 x.2.2.1.length x.2.1, .bool true, .slice Ac n kq, .slice x.2.2.2.2.1 x.2.2.2.2.2.1.length x.2.2.2.2.2.2.1]), rowA 78 12 (.slice x.1 x.2.2.1.length x.2.1) x.2.2.1.length (x.2.2.1.flatMap encT78), rowA 43 10 (.slice Ac n kq) n (x.2.2.2.1.flatMap encT43), pool x.2.2.2.2.2.2.2.2.2.2.2.2.2, pureA (RUNW n X tl hs x.2.2.2.1 x.2.2.2.2.2.1 x.2.2.1 x.2.2.2.2.2.2.2.2.2.2.2.2.1 x.2.2.2.2.2.2.2.2.2.2.2.2.2 x.2.2.2.2.1 x.2.2.2.2.2.2.1 x.2.2.2.2.2.2.2.1 x.2.2.2.2.2.2.2.2.1 x.2.2.2.2.2.2.2.2.2.1 x.2.2.2.2.2.2.2.2.2.2.1 x.2.2.2.2.2.2.2.2.2.2.2.1)] ++ [oldF w (partsP g Ac kq n At ct tl cl Ar rl.length cr X)]) := by
  obtain ⟨hI, hn⟩ := hH.I
  refine (run_is o hn hcl htl hI hxa hxc hxb hown).mono fun e W h => ?_
  obtain ⟨⟨At', ct', Ar', cr', Bc', kc', Br', kr'⟩, h1, h2⟩ := h
  have hsub : ∀ A ∈ X, A ∈ addX n (stepO o cl rl).1 (stepO o cl rl).2.1 Ar' cr' Bc' kc' Br' kr' X := fun A hA => List.mem_cons_of_mem _ (List.mem_cons_of_mem _ (List.mem_cons_of_mem _ hA))
  refine ⟨(At', ct', apT tl (hqO o cl rl (Ar, rl.length, cr)) (stepO o cl rl).2.2, (stepO o cl rl).1, Ar', (stepO o cl rl).2.1, cr', Bc', kc', Br', kr', mkOf mk (stepO o cl rl).2.2, hsT hs ((stepO o cl rl).1, (stepO o cl rl).2.1) (stepO o cl rl).2.2, addX n (stepO o cl rl).1 (stepO o cl rl).2.1 Ar' cr' Bc' kc' Br' kr' X), h1, pure_snoc ?_ h2⟩
  have hd : (hsT hs ((stepO o cl rl).1, (stepO o cl rl).2.1) (stepO o cl rl).2.2 = hs ++ [((stepO o cl rl).1, (stepO o cl rl).2.1)] ∧ (stepO o cl rl).2.2.toNat = 1) ∨ (hsT hs ((stepO o cl rl).1, (stepO o cl rl).2.1) (stepO o cl rl).2.2 = hs ∧ (stepO o cl rl).2.2.toNat = 0) := by
    cases (stepO o cl rl).2.2
    · exact .inr ⟨rfl, rfl⟩
    · exact .inl ⟨rfl, rfl⟩
  refine ⟨hst_step hH o hxa hsub, List.mem_cons_self, List.mem_cons_of_mem _ List.mem_cons_self, List.mem_cons_of_mem _ (List.mem_cons_of_mem _ List.mem_cons_self), hsub, ?_, ?_⟩
  · show mkOf mk (stepO o cl rl).2.2 = (((apT tl (hqO o cl rl (Ar, rl.length, cr)) (stepO o cl rl).2.2).length : Nat) : Int)
    rw [mk_w hmk (by omega), apT_len]
  · rcases hd with ⟨h3, h4⟩ | ⟨h3, h4⟩
    · exact .inl ⟨by show (apT tl (hqO o cl rl (Ar, rl.length, cr)) (stepO o cl rl).2.2).length = _; rw [apT_len, h4], h3⟩
    · exact .inr ⟨by show (apT tl (hqO o cl rl (Ar, rl.length, cr)) (stepO o cl rl).2.2).length = _; rw [apT_len, h4]; rfl, h3⟩
end Go.Proofs.Ytbijkflfphppgaa.Sr
