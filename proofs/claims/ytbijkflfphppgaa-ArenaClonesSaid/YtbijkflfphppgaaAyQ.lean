/- A call on both, told by lists. No condition beside those that each theorem names. -/
import Derived.Test.YtbijkflfphppgaaAwP
import Derived.Test.YtbijkflfphppgaaAyL
import Derived.Test.YtbijkflfphppgaaAyM
import Derived.Test.YtbijkflfphppgaaAyN
namespace Go.Proofs.Ytbijkflfphppgaa.Sr
open Go.RowKit Go.Proofs.YtbijkflfphppgaaM.Mach
set_option linter.unusedVariables false
set_option linter.unusedSimpArgs false
def partsP (g : Nat) (Ac : Option Addr) (kq n : Nat) (At : Option Addr) (ct : Nat) (tl : List H12) (cl : List C10) (Ar : Option Addr) (nr cr : Nat) (X : List Asrt) : List Asrt :=
  [blkA (g, 63, [.slice At tl.length ct, .bool true, .slice Ac n kq, .slice Ar nr cr]), rowA 78 12 (.slice At tl.length ct) tl.length (tl.flatMap encT78), rowA 43 10 (.slice Ac n kq) n (cl.flatMap encT43), pool X]
def addX (n : Nat) (cl : List C10) (rl : List Int) (Ar : Option Addr) (cr : Nat) (Bc : Option Addr) (kc : Nat) (Br : Option Addr) (kr : Nat) (X : List Asrt) : List Asrt :=
  rdA (.slice Ar rl.length cr) 1 encT3 rl :: rdA (.slice Bc n kc) 10 encT43 cl :: rdA (.slice Br rl.length kr) 1 encT3 rl :: X
theorem pl_perm2 {W : World} {b t c o : Asrt} {Y : List Asrt} (h : HoldR W (pool Y :: [b, t, c, o])) : HoldR W ([b, t, c, pool Y] ++ [o]) := h.ix [1, 2, 3, 0, 4] (by decide) rfl
theorem pl_two {W : World} {b t c o B1 B2 : Asrt} {X : List Asrt} (h : HoldR W ([b, t, c, pool X, B1, B2] ++ [o])) : HoldR W (pool (B1 :: B2 :: X) :: [b, t, c, o]) := by
  have h1 : HoldR W (B2 :: pool X :: [b, t, c, B1, o]) := h.ix [5, 3, 0, 1, 2, 4, 6] (by decide) rfl
  have h2 : HoldR W (B1 :: pool (B2 :: X) :: [b, t, c, o]) := h1.pool_in.ix [4, 0, 1, 2, 3, 5] (by decide) rfl
  exact h2.pool_in
theorem pl_same {W : World} {b t c o B1 B2 A : Asrt} {X : List Asrt} (h : HoldR W ([b, t, c, pool X, B1, B2] ++ [o])) (hm : A ∈ X) : HoldR W ([b, t, c, pool (A :: B1 :: B2 :: X)] ++ [o]) :=
  pl_perm2 ((pl_two h).pool_mem (List.mem_cons_of_mem _ (List.mem_cons_of_mem _ hm)))
theorem pl_new {W : World} {b t c o B1 B2 A : Asrt} {X : List Asrt} (h : HoldR W ([b, t, c, pool X, A, B1, B2] ++ [o])) : HoldR W ([b, t, c, pool (A :: B1 :: B2 :: X)] ++ [o]) := by
  have h1 : HoldR W (B2 :: pool X :: [b, t, c, A, B1, o]) := h.ix [6, 3, 0, 1, 2, 4, 5, 7] (by decide) rfl
  have h2 : HoldR W (B1 :: pool (B2 :: X) :: [b, t, c, A, o]) := h1.pool_in.ix [5, 0, 1, 2, 3, 4, 6] (by decide) rfl
  have h3 : HoldR W (A :: pool (B1 :: B2 :: X) :: [b, t, c, o]) := h2.pool_in.ix [4, 0, 1, 2, 3, 5] (by decide) rfl
  exact h3.pool_in.ix [1, 2, 3, 0, 4] (by decide) rfl
theorem pl_cut {W : World} {b t c o B1 B2 : Asrt} {X : List Asrt} {Ar : Option Addr} {r : Int} {rest : List Int} {cr : Nat} (h : HoldR W ([b, t, c, pool X, B1, B2] ++ [o])) (hm : rdA (.slice Ar (r :: rest).length cr) 1 encT3 (r :: rest) ∈ X) (hcr : (r :: rest).length ≤ cr) : HoldR W ([b, t, c, pool (rdA (.slice (cutp Ar 1 cr 1) rest.length (cr - 1)) 1 encT3 rest :: B1 :: B2 :: X)] ++ [o]) :=
  pl_perm2 ((pl_two h).pool_cut (a := 1) (b := (r :: rest).length) (d := cr) (List.mem_cons_of_mem _ (List.mem_cons_of_mem _ hm)) (by simp) (Nat.le_refl _) hcr rest (by rw [List.take_length]; rfl))
def apT (tl : List H12) (h : H12) : Bool → List H12
  | true => tl ++ [h]
  | false => tl
theorem apT_len (tl : List H12) (h : H12) (d : Bool) : (apT tl h d).length = tl.length + d.toNat := by
  cases d <;> simp [apT]
def ceA (k cell : Int) (rl : List Int) : Int := if k = 1 ∨ k = 2 ∨ k = 3 then cell else rl.headD 0
def hqA (k cell : Int) (cl : List C10) (rl : List Int) (sl : Option Addr × Nat × Nat) : H12 :=
  ((ceA k cell rl), (cellAt cl (ceA k cell rl)).1, (cellAt cl (ceA k cell rl)).2.1, (cellAt cl (ceA k cell rl)).2.2.1, (cellAt cl (ceA k cell rl)).2.2.2.1, (cellAt cl (ceA k cell rl)).2.2.2.2.1, (cellAt cl (ceA k cell rl)).2.2.2.2.2.1, (cellAt cl (ceA k cell rl)).2.2.2.2.2.2.1, (cellAt cl (ceA k cell rl)).2.2.2.2.2.2.2.1, (cellAt cl (ceA k cell rl)).2.2.2.2.2.2.2.2.1, (cellAt cl (ceA k cell rl)).2.2.2.2.2.2.2.2.2, sl)
def ARP (w : World) (pre : List Asrt) (g : Nat) (Ac : Option Addr) (kq n : Nat) (tl : List H12) (cl : List C10) (rl : List Int) (mk : Int) (X : List Asrt) (e : Ending) (W : World) : Prop :=
  ∃ (At : Option Addr) (ct : Nat) (Ar : Option Addr) (cr : Nat) (Bc : Option Addr) (kc : Nat) (Br : Option Addr) (kr : Nat), e = .returned (.tuple #[.agg #[.slice Bc n kc, .slice Br rl.length kr, .int .i64 mk], .bool true]) ∧ HoldR W (partsP g Ac kq n At ct tl cl Ar rl.length cr (addX n cl rl Ar cr Bc kc Br kr X) ++ [oldF w pre])
theorem idx_i (i : Nat) : (((i + 1 : Nat) : Int) - 1).toNat = i := by omega
theorem thr_i {cl : List C10} {i : Nat} (h : i < cl.length) : thr cl ((i + 1 : Nat) : Int) := by
  unfold thr
  omega
theorem cell_i (cl : List C10) (i : Nat) : cellAt cl ((i + 1 : Nat) : Int) = cl[i]! := by
  unfold cellAt
  rw [idx_i]
theorem hq_i {k : Int} (hk : k = 1 ∨ k = 2 ∨ k = 3) (cl : List C10) (rl : List Int) (i : Nat) (sl : Option Addr × Nat × Nat) : hqA k ((i + 1 : Nat) : Int) cl rl sl = (((i + 1 : Nat) : Int), (cl[i]!).1, (cl[i]!).2.1, (cl[i]!).2.2.1, (cl[i]!).2.2.2.1, (cl[i]!).2.2.2.2.1, (cl[i]!).2.2.2.2.2.1, (cl[i]!).2.2.2.2.2.2.1, (cl[i]!).2.2.2.2.2.2.2.1, (cl[i]!).2.2.2.2.2.2.2.2.1, (cl[i]!).2.2.2.2.2.2.2.2.2, sl) := by
  have e : ceA k ((i + 1 : Nat) : Int) rl = ((i + 1 : Nat) : Int) := by
    unfold ceA
    rw [if_pos hk]
  unfold hqA
  rw [e, cell_i]
theorem hq_0 {k : Int} (hk : k ≠ 1 ∧ k ≠ 2 ∧ k ≠ 3) (cell : Int) (cl : List C10) (rest : List Int) (i : Nat) (sl : Option Addr × Nat × Nat) : hqA k cell cl (((i + 1 : Nat) : Int) :: rest) sl = (((i + 1 : Nat) : Int), (cl[i]!).1, (cl[i]!).2.1, (cl[i]!).2.2.1, (cl[i]!).2.2.2.1, (cl[i]!).2.2.2.2.1, (cl[i]!).2.2.2.2.2.1, (cl[i]!).2.2.2.2.2.2.1, (cl[i]!).2.2.2.2.2.2.2.1, (cl[i]!).2.2.2.2.2.2.2.2.1, (cl[i]!).2.2.2.2.2.2.2.2.2, sl) := by
  have e : ceA k cell (((i + 1 : Nat) : Int) :: rest) = ((i + 1 : Nat) : Int) := by
    unfold ceA
    rw [if_neg (fun h => by rcases h with h | h | h <;> simp_all)]
    rfl
  unfold hqA
  rw [e, cell_i]
def mkOf (mk : Int) (d : Bool) : Int := if d = true then IntKind.wrap .i64 (mk + 1) else mk
section
variable {w : World} {g : Nat} {Ac : Option Addr} {kq : Nat} {At : Option Addr} {ct : Nat} {tl : List H12} {cl : List C10} {Ar : Option Addr} {rl : List Int} {cr : Nat} {Bc : Option Addr} {kc : Nat} {Br : Option Addr} {kr : Nat} {mk : Int} {X : List Asrt}
abbrev RC1 (w : World) (g : Nat) (Ac : Option Addr) (kq : Nat) (At : Option Addr) (ct : Nat) (tl : List H12) (cl : List C10) (Ar : Option Addr) (rl : List Int) (cr : Nat) (Bc : Option Addr) (kc : Nat) (Br : Option Addr) (kr : Nat) (X : List Asrt) (mk k cell f b_y pc wn wc wg : Int) : Prop :=
  Calls Try.prog 11 #[.pointer (some ⟨g, 0, none⟩), .agg #[.slice Bc cl.length kc, .slice Br rl.length kr, .int .i64 mk], .agg ⟨[.int .i64 k, .int .i64 cell, .int .i64 f, .int .i64 b_y, .int .i64 pc, .int .i64 wn, .int .i64 wc, .int .i64 wg]⟩] w (ARP w (partsP g Ac kq cl.length At ct tl cl Ar rl.length cr X) g Ac kq cl.length (apT tl (hqA k cell cl rl (Ar, rl.length, cr)) (stepA k cell f b_y pc wn wc wg cl rl).2.2) (stepA k cell f b_y pc wn wc wg cl rl).1 (stepA k cell f b_y pc wn wc wg cl rl).2.1 (mkOf mk (stepA k cell f b_y pc wn wc wg cl rl).2.2) X)
theorem run_1 (hcl : cl.length ≤ 1000) (htl : tl.length ≤ 999) (hrl : rl.length ≤ 1000) (cell f b_y pc wn wc wg : Int) (hxa : rdA (.slice Ar rl.length cr) 1 encT3 rl ∈ X) (hxc : rdA (.slice Bc cl.length kc) 10 encT43 cl ∈ X) (hxb : rdA (.slice Br rl.length kr) 1 encT3 rl ∈ X) (hown : HoldR w (partsP g Ac kq cl.length At ct tl cl Ar rl.length cr X)) : RC1 w g Ac kq At ct tl cl Ar rl cr Bc kc Br kr X mk 1 cell f b_y pc wn wc wg := by
  unfold RC1
  by_cases hc : thr cl cell
  · obtain ⟨i, hi, rfl⟩ : ∃ i : Nat, i < cl.length ∧ cell = ((i + 1 : Nat) : Int) := ⟨(cell - 1).toNat, by unfold thr at hc; omega, by unfold thr at hc; omega⟩
    by_cases hs : (cl[i]!).1 = 0
    · have e : stepA 1 ((i + 1 : Nat) : Int) f b_y pc wn wc wg cl rl = (cl, rl, false) := by
        unfold stepA
        rw [if_pos rfl, if_neg (fun h => h.2 (by rw [cell_i]; exact hs))]
      rw [e]
      refine (run_free_st (by omega) (by omega) hrl hi hs hxa hxc hxb hown).mono fun e' W h => ?_
      obtain ⟨x, h1, h2⟩ := h
      exact ⟨_, _, _, _, _, _, _, _, h1, pl_same h2 hxa⟩
    · have e : stepA 1 ((i + 1 : Nat) : Int) f b_y pc wn wc wg cl rl = (cl.set i (0, (cl[i]!).2.1, 0, 0, 0, 0, 0, 0, 0, 0), ((i + 1 : Nat) : Int) :: rl, true) := by
        unfold stepA
        rw [if_pos rfl, if_pos ⟨hc, (by rw [cell_i]; exact hs)⟩, cell_i, idx_i]
      rw [e]
      cases rl with
      | nil =>
        rw [hq_i (by decide)]
        refine (run_free_ok0 (by omega) (by omega) hi hs hxa hxc hxb hown).mono fun e' W h => ?_
        obtain ⟨x, h1, h2⟩ := h
        exact ⟨_, _, _, _, _, _, _, _, h1, pl_new h2⟩
      | cons r rest =>
        rw [hq_i (by decide)]
        refine (run_free_ok (by omega) (by omega) hrl hi hs (by simp) hxa hxc hxb hown).mono fun e' W h => ?_
        obtain ⟨x, h1, h2⟩ := h
        exact ⟨_, _, _, _, _, _, _, _, h1, pl_new h2⟩
  · have e : stepA 1 cell f b_y pc wn wc wg cl rl = (cl, rl, false) := by
      unfold stepA
      rw [if_pos rfl, if_neg (fun h => hc h.1)]
    rw [e]
    by_cases h1 : cell < 1
    · refine (run_free_lo (by omega) (by omega) hrl h1 hxa hxc hxb hown).mono fun e' W h => ?_
      obtain ⟨x, h1, h2⟩ := h
      exact ⟨_, _, _, _, _, _, _, _, h1, pl_same h2 hxa⟩
    · refine (run_free_hi (by omega) (by omega) hrl ⟨by omega, by unfold thr at hc; omega⟩ hxa hxc hxb hown).mono fun e' W h => ?_
      obtain ⟨x, h1, h2⟩ := h
      exact ⟨_, _, _, _, _, _, _, _, h1, pl_same h2 hxa⟩
theorem run_2 (hcl : cl.length ≤ 1000) (htl : tl.length ≤ 999) (hrl : rl.length ≤ 1000) (cell f b_y pc wn wc wg : Int) (hxa : rdA (.slice Ar rl.length cr) 1 encT3 rl ∈ X) (hxc : rdA (.slice Bc cl.length kc) 10 encT43 cl ∈ X) (hxb : rdA (.slice Br rl.length kr) 1 encT3 rl ∈ X) (hown : HoldR w (partsP g Ac kq cl.length At ct tl cl Ar rl.length cr X)) : RC1 w g Ac kq At ct tl cl Ar rl cr Bc kc Br kr X mk 2 cell f b_y pc wn wc wg := by
  unfold RC1
  by_cases hc : thr cl cell
  · obtain ⟨i, hi, rfl⟩ : ∃ i : Nat, i < cl.length ∧ cell = ((i + 1 : Nat) : Int) := ⟨(cell - 1).toNat, by unfold thr at hc; omega, by unfold thr at hc; omega⟩
    by_cases hs : (cl[i]!).1 = 1
    · have e : stepA 2 ((i + 1 : Nat) : Int) f b_y pc wn wc wg cl rl = (cl.set i (2, (cl[i]!).2), rl, true) := by
        unfold stepA
        rw [if_neg (by decide), if_pos rfl, if_pos ⟨hc, (by rw [cell_i]; exact hs)⟩, cell_i, idx_i]
      rw [e]
      rw [hq_i (by decide)]
      refine (run_retire_ok (by omega) (by omega) hrl hi hs hxa hxc hxb hown).mono fun e' W h => ?_
      obtain ⟨x, h1, h2⟩ := h
      exact ⟨_, _, _, _, _, _, _, _, h1, pl_same h2 hxa⟩
    · have e : stepA 2 ((i + 1 : Nat) : Int) f b_y pc wn wc wg cl rl = (cl, rl, false) := by
        unfold stepA
        rw [if_neg (by decide), if_pos rfl, if_neg (fun h => hs (by rw [← cell_i cl i]; exact h.2))]
      rw [e]
      refine (run_retire_st (by omega) (by omega) hrl hi hs hxa hxc hxb hown).mono fun e' W h => ?_
      obtain ⟨x, h1, h2⟩ := h
      exact ⟨_, _, _, _, _, _, _, _, h1, pl_same h2 hxa⟩
  · have e : stepA 2 cell f b_y pc wn wc wg cl rl = (cl, rl, false) := by
      unfold stepA
      rw [if_neg (by decide), if_pos rfl, if_neg (fun h => hc h.1)]
    rw [e]
    by_cases h1 : cell < 1
    · refine (run_retire_lo (by omega) (by omega) hrl h1 hxa hxc hxb hown).mono fun e' W h => ?_
      obtain ⟨x, h1, h2⟩ := h
      exact ⟨_, _, _, _, _, _, _, _, h1, pl_same h2 hxa⟩
    · refine (run_retire_hi (by omega) (by omega) hrl ⟨by omega, by unfold thr at hc; omega⟩ hxa hxc hxb hown).mono fun e' W h => ?_
      obtain ⟨x, h1, h2⟩ := h
      exact ⟨_, _, _, _, _, _, _, _, h1, pl_same h2 hxa⟩
theorem run_3 (hcl : cl.length ≤ 1000) (htl : tl.length ≤ 999) (hrl : rl.length ≤ 1000) (cell f b_y pc wn wc wg : Int) (hxa : rdA (.slice Ar rl.length cr) 1 encT3 rl ∈ X) (hxc : rdA (.slice Bc cl.length kc) 10 encT43 cl ∈ X) (hxb : rdA (.slice Br rl.length kr) 1 encT3 rl ∈ X) (hown : HoldR w (partsP g Ac kq cl.length At ct tl cl Ar rl.length cr X)) : RC1 w g Ac kq At ct tl cl Ar rl cr Bc kc Br kr X mk 3 cell f b_y pc wn wc wg := by
  unfold RC1
  by_cases hc : thr cl cell
  · obtain ⟨i, hi, rfl⟩ : ∃ i : Nat, i < cl.length ∧ cell = ((i + 1 : Nat) : Int) := ⟨(cell - 1).toNat, by unfold thr at hc; omega, by unfold thr at hc; omega⟩
    by_cases h0 : f = 0
    · subst h0
      have e : stepA 3 ((i + 1 : Nat) : Int) 0 b_y pc wn wc wg cl rl = (cl.set i ((cl[i]!).1, (cl[i]!).2.1, (cl[i]!).2.2.1, (cl[i]!).2.2.2.1, wn, wc, wg, (cl[i]!).2.2.2.2.2.2.2), rl, true) := by
        unfold stepA
        rw [if_neg (by decide), if_neg (by decide), if_pos rfl, if_pos ⟨hc, rfl⟩, cell_i, idx_i]
      rw [e]
      rw [hq_i (by decide)]
      refine (run_store_k0 (by omega) (by omega) hrl hi hxa hxc hxb hown).mono fun e' W h => ?_
      obtain ⟨x, h1, h2⟩ := h
      exact ⟨_, _, _, _, _, _, _, _, h1, pl_same h2 hxa⟩
    · by_cases h1 : f = 1
      · subst h1
        have e : stepA 3 ((i + 1 : Nat) : Int) 1 b_y pc wn wc wg cl rl = (cl.set i ((cl[i]!).1, (cl[i]!).2.1, (cl[i]!).2.2.1, (cl[i]!).2.2.2.1, (cl[i]!).2.2.2.2.1, (cl[i]!).2.2.2.2.2.1, (cl[i]!).2.2.2.2.2.2.1, wn, wc, wg), rl, true) := by
          unfold stepA
          rw [if_neg (by decide), if_neg (by decide), if_pos rfl, if_neg (fun h => h0 h.2), if_pos ⟨hc, rfl⟩, cell_i, idx_i]
        rw [e]
        rw [hq_i (by decide)]
        refine (run_store_k1 (by omega) (by omega) hrl hi hxa hxc hxb hown).mono fun e' W h => ?_
        obtain ⟨x, h1, h2⟩ := h
        exact ⟨_, _, _, _, _, _, _, _, h1, pl_same h2 hxa⟩
      · have e : stepA 3 ((i + 1 : Nat) : Int) f b_y pc wn wc wg cl rl = (cl, rl, false) := by
          unfold stepA
          rw [if_neg (by decide), if_neg (by decide), if_pos rfl, if_neg (fun h => h0 h.2), if_neg (fun h => h1 h.2)]
        rw [e]
        by_cases h2 : f < 0
        · refine (run_store_f0 (by omega) (by omega) hrl hi h2 hxa hxc hxb hown).mono fun e' W h => ?_
          obtain ⟨x, h1, h2⟩ := h
          exact ⟨_, _, _, _, _, _, _, _, h1, pl_same h2 hxa⟩
        · refine (run_store_f2 (by omega) (by omega) hrl hi (by omega) hxa hxc hxb hown).mono fun e' W h => ?_
          obtain ⟨x, h1, h2⟩ := h
          exact ⟨_, _, _, _, _, _, _, _, h1, pl_same h2 hxa⟩
  · have e : stepA 3 cell f b_y pc wn wc wg cl rl = (cl, rl, false) := by
      unfold stepA
      rw [if_neg (by decide), if_neg (by decide), if_pos rfl, if_neg (fun h => hc h.1), if_neg (fun h => hc h.1)]
    rw [e]
    by_cases h1 : cell < 1
    · refine (run_store_lo (by omega) (by omega) hrl h1 hxa hxc hxb hown).mono fun e' W h => ?_
      obtain ⟨x, h1, h2⟩ := h
      exact ⟨_, _, _, _, _, _, _, _, h1, pl_same h2 hxa⟩
    · refine (run_store_hi (by omega) (by omega) hrl ⟨by omega, by unfold thr at hc; omega⟩ hxa hxc hxb hown).mono fun e' W h => ?_
      obtain ⟨x, h1, h2⟩ := h
      exact ⟨_, _, _, _, _, _, _, _, h1, pl_same h2 hxa⟩
theorem run_0 (hcl : cl.length ≤ 1000) (htl : tl.length ≤ 999) (hrl : rl.length ≤ 1000) (hI : INV cl rl) (k cell f b_y pc wn wc wg : Int) (hk : k ≠ 1 ∧ k ≠ 2 ∧ k ≠ 3) (hxa : rdA (.slice Ar rl.length cr) 1 encT3 rl ∈ X) (hxc : rdA (.slice Bc cl.length kc) 10 encT43 cl ∈ X) (hxb : rdA (.slice Br rl.length kr) 1 encT3 rl ∈ X) (hown : HoldR w (partsP g Ac kq cl.length At ct tl cl Ar rl.length cr X)) : RC1 w g Ac kq At ct tl cl Ar rl cr Bc kc Br kr X mk k cell f b_y pc wn wc wg := by
  unfold RC1
  cases rl with
  | nil =>
    have e : stepA k cell f b_y pc wn wc wg cl [] = (cl, [], false) := by
      unfold stepA
      rw [if_neg hk.1, if_neg hk.2.1, if_neg hk.2.2]
    rw [e]
    refine (run_alloc_no (by omega) (by omega) hrl hk rfl hxa hxc hxb hown).mono fun e' W h => ?_
    obtain ⟨x, h1, h2⟩ := h
    exact ⟨_, _, _, _, _, _, _, _, h1, pl_same h2 hxa⟩
  | cons r rest =>
    have hr := hI.rng r List.mem_cons_self
    obtain ⟨i, hi, rfl⟩ : ∃ i : Nat, i < cl.length ∧ r = ((i + 1 : Nat) : Int) := ⟨(r - 1).toNat, by unfold thr at hr; omega, by unfold thr at hr; omega⟩
    have e : stepA k cell f b_y pc wn wc wg cl (((i + 1 : Nat) : Int) :: rest) = (cl.set i (1, IntKind.wrap .i64 ((cl[i]!).2.1 + 1), b_y, pc, 0, 0, 0, 0, 0, 0), rest, true) := by
      unfold stepA
      rw [if_neg hk.1, if_neg hk.2.1, if_neg hk.2.2]
      simp only
      rw [cell_i, idx_i]
    rw [e]
    have hrd : Rd w (.slice Ar (((i + 1 : Nat) : Int) :: rest).length cr) 1 encT3 (((i + 1 : Nat) : Int) :: rest) := pool_rd hxa (hown.all (pool X) (by simp [partsP]))
    rw [hq_0 hk]
    refine (run_alloc_is (by omega) (by omega) hrl hk hi (by simp) hrd.cap.2 rfl hxa hxc hxb hown).mono fun e' W h => ?_
    obtain ⟨x, h1, h2⟩ := h
    exact ⟨_, _, _, _, _, _, _, _, h1, pl_cut h2 hxa hrd.cap.2⟩
end
abbrev O8 := Int × Int × Int × Int × Int × Int × Int × Int
def stepO (o : O8) (cl : List C10) (rl : List Int) : List C10 × List Int × Bool := stepA o.1 o.2.1 o.2.2.1 o.2.2.2.1 o.2.2.2.2.1 o.2.2.2.2.2.1 o.2.2.2.2.2.2.1 o.2.2.2.2.2.2.2 cl rl
theorem inv_o {cl : List C10} {rl : List Int} (h : INV cl rl) (o : O8) : INV (stepO o cl rl).1 (stepO o cl rl).2.1 ∧ (stepO o cl rl).1.length = cl.length := inv_step h _ _ _ _ _ _ _ _
theorem nd_len : ∀ (n : Nat) (rl : List Int), (∀ x ∈ rl, 1 ≤ x ∧ x ≤ (n : Int)) → rl.Nodup → rl.length ≤ n
  | 0, rl, h, _ => by
    cases rl with
    | nil => simp
    | cons x r => have := h x List.mem_cons_self; omega
  | n + 1, rl, h, hd => by
    by_cases hm : ((n + 1 : Nat) : Int) ∈ rl
    · have h1 := nd_len n (rl.erase ((n + 1 : Nat) : Int)) (fun x hx => by
        have h2 := (hd.mem_erase_iff).1 hx
        have h3 := h x h2.2
        have h4 := h2.1
        omega) (hd.erase _)
      rw [List.length_erase_of_mem hm] at h1
      omega
    · have h1 := nd_len n rl (fun x hx => by
        have h3 := h x hx
        by_cases e : x = ((n + 1 : Nat) : Int)
        · exact absurd (e ▸ hx) hm
        · omega) hd
      omega
theorem INV.len {cl : List C10} {rl : List Int} (h : INV cl rl) : rl.length ≤ cl.length := nd_len _ _ (fun x hx => h.rng x hx) h.nd
theorem INV.count {cl : List C10} {rl : List Int} (h : INV cl rl) {i : Nat} (hi : i < cl.length) : rl.count ((i + 1 : Nat) : Int) = if (cl[i]!).1 = 0 then 1 else 0 := by
  rw [h.nd.count]
  have h1 := h.free i hi
  have e : ((i + 1 : Nat) : Int) = (i : Int) + 1 := by omega
  rw [e]
  split <;> split <;> simp_all
abbrev RX := Option Addr × Nat × Option Addr × Nat × Option Addr × Nat × Option Addr × Nat
def hqO (o : O8) (cl : List C10) (rl : List Int) (sl : Option Addr × Nat × Nat) : H12 := hqA o.1 o.2.1 cl rl sl
theorem run_is {w : World} {g : Nat} {Ac : Option Addr} {kq n : Nat} {At : Option Addr} {ct : Nat} {tl : List H12} {cl : List C10} {Ar : Option Addr} {rl : List Int} {cr : Nat} {Bc : Option Addr} {kc : Nat} {Br : Option Addr} {kr : Nat} {mk : Int} {X : List Asrt} (o : O8) (hn : cl.length = n) (hcl : n ≤ 1000) (htl : tl.length ≤ 999) (hI : INV cl rl) (hxa : rdA (.slice Ar rl.length cr) 1 encT3 rl ∈ X) (hxc : rdA (.slice Bc n kc) 10 encT43 cl ∈ X) (hxb : rdA (.slice Br rl.length kr) 1 encT3 rl ∈ X) (hown : HoldR w (partsP g Ac kq n At ct tl cl Ar rl.length cr X)) :
    Calls Try.prog 11 #[.pointer (some ⟨g, 0, none⟩), .agg #[.slice Bc n kc, .slice Br rl.length kr, .int .i64 mk], .agg #[.int .i64 o.1, .int .i64 o.2.1, .int .i64 o.2.2.1, .int .i64 o.2.2.2.1, .int .i64 o.2.2.2.2.1, .int .i64 o.2.2.2.2.2.1, .int .i64 o.2.2.2.2.2.2.1, .int .i64 o.2.2.2.2.2.2.2]] w fun e W => ∃ x : RX, e = .returned (.tuple #[.agg #[.slice x.2.2.2.2.1 n x.2.2.2.2.2.1, .slice x.2.2.2.2.2.2.1 (stepO o cl rl).2.1.length x.2.2.2.2.2.2.2, .int .i64 (mkOf mk (stepO o cl rl).2.2)], .bool true]) ∧ HoldR W (partsP g Ac kq n x.1 x.2.1 (apT tl (hqO o cl rl (Ar, rl.length, cr)) (stepO o cl rl).2.2) (stepO o cl rl).1 x.2.2.1 (stepO o cl rl).2.1.length x.2.2.2.1 (addX n (stepO o cl rl).1 (stepO o cl rl).2.1 x.2.2.1 x.2.2.2.1 x.2.2.2.2.1 x.2.2.2.2.2.1 x.2.2.2.2.2.2.1 x.2.2.2.2.2.2.2 X) ++ [oldF w (partsP g Ac kq n At ct tl cl Ar rl.length cr X)]) := by
  subst hn
  have hrl := hI.len
  obtain ⟨k, cell, f, b_y, pc, wn, wc, wg⟩ := o
  have key : RC1 w g Ac kq At ct tl cl Ar rl cr Bc kc Br kr X mk k cell f b_y pc wn wc wg := by
    by_cases h1 : k = 1
    · subst h1
      exact run_1 hcl htl (by omega) cell f b_y pc wn wc wg hxa hxc hxb hown
    · by_cases h2 : k = 2
      · subst h2
        exact run_2 hcl htl (by omega) cell f b_y pc wn wc wg hxa hxc hxb hown
      · by_cases h3 : k = 3
        · subst h3
          exact run_3 hcl htl (by omega) cell f b_y pc wn wc wg hxa hxc hxb hown
        · exact run_0 hcl htl (by omega) hI k cell f b_y pc wn wc wg ⟨h1, h2, h3⟩ hxa hxc hxb hown
  refine Calls.mono key fun e W h => ?_
  obtain ⟨At', ct', Ar', cr', Bc', kc', Br', kr', h1, h2⟩ := h
  exact ⟨(At', ct', Ar', cr', Bc', kc', Br', kr'), h1, h2⟩
theorem pmF {P : Program} {Q : Exit → Act → World → Prop} {F F' : List Asrt} {s : St} (L : List Blk) (ix : List Nat) (hn : ix.Nodup) (e : ix.map (fun i => (L.map blkA ++ F)[i]?) = (L.map blkA ++ F').map some) (h : Go P Q F' s) (hL : s.L = L := by kernel_rfl) : Go P Q F s := by
  intro W hW
  refine h W ?_
  subst hL
  exact HoldR.ix hW ix hn e
end Go.Proofs.Ytbijkflfphppgaa.Sr
