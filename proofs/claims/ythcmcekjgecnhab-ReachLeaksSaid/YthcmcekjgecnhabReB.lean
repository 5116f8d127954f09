/- What is reached, plainly; a copy of words. No condition beside those that each theorem names. -/
import Derived.Test.YthcmcekjgecnhabReA
namespace Go.Proofs.Ythcmcekjgecnhab.Sr
open Go.RowKit Go.Proofs.YthcmcekjgecnhabM.Mach
set_option linter.unusedVariables false
set_option linter.unusedSimpArgs false
theorem there_b {n0 x g0 : Int} {b : Bool} {w : World} {cl : List C10} {Ac : Option Addr} {kc : Nat} (hb : thereF (n0, x, g0) cl = b) (hc : Rd w (.slice Ac cl.length kc) 10 encT38 cl) (hcl : cl.length ≤ 1000) : Calls Try.prog 34 #[.agg #[.int .i64 n0, .int .i64 x, .int .i64 g0], .slice Ac cl.length kc] w fun e w' => e = .returned (.bool b) ∧ Below w.heap.size w w' := by
  subst hb
  exact there_is n0 x g0 hc hcl
theorem thereF_rng {w : W3} {cl : List C10} (h : thereF w cl = true) : 0 < w.2.1 ∧ w.2.1 ≤ (cl.length : Int) := by
  unfold thereF at h
  have := of_decide_eq_true h
  exact ⟨this.1, this.2.1⟩
def jx (w : W3) : Nat := (w.2.1 - 1).toNat
theorem jx_lt {w : W3} {cl : List C10} (h : thereF w cl = true) : jx w < cl.length := by
  have := thereF_rng h
  unfold jx
  omega
inductive RW (lw : List W3) (cl : List C10) : W3 → Prop
  | root {w : W3} : w ∈ lw → RW lw cl w
  | a {w : W3} : RW lw cl w → thereF w cl = true → RW lw cl (f0 cl[jx w]!)
  | b {w : W3} : RW lw cl w → thereF w cl = true → RW lw cl (f1 cl[jx w]!)
def ReachC (lw : List W3) (cl : List C10) (i : Nat) : Prop := ∃ w, RW lw cl w ∧ thereF w cl = true ∧ jx w = i
def okW (cl : List C10) (T : List W3) (bs : List Bool) (w : W3) : Prop := w ∈ T ∨ (thereF w cl = true → bs[jx w]! = true)
structure RInv (lw : List W3) (cl : List C10) (T : List W3) (bs : List Bool) : Prop where
  len : bs.length = cl.length
  bound : T.length + bs.count false ≤ lw.length + cl.length
  snd : ∀ i, i < cl.length → bs[i]! = true → ReachC lw cl i
  todo : ∀ w ∈ T, RW lw cl w
  root : ∀ w ∈ lw, okW cl T bs w
  flds : ∀ i, i < cl.length → bs[i]! = true → okW cl T bs (f0 cl[i]!) ∧ okW cl T bs (f1 cl[i]!)
def Reachs (lw : List W3) (cl : List C10) (bs : List Bool) : Prop := bs.length = cl.length ∧ ∀ i, i < cl.length → (bs[i]! = true ↔ ReachC lw cl i)
theorem rep_get (n i : Nat) (h : i < n) : (List.replicate n false)[i]! = false := by
  rw [getElem!_pos _ i (by simpa using h), List.getElem_replicate]
theorem rinv0 (lw : List W3) (cl : List C10) : RInv lw cl lw (List.replicate cl.length false) := by
  refine ⟨by simp, by simp, fun i hi h => ?_, fun w hw => .root hw, fun w hw => .inl hw, fun i hi h => ?_⟩
  · rw [rep_get _ _ hi] at h
    cases h
  · rw [rep_get _ _ hi] at h
    cases h
theorem mem_take {α : Type} [Inhabited α] {T : List α} {m : Nat} (hm : T.length = m + 1) {w : α} (h : w ∈ T) : w ∈ T.take m ∨ w = T[m]! := by
  have e : T = T.take m ++ [T[m]!] := by
    have h1 : m < T.length := by omega
    rw [getElem!_pos T m h1, ← List.take_succ_eq_append_getElem h1, List.take_of_length_le (show T.length ≤ m + 1 by omega)]
  rw [e] at h
  rcases List.mem_append.1 h with h | h
  · exact .inl h
  · exact .inr (by simpa using h)
theorem rinv_skip {lw : List W3} {cl : List C10} {T : List W3} {bs : List Bool} {m : Nat} (h : RInv lw cl T bs) (hm : T.length = m + 1) (hw : thereF T[m]! cl = true → bs[jx T[m]!]! = true) : RInv lw cl (T.take m) bs := by
  have ok : ∀ {w}, okW cl T bs w → okW cl (T.take m) bs w := by
    intro w hk
    rcases hk with hk | hk
    · rcases mem_take hm hk with h1 | rfl
      · exact .inl h1
      · exact .inr hw
    · exact .inr hk
  refine ⟨h.len, ?_, h.snd, fun w hw => h.todo w (List.mem_of_mem_take hw), fun w hw => ok (h.root w hw), fun i hi hb => ⟨ok (h.flds i hi hb).1, ok (h.flds i hi hb).2⟩⟩
  have := h.bound
  have := List.length_take_le m T
  omega
theorem set_get {bs : List Bool} {j i : Nat} (h : bs[i]! = true) : (bs.set j true)[i]! = true := by
  by_cases hi : i < bs.length
  · rw [getElem!_pos _ i (by simpa using hi), List.getElem_set]
    split
    · rfl
    · rw [getElem!_pos bs i hi] at h
      exact h
  · rw [getElem!_neg bs i hi] at h
    cases h
theorem get_set {bs : List Bool} {j i : Nat} (h : (bs.set j true)[i]! = true) : i = j ∨ bs[i]! = true := by
  by_cases hi : i < bs.length
  · rw [getElem!_pos _ i (by simpa using hi), List.getElem_set] at h
    split at h
    · rename_i e
      exact .inl e.symm
    · right
      rw [getElem!_pos bs i hi]
      exact h
  · rw [getElem!_neg _ i (by simpa using hi)] at h
    cases h
theorem count_set {bs : List Bool} {j : Nat} (hj : j < bs.length) (h : bs[j]! = false) : (bs.set j true).count false + 1 = bs.count false := by
  rw [getElem!_pos bs j hj] at h
  have h1 : 0 < bs.count false := List.count_pos_iff.2 (h ▸ List.getElem_mem hj)
  rw [List.count_set hj, h]
  simp
  omega
theorem rinv_mark {lw : List W3} {cl : List C10} {T : List W3} {bs : List Bool} {m : Nat} (h : RInv lw cl T bs) (hm : T.length = m + 1) (hw : thereF T[m]! cl = true) (hb : bs[jx T[m]!]! = false) : RInv lw cl (T.take m ++ [f0 cl[jx T[m]!]!, f1 cl[jx T[m]!]!]) (bs.set (jx T[m]!) true) := by
  have hj := jx_lt hw
  have hwT : T[m]! ∈ T := by
    rw [getElem!_pos T m (by omega)]
    exact List.getElem_mem _
  have hR := h.todo _ hwT
  have ok : ∀ {w}, okW cl T bs w → okW cl (T.take m ++ [f0 cl[jx T[m]!]!, f1 cl[jx T[m]!]!]) (bs.set (jx T[m]!) true) w := by
    intro w hk
    rcases hk with hk | hk
    · rcases mem_take hm hk with h1 | rfl
      · exact .inl (List.mem_append_left _ h1)
      · refine .inr fun _ => ?_
        rw [getElem!_pos _ _ (by rw [List.length_set, h.len]; exact hj), List.getElem_set_self]
    · exact .inr fun ht => set_get (hk ht)
  refine ⟨by rw [List.length_set, h.len], ?_, fun i hi hbi => ?_, fun w hw' => ?_, fun w hw' => ok (h.root w hw'), fun i hi hbi => ?_⟩
  · have h1 := h.bound
    have h2 := count_set (by rw [h.len]; exact hj) hb
    have h3 := List.length_take_le m T
    simp only [List.length_append, List.length_cons, List.length_nil]
    omega
  · rcases get_set hbi with rfl | hbi
    · exact ⟨_, hR, hw, rfl⟩
    · exact h.snd i hi hbi
  · rcases List.mem_append.1 hw' with h1 | h1
    · exact h.todo w (List.mem_of_mem_take h1)
    · simp only [List.mem_cons, List.not_mem_nil, or_false] at h1
      rcases h1 with rfl | rfl
      · exact .a hR hw
      · exact .b hR hw
  · rcases get_set hbi with rfl | hbi
    · exact ⟨.inl (List.mem_append_right _ (by simp)), .inl (List.mem_append_right _ (by simp))⟩
    · exact ⟨ok (h.flds i hi hbi).1, ok (h.flds i hi hbi).2⟩
theorem rinv_end {lw : List W3} {cl : List C10} {bs : List Bool} (h : RInv lw cl [] bs) : Reachs lw cl bs := by
  have key : ∀ w, RW lw cl w → thereF w cl = true → bs[jx w]! = true := by
    intro w hw
    induction hw with
    | root hm =>
      intro ht
      rcases h.root _ hm with hk | hk
      · cases hk
      · exact hk ht
    | a hw ht ih =>
      intro ht2
      rcases (h.flds _ (jx_lt ht) (ih ht)).1 with hk | hk
      · cases hk
      · exact hk ht2
    | b hw ht ih =>
      intro ht2
      rcases (h.flds _ (jx_lt ht) (ih ht)).2 with hk | hk
      · cases hk
      · exact hk ht2
  exact ⟨h.len, fun i hi => ⟨h.snd i hi, fun ⟨w, hw, ht, e⟩ => e ▸ key w hw ht⟩⟩
theorem count_lt {bs : List Bool} {j : Nat} (hj : j < bs.length) (h : bs[j]! = false) : 0 < bs.count false := by
  have := count_set hj h
  omega
def cloneW_n_l0 (c : Nat) (xs : List (W3)) : List Value := [.slice none xs.length c, zz, .slice none 0 0, .slice none xs.length c, .bool true, zz, zz, zz]
def cloneW_s_l0 (ad : Addr) (c : Nat) (xs : List (W3)) (γ1 : Nat → Nat) : List Value := [.slice (some ad) xs.length c, zz, .slice none 0 0, .slice (some ad) xs.length c, .bool false, .slice (some ⟨γ1 3, 0, none⟩) 0 0, .slice (some ad) xs.length c, zz]
set_option maxHeartbeats 8000000 in
set_option maxRecDepth 100000 in
theorem cloneW {w : World} {A : Option Addr} {c : Nat} {xs : List (W3)} (h : Rd w (.slice A xs.length c) 3 encT35 xs) (hl : xs.length ≤ 1000) : Calls Try.prog 33 #[.slice A xs.length c] w fun e w' => ∃ r : RV, e = .returned (.slice r.1 xs.length r.2) ∧ Fresh w w' [rowA 35 3 (.slice r.1 xs.length r.2) xs.length (xs.flatMap encT35)] := by
  rcases A with _ | ad
  · skip
    have hl0 : xs = [] := by
      obtain ⟨A, c', e0, hc, hA⟩ := h
      cases e0
      rcases hA with h | ⟨B, o, h, _⟩
      · exact h
      · cases h
    refine enter (args := [.slice none xs.length c]) (fn := Try.f33) rfl (c := bdy Try.f33) (by kernel_rfl) ?_
    refine ck 4 [] [] fun γ1 => ⟨⟨kt (bdy Try.f33) [1, 0, 1, 0, 1] [], (cloneW_n_l0 c xs), []⟩, [], [], by kernel_rfl, .nil, ?_⟩
    subst hl0
    refine nilrow 35 3 ?_
    refine rt (.slice none 0 0) [] [] (fun W hW => ⟨(none, 0), rfl, Fresh.of hW (.cons_cons _ (.cons_cons _ .slnil))⟩)
  · skip
    refine enter (args := [.slice (some ad) xs.length c]) (fn := Try.f33) rfl (c := bdy Try.f33) (by kernel_rfl) ?_
    refine ck 5 [] [] fun γ1 => ⟨⟨kt (bdy Try.f33) [1, 1, 0, 2] [], (cloneW_s_l0 ad c xs γ1), [(γ1 3, 35, [])]⟩, [], [], by kernel_rfl, .nil, ?_⟩
    refine zrow 35 3 (some ⟨γ1 3, 0, none⟩) ?_
    refine aps (enc := encT35) (l := xs) 0 24 rfl (fun W hW => (h.below (hW.old 1 rfl))) encT35_len encT35_cell (by first | omega | (simp only [List.length_append, List.length_cons, List.length_nil]; omega)) (by simp only [maxLen]; first | omega | (simp only [List.length_append, List.length_cons, List.length_nil]; omega)) (xs.length) (xs.flatMap encT35) (by simp) (by simp) fun A2 c2 => ?_
    refine ck 1 [] [] fun γ3 => ⟨⟨kt (bdy Try.f33) [1, 1, 1] [], upv (cloneW_s_l0 ad c xs γ1) [(2, .slice A2 xs.length c2), (7, .slice A2 xs.length c2)], [(γ1 3, 35, [])]⟩, [], [], by kernel_rfl, .nil, ?_⟩
    refine rt (.slice A2 xs.length c2) [] [] (fun W hW => ?_)
    exact ⟨(A2, c2), rfl, Fresh.of hW (.cons_cons _ (.cons_cons _ .slnil))⟩
end Go.Proofs.Ythcmcekjgecnhab.Sr
