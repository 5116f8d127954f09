/- Drawn calls beside loads that wait, and beside blocks that come up by and by. No condition beside those that each theorem names. -/
import Derived.Test.YtbijkflfphppgaaMachC
namespace Go.Proofs.YtbijkflfphppgaaM.Mach
open Go.RowKit
set_option linter.unusedVariables false
set_option linter.unusedSimpArgs false
/-! ### Drawn calls beside loads that wait, and beside blocks that come up by and by -/
section
variable {P : Program} {Q : Exit → Act → World → Prop} {K : Exit → Act → World → Prop} {F : List Asrt}
def dcsB (s : DS) (j : Nat) : Bool := s.al.isEmpty && dcB s j
/-- A drawn call that leaves all parts as they were. -/
theorem dcs {s : DS} (j : Nat) {f : FuncId} {args : Array Value} (L0 : List Blk) (Pre Rest : List Asrt) {X : Type} {v : Value} (hp : ∀ W, Hold W L0 F → HoldR W (Pre ++ Rest)) (hp' : ∀ W, HoldR W (Pre ++ Rest) → Hold W L0 F) (hc : ∀ W, HoldR W (Pre ++ Rest) → Calls P f args W fun e W' => ∃ _x : X, e = .returned v ∧ HoldR W' (Pre ++ [oldF W Pre])) (hn : DG P K F (dput s j v)) (h : dcallAt P s j = some (f, args) := by kernel_rfl) (hB : dcsB s j = true := by kernel_rfl) (hL : s.L = L0 := by kernel_rfl) : DG P K F s := by
  subst hL
  intro hw
  unfold dcsB at hB
  simp only [Bool.and_eq_true] at hB
  obtain ⟨hal, hB⟩ := hB
  obtain ⟨o, ho, hjk, hcl, hda, hlk⟩ := dcB_spec hB
  have hal' : s.al = [] := by simpa using hal
  refine ga_op hw ho hjk hcl hda fun ls a W A hp0 hr hdl hev hwt => ?_
  have hA : A = [] := by
    have := hp0.als
    rw [hal'] at this
    cases this
    rfl
  subst hA
  unfold dcallAt at h
  rw [ho] at h
  simp only at h
  split at h
  · rename_i hw1
    split at h
    · rename_i f' args' hs
      cases h
      have hW' : HoldR W (Pre ++ Rest) := hp W hp0.hold
      refine wpOp_step ho fun K' hK => ?_
      rw [if_pos (hwt.trans hw1)]
      unfold Oper.wp
      rw [hev, semP_run _ _ W hs, Oper.upon_enter]
      refine (hc W hW').mono fun e W2 hR => ?_
      obtain ⟨x, rfl, hH⟩ := hR
      have h2 : Hold W2 s.L F := hp' _ (parts_next hW' hH)
      have hdp : dput s j v = ⟨s.ops, j :: s.kn, s.pd, s.al, setd s.l o.dst v, s.L⟩ := by
        unfold dput
        rw [ho]
        rfl
      rw [hdp] at hn
      refine hK _ _ ((hn ?_) _ _ W2 [] (pre_next hw hp0 ho hjk hr v (fun b hb hnb => absurd hb hnb) h2))
      exact dw_next hw ho hjk hlk v (fun b hb => hb) fun b hb o' v' ho' hC => hC
    · cases h
  · cases h
theorem HoldR.ixA {W : World} {B R R' : List Asrt} (h : HoldR W (B ++ R)) (ix : List Nat) (hn : ix.Nodup) (e : ix.map (fun i => R[i]?) = R'.map some) : HoldR W (B ++ R') := by
  refine h.ix (List.range B.length ++ ix.map (· + B.length)) ?_ ?_
  · refine List.nodup_append.2 ⟨List.nodup_range, List.Pairwise.map _ (fun a b h e => h (Nat.add_right_cancel e)) hn, fun a ha b hb => ?_⟩
    rw [List.mem_range] at ha
    obtain ⟨c, _, rfl⟩ := List.mem_map.1 hb
    omega
  · rw [List.map_append, List.map_append, ← e, List.map_map]
    congr 1
    · apply List.ext_getElem?
      intro i
      rw [List.getElem?_map, List.getElem?_map]
      by_cases hi : i < B.length
      · rw [List.getElem?_range hi, Option.map_some, List.getElem?_append_left hi, List.getElem?_eq_getElem hi]
        rfl
      · rw [List.getElem?_eq_none (by simp; omega), List.getElem?_eq_none (by omega)]
        rfl
    · refine List.map_congr_left fun i _ => ?_
      show (B ++ R)[i + B.length]? = R[i]?
      rw [List.getElem?_append_right (by omega), Nat.add_sub_cancel]
theorem mid_parts {W : World} {A B C : List Asrt} (h : HoldR W (A ++ (B ++ C))) : HoldR W (B ++ (A ++ C)) := by
  refine h.perm ?_
  rw [← List.append_assoc, ← List.append_assoc]
  exact List.Perm.append_right C List.perm_append_comm
def dcgAB (P : Program) (s : DS) (j : Nat) : Bool := match s.ops[j]? with
  | none => false
  | some o => wantd s.ops s.l o && dcB s j && s.pd.all (fun b => waitsT s.ops s.ops.size j b || pureB P s b)
/-- A drawn call beside blocks that come up by and by. -/
theorem dcgA {s : DS} (j : Nat) {f : FuncId} {args : Array Value} (L0 : List Blk) (Pre Rest : List Asrt) {X : Type} {v : X → Value} {Post : X → List Asrt} (L' : X → List Blk) (F' : X → List Asrt) (ix1 : List Nat) (hn1 : ix1.Nodup) (e1 : ix1.map (fun i => (L0.map blkA ++ F)[i]?) = (Pre ++ Rest).map some) (ix2 : List Nat) (hn2 : ix2.Nodup) (e2 : ∀ x, ix2.map (fun i => (Post x ++ Rest)[i]?) = ((L' x).map blkA ++ F' x).map some) (hc : ∀ W, HoldR W Pre → Calls P f args W fun e W' => ∃ x, e = .returned (v x) ∧ HoldR W' (Post x ++ [oldF W Pre])) (hn : ∀ x, DG P K (F' x) (deffS s j (v x) (L' x))) (h : dcallAt P s j = some (f, args) := by kernel_rfl) (hB : dcgAB P s j = true := by kernel_rfl) (hL : s.L = L0 := by kernel_rfl) : DG P K F s := by
  subst hL
  intro hw
  unfold dcallAt at h
  split at h
  · rename_i o ho
    split at h
    · rename_i hw1
      split at h
      · rename_i f' args' hs
        cases h
        unfold dcgAB at hB
        rw [ho] at hB
        simp only [Bool.and_eq_true] at hB
        obtain ⟨⟨_, hB⟩, hpd⟩ := hB
        obtain ⟨o', ho', hjk, hcl, hda, hlk⟩ := dcB_spec hB
        rw [ho] at ho'
        cases ho'
        refine ga_op hw ho hjk hcl hda fun ls a W A hp0 hr hdl hev hwt => ?_
        have hWA : HoldR W (A.map blkA ++ (s.L.map blkA ++ F)) := by
          have := hp0.hold
          unfold Hold at this
          rw [List.map_append, List.append_assoc] at this
          exact this
        have hWL : Hold W s.L F := hWA.sub (List.sublist_append_right _ _)
        have hW' : HoldR W (Pre ++ (A.map blkA ++ Rest)) := mid_parts (hWA.ixA ix1 hn1 e1)
        refine wpOp_step ho fun K' hK => ?_
        rw [if_pos (hwt.trans hw1)]
        unfold Oper.wp
        rw [hev, semP_run _ _ W hs, Oper.upon_enter]
        refine (hc W (hW'.sub (List.sublist_append_left _ _))).mono fun e W2 hR => ?_
        obtain ⟨x, rfl, hH⟩ := hR
        have h2 : Hold W2 (A ++ L' x) (F' x) := by
          have h3 := (mid_parts (parts_next hW' hH)).ixA ix2 hn2 (e2 x)
          unfold Hold
          rw [List.map_append, List.append_assoc]
          exact h3
        have hG := hn x
        unfold deffS at hG
        rw [ho, Option.bind_some] at hG
        refine hK _ _ ((hG ?_) _ _ W2 A (pre_next hw hp0 ho hjk hr (v x) (fun b hb hnb => ?_) h2))
        · refine dw_next hw ho hjk hlk (v x) (fun b hb => (List.mem_filter.1 hb).1) fun b hb ob u hob hC => ?_
          obtain ⟨hbp, hnw⟩ := List.mem_filter.1 hb
          have h3 := List.all_eq_true.1 hpd b hbp
          simp only [Bool.or_eq_true] at h3
          rcases h3 with h3 | h3
          · simp [h3] at hnw
          · unfold pureB at h3
            rw [hob] at h3
            simp only at h3
            split at h3
            · rename_i hwf
              rcases hC with ⟨h4, _⟩ | h4
              · rw [hwf] at h4; cases h4
              · exact .inr h4
            · rename_i hwt'
              split at h3
              · rename_i v2 hs2
                rcases hC with ⟨h4, h5⟩ | ⟨h4, _⟩
                · have h6 := h5 W hWL
                  rw [semP_run _ _ W hs2] at h6
                  cases h6
                  exact .inl ⟨h4, fun W2 _ => semP_run _ _ W2 hs2⟩
                · rw [hwt'] at h4; cases h4
              · cases h3
        · have h3 : waitsT s.ops s.ops.size j b = true := by
            cases h4 : waitsT s.ops s.ops.size j b with
            | true => rfl
            | false => exact absurd (List.mem_filter.2 ⟨hb, by simp [h4]⟩) hnb
          exact waitsT_spec hp0.shut _ _ _ h3 fun o' ho' => by
            rw [ho] at ho'
            cases ho'
            exact hdl
      · cases h
    · cases h
  · cases h
end
/-! ### A bundle: many parts as one -/
def bun (L : List Asrt) : Asrt where
  holds W := HoldR W L
  fp k := ∃ A ∈ L, A.fp k
  stable := fun W W' h1 h2 h3 h4 h5 h => ⟨fun A hA => A.stable W W' h1 h2 h3 h4 (fun k hk => h5 k ⟨A, hA, hk⟩) (h.all A hA), h.sep⟩
  inb := fun W k h ⟨A, hA, hk⟩ => A.inb W k (h.all A hA) hk
theorem bun_cons {W : World} {K R : List Asrt} : HoldR W (bun K :: R) ↔ HoldR W (K ++ R) := by
  constructor
  · intro h
    have hK : HoldR W K := h.all (bun K) List.mem_cons_self
    obtain ⟨h1, h2⟩ := List.pairwise_cons.1 h.sep
    refine ⟨fun A hA => ?_, List.pairwise_append.2 ⟨hK.sep, h2, fun A hA B hB k hk hk' => h1 B hB k ⟨A, hA, hk⟩ hk'⟩⟩
    rcases List.mem_append.1 hA with h3 | h3
    · exact hK.all A h3
    · exact h.all A (List.mem_cons_of_mem _ h3)
  · intro h
    obtain ⟨h1, h2, h3⟩ := List.pairwise_append.1 h.sep
    refine ⟨fun A hA => ?_, List.pairwise_cons.2 ⟨fun B hB k ⟨A, hA, hk⟩ hk' => h3 A hA B hB k hk hk', h2⟩⟩
    rcases List.mem_cons.1 hA with rfl | h4
    · exact ⟨fun A hA => h.all A (List.mem_append_left _ hA), h1⟩
    · exact h.all A (List.mem_append_right _ h4)
theorem bun_swap {W : World} {X Y L1 L2 : List Asrt} {A : Asrt} : HoldR W (X ++ bun (L1 ++ A :: L2) :: Y) ↔ HoldR W (X ++ A :: bun (L1 ++ L2) :: Y) := by
  have e1 : ∀ B, HoldR W (X ++ B :: Y) ↔ HoldR W (B :: (X ++ Y)) := fun B => ⟨fun h => h.perm List.perm_middle, fun h => h.perm List.perm_middle.symm⟩
  have e2 : HoldR W (X ++ A :: bun (L1 ++ L2) :: Y) ↔ HoldR W (bun (L1 ++ L2) :: (A :: (X ++ Y))) :=
    ⟨fun h => h.perm (List.perm_middle.trans ((List.Perm.cons A List.perm_middle).trans (List.Perm.swap _ _ _))), fun h => h.perm (List.perm_middle.trans ((List.Perm.cons A List.perm_middle).trans (List.Perm.swap _ _ _))).symm⟩
  rw [e1, e2, bun_cons, bun_cons]
  have p : List.Perm (L1 ++ A :: L2 ++ (X ++ Y)) (L1 ++ L2 ++ A :: (X ++ Y)) := by
    rw [List.append_assoc, List.cons_append]
    exact List.perm_middle.trans (by rw [← List.append_assoc]; exact List.perm_middle.symm)
  exact ⟨fun h => h.perm p, fun h => h.perm p.symm⟩
theorem set_split {α : Type} {F : List α} {i : Nat} {B : α} (h : F[i]? = some B) : F = F.take i ++ B :: F.drop (i + 1) ∧ ∀ C, F.set i C = F.take i ++ C :: F.drop (i + 1) := by
  obtain ⟨hi, rfl⟩ := List.getElem?_eq_some_iff.1 h
  refine ⟨?_, fun C => ?_⟩
  · rw [← List.drop_eq_getElem_cons hi, List.take_append_drop]
  · rw [List.set_eq_take_append_cons_drop, if_pos hi]
section
variable {P : Program} {Q : Exit → Act → World → Prop} {F : List Asrt}
/-- A part comes out of a bundle, to stand ahead of it. -/
theorem bo {s : St} (i : Nat) {L1 L2 : List Asrt} {A : Asrt} (hF : F[i]? = some (bun (L1 ++ A :: L2))) (h : Go P Q (A :: F.set i (bun (L1 ++ L2))) s) : Go P Q F s := by
  intro W hW
  refine h W ?_
  obtain ⟨e1, e2⟩ := set_split hF
  unfold Hold at hW ⊢
  rw [e1, ← List.append_assoc] at hW
  rw [e2]
  have h2 := bun_swap.1 hW
  have p : List.Perm (s.L.map blkA ++ F.take i ++ A :: bun (L1 ++ L2) :: F.drop (i + 1)) (s.L.map blkA ++ A :: (F.take i ++ bun (L1 ++ L2) :: F.drop (i + 1))) := by
    rw [List.append_assoc]
    exact List.Perm.append_left _ List.perm_middle
  exact h2.perm p
/-- And goes back. -/
theorem bc {s : St} (i : Nat) {L1 L2 : List Asrt} {A : Asrt} (hF : F[i]? = some (bun (L1 ++ L2))) (h : Go P Q (F.set i (bun (L1 ++ A :: L2))) s) : Go P Q (A :: F) s := by
  intro W hW
  refine h W ?_
  obtain ⟨e1, e2⟩ := set_split hF
  unfold Hold at hW ⊢
  rw [e1] at hW
  rw [e2, ← List.append_assoc]
  refine bun_swap.2 ?_
  have p : List.Perm (s.L.map blkA ++ F.take i ++ A :: bun (L1 ++ L2) :: F.drop (i + 1)) (s.L.map blkA ++ A :: (F.take i ++ bun (L1 ++ L2) :: F.drop (i + 1))) := by
    rw [List.append_assoc]
    exact List.Perm.append_left _ List.perm_middle
  exact hW.perm p.symm
/-- An empty bundle. -/
theorem bnil {s : St} (h : Go P Q (bun [] :: F) s) : Go P Q F s := by
  intro W hW
  refine h W ?_
  have h1 : HoldR W (bun [] :: (s.L.map blkA ++ F)) := bun_cons.2 hW
  exact h1.perm List.perm_middle.symm
end
theorem bun_holds {W : World} {L : List Asrt} {A : Asrt} (h : (bun L).holds W) (hA : A ∈ L) : A.holds W := HoldR.all h A hA
/-! ### A pool: parts that are only read, and may lie over each other -/
def pool (X : List Asrt) : Asrt where
  holds W := ∀ A ∈ X, A.holds W
  fp k := ∃ A ∈ X, A.fp k
  stable := fun W W' h1 h2 h3 h4 h5 h A hA => A.stable W W' h1 h2 h3 h4 (fun k hk => h5 k ⟨A, hA, hk⟩) (h A hA)
  inb := fun W k h ⟨A, hA, hk⟩ => A.inb W k (h A hA) hk
theorem pool_at {W : World} {X : List Asrt} {A : Asrt} (hm : A ∈ X) (h : (pool X).holds W) : A.holds W := h A hm
theorem pool_rd {α : Type} {W : World} {X : List Asrt} {v : Value} {sz : Nat} {enc : α → List Value} {l : List α} (hm : rdA v sz enc l ∈ X) (h : (pool X).holds W) : Rd W v sz enc l := h _ hm
/-- Another part comes in. -/
theorem HoldR.pool_in {W : World} {X R : List Asrt} {A : Asrt} (h : HoldR W (A :: pool X :: R)) : HoldR W (pool (A :: X) :: R) := by
  obtain ⟨h1, h2⟩ := List.pairwise_cons.1 h.sep
  obtain ⟨h3, h4⟩ := List.pairwise_cons.1 h2
  refine ⟨fun B hB => ?_, List.pairwise_cons.2 ⟨fun B hB k hk hk' => ?_, h4⟩⟩
  · rcases List.mem_cons.1 hB with rfl | hB
    · intro C hC
      rcases List.mem_cons.1 hC with rfl | hC
      · exact h.all C List.mem_cons_self
      · exact h.all (pool X) (List.mem_cons_of_mem _ List.mem_cons_self) C hC
    · exact h.all B (List.mem_cons_of_mem _ (List.mem_cons_of_mem _ hB))
  · obtain ⟨C, hC, hk⟩ := hk
    rcases List.mem_cons.1 hC with rfl | hC
    · exact h1 B (List.mem_cons_of_mem _ hB) k hk hk'
    · exact h3 B hB k ⟨C, hC, hk⟩ hk'
/-- What follows from a part, and lies within it. -/
theorem HoldR.pool_of {W : World} {X R : List Asrt} {A B : Asrt} (h : HoldR W (pool X :: R)) (hm : A ∈ X) (hB : A.holds W → B.holds W) (hf : ∀ k, B.fp k → A.fp k) : HoldR W (pool (B :: X) :: R) := by
  obtain ⟨h1, h2⟩ := List.pairwise_cons.1 h.sep
  refine ⟨fun C hC => ?_, List.pairwise_cons.2 ⟨fun C hC k hk hk' => ?_, h2⟩⟩
  · rcases List.mem_cons.1 hC with rfl | hC
    · intro D hD
      rcases List.mem_cons.1 hD with rfl | hD
      · exact hB (h.all (pool X) List.mem_cons_self A hm)
      · exact h.all (pool X) List.mem_cons_self D hD
    · exact h.all C (List.mem_cons_of_mem _ hC)
  · obtain ⟨D, hD, hk⟩ := hk
    rcases List.mem_cons.1 hD with rfl | hD
    · exact h1 C hC k ⟨A, hm, hf k hk⟩ hk'
    · exact h1 C hC k ⟨D, hD, hk⟩ hk'
theorem HoldR.pool_mem {W : World} {X R : List Asrt} {A : Asrt} (h : HoldR W (pool X :: R)) (hm : A ∈ X) : HoldR W (pool (A :: X) :: R) := h.pool_of hm id fun _ h => h
/-- The rest of a slice that is read. -/
theorem cut_fp {α : Type} {W : World} {A : Option Addr} {n c sz a b d : Nat} {enc : α → List Value} {l : List α} (hr : Rd W (.slice A n c) sz enc l) (h4 : a ≤ b) (h5 : b ≤ l.length) (k : Nat) (hk : (rdA (.slice (cutp A a d sz) (b - a) (d - a)) sz enc ((l.take b).drop a)).fp k) : (rdA (.slice A n c) sz enc l).fp k := by
  obtain ⟨hl, o, n', c', e1⟩ := hk
  refine ⟨fun e => hl (by rw [e]; simp), ?_⟩
  cases e1' : A with
  | none =>
    rw [e1'] at e1
    unfold cutp at e1
    split at e1 <;> simp at e1
  | some x =>
    rw [e1'] at e1
    unfold cutp at e1
    obtain ⟨bl, of, inn⟩ := x
    split at e1
    · simp only [Value.slice.injEq, Option.some.injEq, Addr.mk.injEq] at e1
      obtain ⟨⟨rfl, rfl, rfl⟩, _⟩ := e1
      exact ⟨_, _, _, rfl⟩
    · simp only [Option.map_some, Addr.add_at, Value.slice.injEq, Option.some.injEq] at e1
      obtain ⟨e2, _⟩ := e1
      cases inn with
      | none =>
        simp only [Addr.add_at, Addr.mk.injEq] at e2
        obtain ⟨rfl, _⟩ := e2
        exact ⟨_, _, _, rfl⟩
      | some q =>
        exfalso
        obtain ⟨A2, c2, e3, _, h0 | ⟨B, o2, e4, _⟩⟩ := hr
        · exact hl (by rw [h0]; simp)
        · rw [e1'] at e3
          cases e3
          cases e4
theorem HoldR.pool_cut {α : Type} {W : World} {X R : List Asrt} {A : Option Addr} {n c sz a b d : Nat} {enc : α → List Value} {l : List α} (h : HoldR W (pool X :: R)) (hm : rdA (.slice A n c) sz enc l ∈ X) (h4 : a ≤ b) (h5 : b ≤ l.length) (h7 : b ≤ d) (l' : List α) (hl : (l.take b).drop a = l') : HoldR W (pool (rdA (.slice (cutp A a d sz) (b - a) (d - a)) sz enc l' :: X) :: R) := by
  subst hl
  have hr : Rd W (.slice A n c) sz enc l := h.all (pool X) List.mem_cons_self _ hm
  exact h.pool_of hm (fun h1 => Rd.cut h1 h4 h5 h7) (cut_fp hr h4 h5)
section
variable {P : Program} {Q : Exit → Act → World → Prop} {F : List Asrt}
/-- A part that is only read comes into the pool. -/
theorem pin {s : St} (i : Nat) {X : List Asrt} {A : Asrt} (hF : F[i]? = some (pool X)) (h : Go P Q (F.set i (pool (A :: X))) s) : Go P Q (A :: F) s := by
  intro W hW
  refine h W ?_
  obtain ⟨e1, e2⟩ := set_split hF
  unfold Hold at hW ⊢
  rw [e1] at hW
  rw [e2]
  have p : List.Perm (s.L.map blkA ++ A :: (F.take i ++ pool X :: F.drop (i + 1))) (A :: pool X :: (s.L.map blkA ++ (F.take i ++ F.drop (i + 1)))) := by
    refine List.perm_middle.trans (List.Perm.cons A ?_)
    rw [← List.append_assoc, ← List.append_assoc]
    exact List.perm_middle
  have p2 : List.Perm (pool (A :: X) :: (s.L.map blkA ++ (F.take i ++ F.drop (i + 1)))) (s.L.map blkA ++ (F.take i ++ pool (A :: X) :: F.drop (i + 1))) := by
    rw [← List.append_assoc, ← List.append_assoc]
    exact List.perm_middle.symm
  exact ((hW.perm p).pool_in).perm p2
theorem pnil {s : St} (h : Go P Q (pool [] :: F) s) : Go P Q F s := by
  intro W hW
  refine h W ?_
  have h1 : HoldR W (pool [] :: (s.L.map blkA ++ F)) := ⟨fun B hB => by
    rcases List.mem_cons.1 hB with rfl | hB
    · intro A hA
      cases hA
    · exact hW.all B hB, List.pairwise_cons.2 ⟨fun B hB k ⟨A, hA, _⟩ => (by cases hA), hW.sep⟩⟩
  exact h1.perm List.perm_middle.symm
end
/-! ### What is so, whatever the memory -/
def pureA (p : Prop) : Asrt where
  holds _ := p
  fp _ := False
  stable := fun _ _ _ _ _ _ _ h => h
  inb := fun _ _ _ h => h.elim
theorem HoldR.pure_in {W : World} {p : Prop} {R : List Asrt} (hp : p) (h : HoldR W R) : HoldR W (pureA p :: R) :=
  ⟨fun B hB => by
    rcases List.mem_cons.1 hB with rfl | hB
    · exact hp
    · exact h.all B hB, List.pairwise_cons.2 ⟨fun B hB k hk => hk.elim, h.sep⟩⟩
section
variable {P : Program} {Q : Exit → Act → World → Prop} {F : List Asrt}
theorem pex {s : St} (i : Nat) {p : Prop} (hF : F[i]? = some (pureA p)) (h : p → Go P Q (F.eraseIdx i) s) : Go P Q F s := by
  intro W hW
  have hp : p := hW.f i hF
  refine h hp W ?_
  exact hW.sub (List.Sublist.append (List.Sublist.refl _) (List.eraseIdx_sublist _ _))
end
section
variable {P : Program} {K : Exit → Act → World → Prop} {F : List Asrt}
/-- A store into a row of one's own within a drawn region, where loads of one's own blocks wait. -/
theorem dstoR {s : DS} (pl : List Nat) (j i : Nat) {e sz n c g off : Nat} {A : Option Addr} {xs vs : List Value} (hA : A = some ⟨g, 0, none⟩) (hF : F[i]? = some (rowA e sz (.slice A n c) n xs)) (hp : 0 < n) (hl : off + vs.length ≤ xs.length) (xs' : List Value) (hx : xs.take off ++ vs ++ xs.drop (off + vs.length) = xs') (hrc : AllB (pl.map (RC P s s.L))) (hn : DG P K (F.set i (rowA e sz (.slice A n c) n xs')) (deffS s j undef s.L)) (h : dstAt P s j = some (g, off, vs) := by kernel_rfl) (h1 : vs.all cellV = true := by kernel_rfl) (hB : deffBp P s j pl = true := by kernel_rfl) : DG P K F s := by
  subst hA
  unfold dstAt at h
  split at h
  · rename_i o ho
    split at h
    · rename_i t x y hop
      split at h
      · rename_i B off' inf hx' hi
        split at h
        · rename_i hsz
          cases h
          refine deffK (pl := pl) (X := World) (L' := fun _ => s.L) (F' := fun _ => F.set i (rowA e sz (.slice (some ⟨g, 0, none⟩) n c) n xs')) j ho hB (fun W hW => ?_) (fun _ => hrc) fun _ => hn
          have hown : ownR W e sz (.slice (some ⟨g, 0, none⟩) n c) n xs := hW.f i hF
          obtain ⟨W', h2, h3, h4, h5, h6, h7, h8⟩ := own_store (P := P) (off := off) (W := W) _ 0 xs W hown hl h1
          refine ⟨W', W', ?_, Hold.setF hW hF h4 h5 h6 (by omega) (fun k hk hno => ?_) (by rw [← hx]; simpa [rowA] using h3) fun k hk => .inl hk⟩
          · rw [st_run hop hx' hi (Nat.eq_of_beq_eq_true hsz) W, Sem.run_bind, h2]
            rfl
          · refine h8 k fun e => ?_
            subst e
            obtain ⟨_, A', c', e1, h3', _⟩ := hown
            cases e1
            exact hno ⟨n, c, rfl, by omega⟩
        · cases h
      · cases h
    · cases h
  · cases h
end
theorem own_cap {W : World} {e sz n c : Nat} {A : Option Addr} {xs : List Value} (h : (rowA e sz (.slice A n c) n xs).holds W) : n ≤ c := by
  obtain ⟨_, A', c', e1, hc, _⟩ := (h : ownR W e sz (.slice A n c) n xs)
  cases e1
  exact hc
section
variable {P : Program} {Q : Exit → Act → World → Prop} {F : List Asrt}
/-- Arms that go on alike: what is behind them is walked once. -/
theorem mg {α : Type} {F' : List Asrt} {s0 : St} (s : α → St) (h1 : ∀ a, Go P Q F' (s a)) (h2 : (∀ a, Go P Q F' (s a)) → Go P Q F s0) : Go P Q F s0 := h2 h1
theorem mge {s0 s1 : St} (h : Go P Q F s1) (e : nm s0 = s1 := by kernel_rfl) : Go P Q F s0 := by
  refine norm_sound 400 ?_
  show Go P Q F (nm s0)
  rw [e]
  exact h
end
end Go.Proofs.YtbijkflfphppgaaM.Mach
