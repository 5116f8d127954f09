/- Drawn calls beside loads that wait, and beside blocks that come up by and by. No condition beside those that each theorem names. -/
import Derived.Test.YtglkhjjhjhhonaaMachC
namespace Go.Proofs.YtglkhjjhjhhonaaM.Mach
open Go.RowKit
set_option linter.unusedVariables false
set_option linter.unusedSimpArgs false
/-! ### Drawn calls beside loads that wait, and beside blocks that come up by and by -/
section
variable {P : Program} {Q : Exit → Act → World → Prop} {K : Exit → Act → World → Prop} {F : List Asrt}
def dcsB (s : DS) (j : Nat) : Bool := s.al.isEmpty && dcB s j
/-- A drawn call that leaves all parts as they were. -/
theorem dcs {s : DS} (j : Nat) {f : FuncId} {args : Array Value} (L0 : List Blk) (Pre Rest : List Asrt) {X : Type} {v : Value} (hp : ∀ W, Hold W L0 F → HoldR W (Pre ++ Rest)) (hp' : ∀ W, HoldR W (Pre ++ Rest) → Hold W L0 F) (hc : ∀ W, HoldR W (Pre ++ Rest) → Calls P f args W fun e W' => ∃ _x : X, e = .returned v ∧ HoldR W' (Pre ++ [oldF W Pre])) (hn : DG P K F (dput s j v)) (h : dcallAt P s j = some (f, args) := by kernel_rfl) (hB : dcsB s j = true := by kernel_rfl) (hL : s.L = L0 := by kernel_rfl) : DG P K F s := by
  subst hL
  intro hw
  unfold dcsB at hB
  simp only [Bool.and_eq_true] at hB
  obtain ⟨hal, hB⟩ := hB
  obtain ⟨o, ho, hjk, hcl, hda, hlk⟩ := dcB_spec hB
  have hal' : s.al = [] := by simpa using hal
  refine ga_op hw ho hjk hcl hda fun ls a W A hp0 hr hdl hev hwt => ?_
  have hA : A = [] := by
    have := hp0.als
    rw [hal'] at this
    cases this
    rfl
  subst hA
  unfold dcallAt at h
  rw [ho] at h
  simp only at h
  split at h
  · rename_i hw1
    split at h
    · rename_i f' args' hs
      cases h
      have hW' : HoldR W (Pre ++ Rest) := hp W hp0.hold
      refine wpOp_step ho fun K' hK => ?_
      rw [if_pos (hwt.trans hw1)]
      unfold Oper.wp
      rw [hev, semP_run _ _ W hs, Oper.upon_enter]
      refine (hc W hW').mono fun e W2 hR => ?_
      obtain ⟨x, rfl, hH⟩ := hR
      have h2 : Hold W2 s.L F := hp' _ (parts_next hW' hH)
      have hdp : dput s j v = ⟨s.ops, j :: s.kn, s.pd, s.al, setd s.l o.dst v, s.L⟩ := by
        unfold dput
        rw [ho]
        rfl
      rw [hdp] at hn
      refine hK _ _ ((hn ?_) _ _ W2 [] (pre_next hw hp0 ho hjk hr v (fun b hb hnb => absurd hb hnb) h2))
      exact dw_next hw ho hjk hlk v (fun b hb => hb) fun b hb o' v' ho' hC => hC
    · cases h
  · cases h
end
/-! ### A bundle: many parts as one -/
section
variable {P : Program} {Q : Exit → Act → World → Prop} {F : List Asrt}
end
/-! ### A pool: parts that are only read, and may lie over each other -/
def pool (X : List Asrt) : Asrt where
  holds W := ∀ A ∈ X, A.holds W
  fp k := ∃ A ∈ X, A.fp k
  stable := fun W W' h1 h2 h3 h4 h5 h A hA => A.stable W W' h1 h2 h3 h4 (fun k hk => h5 k ⟨A, hA, hk⟩) (h A hA)
  inb := fun W k h ⟨A, hA, hk⟩ => A.inb W k (h A hA) hk
theorem pool_rd {α : Type} {W : World} {X : List Asrt} {v : Value} {sz : Nat} {enc : α → List Value} {l : List α} (hm : rdA v sz enc l ∈ X) (h : (pool X).holds W) : Rd W v sz enc l := h _ hm
/-- Another part comes in. -/
theorem HoldR.pool_in {W : World} {X R : List Asrt} {A : Asrt} (h : HoldR W (A :: pool X :: R)) : HoldR W (pool (A :: X) :: R) := by
  obtain ⟨h1, h2⟩ := List.pairwise_cons.1 h.sep
  obtain ⟨h3, h4⟩ := List.pairwise_cons.1 h2
  refine ⟨fun B hB => ?_, List.pairwise_cons.2 ⟨fun B hB k hk hk' => ?_, h4⟩⟩
  · rcases List.mem_cons.1 hB with rfl | hB
    · intro C hC
      rcases List.mem_cons.1 hC with rfl | hC
      · exact h.all C List.mem_cons_self
      · exact h.all (pool X) (List.mem_cons_of_mem _ List.mem_cons_self) C hC
    · exact h.all B (List.mem_cons_of_mem _ (List.mem_cons_of_mem _ hB))
  · obtain ⟨C, hC, hk⟩ := hk
    rcases List.mem_cons.1 hC with rfl | hC
    · exact h1 B (List.mem_cons_of_mem _ hB) k hk hk'
    · exact h3 B hB k ⟨C, hC, hk⟩ hk'
section
variable {P : Program} {Q : Exit → Act → World → Prop} {F : List Asrt}
theorem pnil {s : St} (h : Go P Q (pool [] :: F) s) : Go P Q F s := by
  intro W hW
  refine h W ?_
  have h1 : HoldR W (pool [] :: (s.L.map blkA ++ F)) := ⟨fun B hB => by
    rcases List.mem_cons.1 hB with rfl | hB
    · intro A hA
      cases hA
    · exact hW.all B hB, List.pairwise_cons.2 ⟨fun B hB k ⟨A, hA, _⟩ => (by cases hA), hW.sep⟩⟩
  exact h1.perm List.perm_middle.symm
end
/-! ### What is so, whatever the memory -/
def pureA (p : Prop) : Asrt where
  holds _ := p
  fp _ := False
  stable := fun _ _ _ _ _ _ _ h => h
  inb := fun _ _ _ h => h.elim
theorem HoldR.pure_in {W : World} {p : Prop} {R : List Asrt} (hp : p) (h : HoldR W R) : HoldR W (pureA p :: R) :=
  ⟨fun B hB => by
    rcases List.mem_cons.1 hB with rfl | hB
    · exact hp
    · exact h.all B hB, List.pairwise_cons.2 ⟨fun B hB k hk => hk.elim, h.sep⟩⟩
section
variable {P : Program} {Q : Exit → Act → World → Prop} {F : List Asrt}
theorem pex {s : St} (i : Nat) {p : Prop} (hF : F[i]? = some (pureA p)) (h : p → Go P Q (F.eraseIdx i) s) : Go P Q F s := by
  intro W hW
  have hp : p := hW.f i hF
  refine h hp W ?_
  exact hW.sub (List.Sublist.append (List.Sublist.refl _) (List.eraseIdx_sublist _ _))
end
section
variable {P : Program} {K : Exit → Act → World → Prop} {F : List Asrt}
end
section
variable {P : Program} {Q : Exit → Act → World → Prop} {F : List Asrt}
end
section
variable {P : Program} {K : Exit → Act → World → Prop} {F : List Asrt}
end
end Go.Proofs.YtglkhjjhjhhonaaM.Mach
