/- Places that rise, each once, plainly. No condition beside those that each theorem names. -/
import Derived.Test.YtglkhjjhjhhonaaFtP
namespace Go.Proofs.Ytglkhjjhjhhonaa.Sr
open Go.RowKit Go.Proofs.YtglkhjjhjhhonaaM.Mach
set_option linter.unusedVariables false
set_option linter.unusedSimpArgs false
/-- A place put into its place. -/
def insB (x : P3) : List P3 → List P3
  | [] => [x]
  | y :: l => if ltP x y then x :: y :: l else y :: insB x l
theorem insB_mem (x : P3) : ∀ (l : List P3) (z : P3), z ∈ insB x l ↔ z = x ∨ z ∈ l
  | [], z => by simp [insB]
  | y :: l, z => by
    unfold insB
    split
    · simp
    · rw [List.mem_cons, insB_mem x l z, List.mem_cons]
      constructor
      · rintro (h | h | h)
        · exact .inr (.inl h)
        · exact .inl h
        · exact .inr (.inr h)
      · rintro (h | h | h)
        · exact .inr (.inl h)
        · exact .inl h
        · exact .inr (.inr h)
theorem insB_len (x : P3) : ∀ l : List P3, (insB x l).length = l.length + 1
  | [] => rfl
  | y :: l => by
    unfold insB
    split
    · rfl
    · rw [List.length_cons, insB_len x l, List.length_cons]
theorem insB_ris {x : P3} : ∀ (l : List P3), Ris l → x ∉ l → Ris (insB x l)
  | [], _, _ => List.pairwise_singleton _ _
  | y :: l, h, hx => by
    have h1 := List.pairwise_cons.1 h
    unfold insB
    split
    · rename_i hlt
      exact List.pairwise_cons.2 ⟨fun z hz => by
        rcases List.mem_cons.1 hz with rfl | hz
        · exact hlt
        · exact lt_trans hlt (h1.1 z hz), h⟩
    · rename_i hlt
      have hyx : ltP y x = true := by
        cases h9 : ltP y x with
        | true => rfl
        | false =>
          have h8 : ltP x y = false := by
            cases h7 : ltP x y with
            | true => exact absurd h7 hlt
            | false => rfl
          exact absurd (lt_conn h8 h9) fun e => hx (e ▸ List.mem_cons_self)
      refine List.pairwise_cons.2 ⟨fun z hz => ?_, insB_ris l h1.2 fun hm => hx (List.mem_cons_of_mem _ hm)⟩
      rcases (insB_mem x l z).1 hz with rfl | hz
      · exact hyx
      · exact h1.1 z hz
/-- The places that rise, each once. -/
def nrmG (out : List P3) : List P3 → List P3
  | [] => out
  | x :: l => nrmG (if x ∈ out then out else insB x out) l
def nrmF (l : List P3) : List P3 := nrmG [] l
theorem nrmG_spec : ∀ (l out : List P3), Ris out → Ris (nrmG out l) ∧ ∀ z, z ∈ nrmG out l ↔ z ∈ out ∨ z ∈ l
  | [], out, h => ⟨h, fun z => by simp [nrmG]⟩
  | x :: l, out, h => by
    unfold nrmG
    split
    · rename_i hm
      have h2 := nrmG_spec l out h
      refine ⟨h2.1, fun z => (h2.2 z).trans ?_⟩
      rw [List.mem_cons]
      constructor
      · rintro (h3 | h3)
        · exact .inl h3
        · exact .inr (.inr h3)
      · rintro (h3 | rfl | h3)
        · exact .inl h3
        · exact .inl hm
        · exact .inr h3
    · rename_i hm
      have h2 := nrmG_spec l (insB x out) (insB_ris out h hm)
      refine ⟨h2.1, fun z => (h2.2 z).trans ?_⟩
      rw [List.mem_cons, insB_mem]
      constructor
      · rintro ((h3 | h3) | h3)
        · exact .inr (.inl h3)
        · exact .inl h3
        · exact .inr (.inr h3)
      · rintro (h3 | h3 | h3)
        · exact .inl (.inr h3)
        · exact .inl (.inl h3)
        · exact .inr h3
theorem nrm_ris (l : List P3) : Ris (nrmF l) := (nrmG_spec l [] List.Pairwise.nil).1
theorem nrm_mem (l : List P3) (z : P3) : z ∈ nrmF l ↔ z ∈ l := by
  have h := (nrmG_spec l [] List.Pairwise.nil).2 z
  simpa [nrmF] using h
theorem nrmG_len : ∀ (l out : List P3), (nrmG out l).length ≤ out.length + l.length
  | [], out => Nat.le_refl _
  | x :: l, out => by
    unfold nrmG
    split
    · have h := nrmG_len l out
      simp only [List.length_cons]
      omega
    · have h := nrmG_len l (insB x out)
      rw [insB_len] at h
      simp only [List.length_cons]
      omega
theorem nrm_len (l : List P3) : (nrmF l).length ≤ l.length := by
  have h := nrmG_len l []
  simpa [nrmF] using h
theorem sorted_pw {ks : List P3} {n : Nat} (hl : ks.length = n) (h : ∀ p q, p < q → q < n → ltP ks[q]! ks[p]! = false) : ks.Pairwise fun x y => ltP y x = false := by
  rw [List.pairwise_iff_getElem]
  intro i j hi hj hij
  have h2 := h i j hij (by omega)
  rwa [getElem!_pos ks j hj, getElem!_pos ks i hi] at h2
theorem nrm_uniq {a ks : List P3} (hp : a.Perm ks) (hs : ks.Pairwise fun x y => ltP y x = false) : ddup ks = nrmF a :=
  ris_uniq _ _ (ddup_ris ks hs) (nrm_ris a) fun z => by rw [ddup_mem, nrm_mem, hp.mem_iff]
end Go.Proofs.Ytglkhjjhjhhonaa.Sr
