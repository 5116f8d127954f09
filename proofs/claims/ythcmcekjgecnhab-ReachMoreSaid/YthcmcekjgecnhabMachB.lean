/- One more rule of the walk: appending what lies within a known block. No condition beside those that the theorem names. -/
import Derived.Test.YthcmcekjgecnhabMach
namespace Go.Proofs.YthcmcekjgecnhabM.Mach
open Go.RowKit
set_option linter.unusedVariables false
set_option linter.unusedSimpArgs false
section
variable {P : Program} {Q : Exit → Act → World → Prop} {F : List Asrt}
/-- append(v, ..) to a row of one's own; what is put behind it lies within a block that is known. -/
theorem apo {s : St} (i j : Nat) {e sz n m c g T off : Nat} {v : Value} {xs cs0 : List Value} (bytes : Nat) (hF : F[i]? = some (rowA e sz v n xs)) (hb : (n + m) * bytes ≤ 140737488355328) (hm : n + m ≤ maxLen) (cs : List Value) (hcs : (cs0.drop off).take (m * sz) = cs) (n' : Nat) (xs' : List Value) (e1 : n + m = n') (e2 : xs ++ cs = xs') (hn : ∀ (A : Option Addr) (k : Nat), Go P Q (F.set i (rowA e sz (.slice A n' k) n' xs')) (adv (nm s) (.slice A n' k)))
    (h : apAt P (nm s) = some (e, v, ⟨g, off, none⟩, m, c) := by kernel_rfl) (hL : (nm s).L[j]? = some (g, T, cs0) := by kernel_rfl) (hinf : infB P e sz bytes = true := by kernel_rfl) (h0 : (Nat.blt 0 m && Nat.beq cs.length (m * sz) && cs.all cellV) = true := by kernel_rfl) : Go P Q F s := by
  subst e1 e2 hcs
  unfold apAt at h
  split at h
  · rename_i o ho
    simp only [Bool.and_eq_true] at h0
    obtain ⟨⟨h1, h2⟩, h3⟩ := h0
    obtain ⟨t, ty, hu, hr⟩ := apX_run (ρ := evl (nm s).l) h rfl
    refine evw (X := Option Addr × Nat) (v := fun x => .slice x.1 (n + m) x.2) (B := fun x => rowA e sz (.slice x.1 (n + m) x.2) (n + m) (xs ++ (cs0.drop off).take (m * sz))) i ho hF (fun W hW => ?_) fun x => hn x.1 x.2
    have hblk := Hold.getL hW hL
    obtain ⟨v', W', r1, r2, r3, r4, r5, r6, r7, r8⟩ := append_own (c := c) (ty := ty) (ad := ⟨g, off, none⟩) hu hinf (hW.f i hF) (Nat.eq_of_beq_eq_true h2) (fun k u hk => by
      rw [Addr.add_at]
      simp only [World.cell?, hblk]
      rw [List.getElem?_take] at hk
      split at hk
      · rw [List.getElem?_drop] at hk
        simpa using hk
      · cases hk) (fun u hu => List.all_eq_true.1 h3 u hu) (Nat.le_of_ble_eq_true h1) hb hm
    obtain ⟨_, A, k, rfl, _⟩ := id r2
    exact ⟨(A, k), W', hr W _ W' r1, r4, r5, r6, r7, r8, r2, r3⟩
  · cases h
end
end Go.Proofs.YthcmcekjgecnhabM.Mach
