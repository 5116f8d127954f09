/- slices.SortFunc of whatever row of one's own, by the shelf's contract. No condition beside those that each theorem names. -/
import Derived.Test.YthcmcekjgecnhacFdG
import Derived.Shelf.SlSortCmp.WholeK
import Derived.Ground.SlsfProg
namespace Go.Proofs.Ythcmcekjgecnhac.Sd
open Go.RowKit Go.Proofs.YthcmcekjgecnhacM.Mach Go.Proofs.Ythcmcekjgecnhac.Sr
set_option linter.unusedVariables false
set_option linter.unusedSimpArgs false
def sortP_ren : Go.Shelf.Ren := ⟨fun | 6 => 53 | 15 => 79 | 14 => 78 | 28 => 98 | 29 => 99 | 20 => 90 | 21 => 91 | 22 => 92 | 23 => 93 | 24 => 94 | 25 => 95 | 26 => 96 | 27 => 97 | 46 => 105 | 47 => 106 | 48 => 107 | 49 => 108 | 50 => 109 | 57 => 112 | n => n, fun | 22 => 22 | 24 => 46 | 25 => 83 | 3 => 3 | 39 => 107 | 0 => 0 | 53 => 129 | 55 => 131 | 4 => 4 | 46 => 122 | 45 => 121 | 50 => 126 | 5 => 5 | 9 => 9 | 66 => 138 | 70 => 111 | 76 => 145 | 77 => 146 | n => n, fun | n => n⟩
theorem sortP : Go.Proofs.SlLaysF0.n6 Try.prog sortP_ren := {
  mixed := by kernel_rfl
  f6 := ⟨Try.f53.name, by decide, Try.func53.trans (congrArg some (by kernel_rfl))⟩
  f14 := ⟨Try.f78.name, by decide, Try.func78.trans (congrArg some (by kernel_rfl))⟩
  f15 := Try.func79.trans (congrArg some (by kernel_rfl))
  f20 := ⟨Try.f90.name, by decide, Try.func90.trans (congrArg some (by kernel_rfl))⟩
  f21 := ⟨Try.f91.name, by decide, Try.func91.trans (congrArg some (by kernel_rfl))⟩
  f22 := ⟨Try.f92.name, by decide, Try.func92.trans (congrArg some (by kernel_rfl))⟩
  f23 := ⟨Try.f93.name, by decide, Try.func93.trans (congrArg some (by kernel_rfl))⟩
  f24 := ⟨Try.f94.name, by decide, Try.func94.trans (congrArg some (by kernel_rfl))⟩
  f25 := ⟨Try.f95.name, by decide, Try.func95.trans (congrArg some (by kernel_rfl))⟩
  f26 := ⟨Try.f96.name, by decide, Try.func96.trans (congrArg some (by kernel_rfl))⟩
  f27 := ⟨Try.f97.name, by decide, Try.func97.trans (congrArg some (by kernel_rfl))⟩
  f28 := Try.func98.trans (congrArg some (by kernel_rfl))
  f29 := Try.func99.trans (congrArg some (by kernel_rfl))
  f46 := ⟨Try.f105.name, by decide, Try.func105.trans (congrArg some (by kernel_rfl))⟩
  f47 := Try.func106.trans (congrArg some (by kernel_rfl))
  f48 := Try.func107.trans (congrArg some (by kernel_rfl))
  f49 := ⟨Try.f108.name, by decide, Try.func108.trans (congrArg some (by kernel_rfl))⟩
  f50 := ⟨Try.f109.name, by decide, Try.func109.trans (congrArg some (by kernel_rfl))⟩
  f57 := ⟨Try.f112.name, by decide, Try.func112.trans (congrArg some (by kernel_rfl))⟩
  t0 := Try.underlying0
  a0 := Try.isAgg0
  z0 := Try.sizeOf0
  v0 := Try.zeroValue0
  t3 := Try.underlying3
  a3 := Try.isAgg3
  z3 := Try.sizeOf3
  v3 := Try.zeroValue3
  t4 := Try.underlying4
  a4 := Try.isAgg4
  z4 := Try.sizeOf4
  v4 := Try.zeroValue4
  t5 := Try.underlying5
  a5 := Try.isAgg5
  z5 := Try.sizeOf5
  v5 := Try.zeroValue5
  t9 := Try.underlying9
  a9 := Try.isAgg9
  z9 := Try.sizeOf9
  v9 := Try.zeroValue9
  t22 := Try.underlying22
  a22 := Try.isAgg22
  z22 := Try.sizeOf22
  v22 := Try.zeroValue22
  t25 := Try.underlying83
  a25 := Try.isAgg83
  z25 := Try.sizeOf83
  v25 := Try.zeroValue83
  t39 := Try.underlying107
  a39 := Try.isAgg107
  z39 := Try.sizeOf107
  v39 := Try.zeroValue107
  t45 := Try.underlying121
  a45 := Try.isAgg121
  z45 := Try.sizeOf121
  v45 := Try.zeroValue121
  t46 := Try.underlying122
  a46 := Try.isAgg122
  z46 := Try.sizeOf122
  v46 := Try.zeroValue122
  t50 := Try.underlying126
  a50 := Try.isAgg126
  z50 := Try.sizeOf126
  v50 := Try.zeroValue126
  t53 := Try.underlying129
  a53 := Try.isAgg129
  z53 := Try.sizeOf129
  v53 := Try.zeroValue129
  t55 := Try.underlying131
  a55 := Try.isAgg131
  z55 := Try.sizeOf131
  v55 := Try.zeroValue131
  t66 := Try.underlying138
  a66 := Try.isAgg138
  z66 := Try.sizeOf138
  v66 := Try.zeroValue138
  t70 := Try.underlying111
  a70 := Try.isAgg111
  z70 := Try.sizeOf111
  v70 := Try.zeroValue111
  t76 := Try.underlying145
  a76 := Try.isAgg145
  z76 := Try.sizeOf145
  v76 := Try.zeroValue145
  t77 := Try.underlying146
  a77 := Try.isAgg146
  z77 := Try.sizeOf146
  v77 := Try.zeroValue146 }
theorem sortw_is {w : World} {A : Option Addr} {n c : Nat} {ks0 : List P3} (hlen : ks0.length = n) (hn : n ≤ 1000) (hown : ownR w 46 3 (.slice A n c) n (ks0.flatMap encT46)) : Calls Try.prog 53 #[.slice A n c, .func (.func 54) #[] #[]] w fun e w' => ∃ x : {ks : List P3 // ks.length = n ∧ ks0.Perm ks ∧ ∀ p q, p < q → q < n → ltP ks[q]! ks[p]! = false}, e = .returned (.tuple #[]) ∧ Turned (.slice A n c) w w' ∧ ownR w' 46 3 (.slice A n c) n (x.1.flatMap encT46) := by
  by_cases h12 : n ≤ 12
  · exact sort_is hlen h12 hown
  · obtain ⟨g, rfl⟩ : ∃ g, A = some ⟨g, 0, none⟩ := by
      obtain ⟨_, A0, c0, e0, hnc, hcur⟩ := id hown
      cases e0
      rcases hcur with h0 | ⟨g, cur, e1, _⟩
      · omega
      · exact ⟨g, e1⟩
    have HH := own_holds hlen (by omega) hown
    have hsz : ks0.toArray.size = n := by simpa using hlen
    have eg : ∀ args w, (callFunc 54 args).run Try.prog w = .ok (.enter 54 args) w := enters_of Try.func54 (by kernel_rfl) rfl
    have h := AnyQ.slices_SortFunc sortP 3 Try.isAgg46 Try.sizeOf46 encT46 encT46_len (fun x v hv => by
      simp only [encT46, List.mem_cons, List.not_mem_nil, or_false] at hv
      rcases hv with rfl | rfl | rfl <;> rfl) ordF ord_swo 54 #[] g 0 c ks0.toArray w eg (order_lays g 0 ks0.toArray.size w) HH.1 HH.2 (by rw [hsz]; omega)
    rw [hsz] at h
    change Calls Try.prog 53 #[.slice (some ⟨g, 0, none⟩) n c, .func (.func 54) #[] #[]] w _ at h
    refine h.mono fun e w' h2 => ?_
    obtain ⟨rfl, d', m, os, ⟨hp1, _, hp3⟩, hs, rfl⟩ := h2
    rw [hsz] at hp1
    have hget : ∀ i, i < n → d'.toList[i]! = d'[i]! := fun i hi => by
      rw [getElem!_pos d'.toList i (by simpa [hp1] using hi), getElem!_pos d' i (by rw [hp1]; exact hi)]
      simp
    have hperm : ks0.Perm d'.toList := by
      have e1 : (d'.extract 0 n).toList = d'.toList := by
        rw [Array.extract_eq_self_of_le (by omega)]
      have e2 : (ks0.toArray.extract 0 n).toList = ks0 := by
        rw [Array.extract_eq_self_of_le (by omega)]
      rw [e1, e2] at hp3
      exact hp3.symm
    have hso := sorted_own (m := m) (os := os) hlen (by omega) hp1 hown
    exact ⟨⟨d'.toList, by rw [Array.length_toList, hp1], hperm, fun p q h1 h2 => by
      have h3 := hs p q (Nat.zero_le _) h1 h2
      rw [ordF_lt] at h3
      rw [hget p (by omega), hget q h2]
      exact h3⟩, rfl, hso.1, hso.2⟩
end Go.Proofs.Ythcmcekjgecnhac.Sd
