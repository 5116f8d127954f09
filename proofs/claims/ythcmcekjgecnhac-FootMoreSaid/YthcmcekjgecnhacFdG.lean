/- What the shelf's sorting leaves, told of a row of one's own. No condition beside those that each theorem names. -/
import Derived.Test.YthcmcekjgecnhacFdA
import Derived.Test.YthcmcekjgecnhacFtJ
import Derived.Test.YthcmcekjgecnhacFtK
import Derived.Shelf.SlSortCmp.InsertionK
import Derived.Lib.QuietBelow
namespace Go.Proofs.Ythcmcekjgecnhac.Sd
open Go.RowKit Go.Proofs.YthcmcekjgecnhacM.Mach Go.Proofs.Ythcmcekjgecnhac.Sr
set_option linter.unusedVariables false
set_option linter.unusedSimpArgs false
theorem flatK_get (ks : List P3) (j : Nat) (hj : j < ks.length * 3) : (ks.flatMap encT46)[j]? = some (Go.Sort.flatK encT46 3 ks.toArray)[j]! := by
  have hj' : j < ks.toArray.size * 3 := by simpa using hj
  rw [Go.Sort.get_flatK _ _ _ _ hj']
  have hi : j / 3 < ks.length := Nat.div_lt_of_lt_mul (by rw [Nat.mul_comm]; exact hj)
  have hm : j % 3 < 3 := Nat.mod_lt _ (by decide)
  have hd : j / 3 * 3 + j % 3 = j := by rw [Nat.mul_comm]; exact Nat.div_add_mod j 3
  have e1 : ks.toArray[j / 3]! = ks[j / 3] := by
    rw [getElem!_pos ks.toArray (j / 3) (by simpa using hi)]
    simp
  rw [e1]
  have hl : j % 3 < (encT46 ks[j / 3]).length := by rw [encT46_len]; exact hm
  have h5 := flat_get encT46_len ks (j / 3) ks[j / 3] (by simp [hi]) (j % 3) (encT46 ks[j / 3])[j % 3] (by simp [hl])
  rw [hd] at h5
  rw [h5, getElem!_pos (encT46 ks[j / 3]) (j % 3) hl]
theorem own_holds {w : World} {g n c : Nat} {ks : List P3} (hlen : ks.length = n) (hp : 0 < n) (hown : ownR w 46 3 (.slice (some ⟨g, 0, none⟩) n c) n (ks.flatMap encT46)) : Go.Sort.HoldsK encT46 3 w g 0 ks.toArray ∧ g < w.heap.size := by
  obtain ⟨hl, A, c0, e0, hnc, hcur⟩ := hown
  cases e0
  rcases hcur with h0 | ⟨g', cur, e1, hg, hm, hcs, htk⟩
  · omega
  · cases e1
    refine ⟨fun j hj => ?_, (Array.getElem?_eq_some_iff.1 hg).1⟩
    have hj' : j < ks.length * 3 := by simpa using hj
    have h1 := flatK_get ks j hj'
    have h2 : cur[j]? = (ks.flatMap encT46)[j]? := by
      rw [← htk, List.getElem?_take_of_lt (by rw [← hlen]; exact hj'), Array.getElem?_toList]
    refine ⟨?_, by simp [World.frozen?, hg]⟩
    rw [Nat.zero_add]
    simp [World.cell?, hg, h2, h1]
theorem sorted_own {w : World} {g n c m : Nat} {ks : List P3} {d' : Array P3} {os : Array Obj} (hlen : ks.length = n) (hp : 0 < n) (hs : d'.size = n) (hown : ownR w 46 3 (.slice (some ⟨g, 0, none⟩) n c) n (ks.flatMap encT46)) : Turned (.slice (some ⟨g, 0, none⟩) n c) w (sortWorldK encT46 3 w g 0 m d' os) ∧ ownR (sortWorldK encT46 3 w g 0 m d' os) 46 3 (.slice (some ⟨g, 0, none⟩) n c) n (d'.toList.flatMap encT46) := by
  obtain ⟨hl, A, c0, e0, hnc, hcur⟩ := hown
  cases e0
  rcases hcur with h0 | ⟨g', cur, e1, hg, hm, hcs, htk⟩
  · omega
  · cases e1
    have hgs := (Array.getElem?_eq_some_iff.1 hg).1
    have hheap : (sortWorldK encT46 3 w g 0 m d' os).heap = w.heap.modify g (Go.Sort.onCells (Go.Sort.putCells id 0 (Go.Sort.flatK encT46 3 d'))) ++ os := rfl
    have hblk : ∀ k, k < w.heap.size → (sortWorldK encT46 3 w g 0 m d' os).heap[k]? = (w.heap.modify g (Go.Sort.onCells (Go.Sort.putCells id 0 (Go.Sort.flatK encT46 3 d'))))[k]? := fun k hk => by
      rw [hheap, Array.getElem?_append_left (by simpa using hk)]
    refine ⟨⟨rfl, rfl, rfl, by rw [hheap]; simp, fun k hk hno => ?_⟩, ?_⟩
    · rw [hblk k hk, Array.getElem?_modify, if_neg]
      intro e
      subst e
      exact hno ⟨n, c, rfl, by omega⟩
    · refine ⟨by rw [flat_len encT46_len, Array.length_toList, hs], _, c, rfl, hnc, .inr ⟨g, Go.Sort.putCells id 0 (Go.Sort.flatK encT46 3 d') cur, rfl, ?_, hm, by simp [Go.Sort.putCells, hcs], ?_⟩⟩
      · rw [hblk g hgs, Array.getElem?_modify, if_pos rfl, hg]
        rfl
      · apply List.ext_getElem?
        intro j
        by_cases hj : j < n * 3
        · rw [List.getElem?_take_of_lt hj, Array.getElem?_toList, flatK_get d'.toList j (by rw [Array.length_toList, hs]; exact hj)]
          have hjc : j < cur.size := by rw [hcs]; exact Nat.lt_of_lt_of_le hj (Nat.mul_le_mul_right 3 hnc)
          simp only [Go.Sort.putCells, Array.getElem?_mapIdx, Array.getElem?_eq_getElem hjc, Option.map_some, Array.toArray_toList]
          rw [if_pos ⟨Nat.zero_le _, by rw [Go.Sort.size_flatK, hs]; omega⟩]
          rfl
        · rw [List.getElem?_eq_none (by rw [List.length_take]; omega), List.getElem?_eq_none (by rw [flat_len encT46_len, Array.length_toList, hs]; omega)]
theorem ordF_lt (x y : P3) : ltOf ordF x y = ltP x y := by
  unfold ltOf ordF
  cases h1 : ltP x y
  · cases h2 : ltP y x <;> rfl
  · rfl
theorem ord_swo : Go.Sort.SWO (ltOf ordF) := ⟨fun x => by rw [ordF_lt, lt_irr], fun x y z h1 h2 => by rw [ordF_lt] at *; exact lt_trans h1 h2, fun x y z h1 h2 => by rw [ordF_lt] at *; exact lt_ntrans h1 h2⟩
theorem order_lays (blk off size : Nat) (w : World) : CmpLays Try.prog 54 #[] encT46 3 ordF blk off size w := fun m os dk _ x y => by
  refine (order_is x.1 x.2.1 x.2.2 y.1 y.2.1 y.2.2 _).mono fun e w' h => ?_
  obtain ⟨h1, h2⟩ := h
  refine ⟨h1, ?_⟩
  obtain ⟨p, hp⟩ := _root_.Go.regrown_of_below h2.below
  have hd := h2.output.2
  rw [hp] at hd ⊢
  refine ⟨p.d - (sortWorldK encT46 3 w blk off m dk os).drawn, p.os, ?_⟩
  have e : (sortWorldK encT46 3 w blk off m dk os).drawn + (p.d - (sortWorldK encT46 3 w blk off m dk os).drawn) = p.d := Nat.add_sub_cancel' hd
  unfold World.drewN _root_.Go.redrawn
  rw [e]
end Go.Proofs.Ythcmcekjgecnhac.Sd
