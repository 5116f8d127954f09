/- What is undone, by the marks; what is noted. No condition beside those that each theorem names. -/
import Derived.Test.YtbijkflfphppgaaAyU
import Derived.Test.YtbijkflfphppgaaAyS
namespace Go.Proofs.Ytbijkflfphppgaa.Sr
open Go.RowKit Go.Proofs.YtbijkflfphppgaaM.Mach
set_option linter.unusedVariables false
set_option linter.unusedSimpArgs false
theorem frame1 {w W : World} {Pre Rest Post : List Asrt} (h : HoldR w (Pre ++ Rest)) (h' : HoldR W (Post ++ [oldF w Pre])) : HoldR W (Post ++ Rest ++ [oldF w (Pre ++ Rest)]) := by
  have h1 := parts_next h h'
  have ht : TurnF Pre w W := h'.all (oldF w Pre) (List.mem_append_right _ (List.mem_singleton_self _))
  have hs' := List.pairwise_append.1 h'.sep
  refine ⟨fun A hA => ?_, List.pairwise_append.2 ⟨h1.sep, List.pairwise_singleton _ _, fun A hA B hB k hk hk' => ?_⟩⟩
  · rcases List.mem_append.1 hA with h2 | h2
    · exact h1.all A h2
    · rw [List.mem_singleton] at h2
      subst h2
      exact ⟨ht.os, ht.tape, ht.output, ht.size, fun k hk hn => ht.rest k hk fun A hA => hn A (List.mem_append_left _ hA)⟩
  · rw [List.mem_singleton] at hB
    subst hB
    rcases List.mem_append.1 hA with h2 | h2
    · exact hs'.2.2 A h2 (oldF w Pre) (List.mem_singleton_self _) k hk ⟨hk'.1, fun C hC => hk'.2 C (List.mem_append_left _ hC)⟩
    · exact hk'.2 A (List.mem_append_right _ h2) hk
structure UNDW (n : Nat) (X : List Asrt) (m : Nat) (hs : List ST) (tl2 : List H12) (cl2 : List C10) (Ar2 : Option Addr) (rl2 : List Int) (cr2 : Nat) (hs2 : List ST) : Prop where
  len : tl2.length = m
  hst : HST n X tl2 hs2 cl2 rl2
  st : hs[m]! = (cl2, rl2)
  xa : rdA (.slice Ar2 rl2.length cr2) 1 encT3 rl2 ∈ X
  hs2 : hs2 = hs.take (m + 1)
abbrev UZ := List H12 × List C10 × Option Addr × List Int × Nat × List ST
theorem undo_w {w : World} {g : Nat} {Ac : Option Addr} {kq n m : Nat} {At : Option Addr} {ct : Nat} {tl : List H12} {cl : List C10} {Ar : Option Addr} {rl : List Int} {cr : Nat} {X : List Asrt} {hs : List ST} {mv : Int} (hmv : mv = ((m : Nat) : Int)) (hcl : n ≤ 1000) (htl : tl.length ≤ 1000) (hm : m ≤ tl.length) (hH : HST n X tl hs cl rl) (hxa : rdA (.slice Ar rl.length cr) 1 encT3 rl ∈ X) (hown : HoldR w (partsP g Ac kq n At ct tl cl Ar rl.length cr X)) :
    Calls Try.prog 21 #[.pointer (some ⟨g, 0, none⟩), .int .i64 mv] w fun e W => ∃ x : UZ, e = .returned (.bool true) ∧ HoldR W ([blkA (g, 63, [.slice At x.1.length ct, .bool true, .slice Ac n kq, .slice x.2.2.1 x.2.2.2.1.length x.2.2.2.2.1]), rowA 78 12 (.slice At x.1.length ct) x.1.length (x.1.flatMap encT78), rowA 43 10 (.slice Ac n kq) n (x.2.1.flatMap encT43), pool X, pureA (UNDW n X m hs x.1 x.2.1 x.2.2.1 x.2.2.2.1 x.2.2.2.2.1 x.2.2.2.2.2)] ++ [oldF w (partsP g Ac kq n At ct tl cl Ar rl.length cr X)]) := by
  obtain ⟨hI, hn⟩ := hH.I
  subst hn hmv
  have h0 : HoldR w ([blkA (g, 63, [.slice At tl.length ct, .bool true, .slice Ac cl.length kq, .slice Ar rl.length cr]), rowA 78 12 (.slice At tl.length ct) tl.length (tl.flatMap encT78), rowA 43 10 (.slice Ac cl.length kq) cl.length (cl.flatMap encT43)] ++ [pool X]) := hown
  refine (undo_is hcl htl hm hH.rng (h0.sub (List.sublist_append_left _ _))).mono fun e W h => ?_
  obtain ⟨_, h1, h2⟩ := h
  have h3 := frame1 h0 h2
  obtain ⟨h4, h5⟩ := und_mem hH hxa hm
  rw [und_is hH hm, h4] at h3
  have hlt : (tl.take m).length = m := by rw [List.length_take]; omega
  refine ⟨(tl.take m, (hs[m]!).1, (undR tl (Ar, rl.length, cr) m).1, (hs[m]!).2, (undR tl (Ar, rl.length, cr) m).2.2, hs.take (m + 1)), h1, pure_snoc ⟨hlt, hH.undo hm, rfl, h5, rfl⟩ ?_⟩
  show HoldR W ([blkA (g, 63, [.slice At (tl.take m).length ct, _, _, _]), rowA 78 12 (.slice At (tl.take m).length ct) (tl.take m).length _, _, _] ++ [_])
  rw [hlt]
  exact h3
theorem bks_y {n : Nat} {X : List Asrt} {tl : List H12} {hs : List ST} {cl : List C10} {rl : List Int} {bs : List BK} {cl2 : List C10} {rl2 : List Int} {tl2 : List H12} {hs2 : List ST} {X2 : List Asrt} {Ar2 : Option Addr} {cr2 : Nat} {Bc2 : Option Addr} {kc2 : Nat} {Br2 : Option Addr} {kr2 : Nat} {mk2 : Int} (hB : BKS n X hs bs) (hH : HST n X tl hs cl rl) (hR : RUNW n X tl hs cl2 rl2 tl2 hs2 X2 Ar2 cr2 Bc2 kc2 Br2 kr2 mk2) (hd1 : tl2.length = tl.length + 1) (hd2 : hs2 = hs ++ [(cl2, rl2)]) : BKS n X2 hs2 (bs ++ [((Bc2, n, kc2), (Br2, rl2.length, kr2), mk2)]) := by
  have h1 := (hB.more hR.sub).add hR.xc hR.xb
  have h2 : mk2 = ((hs.length : Nat) : Int) := by rw [hR.mkk, hd1, hH.len]
  rw [hd2, h2]
  exact h1
theorem bks_n {n : Nat} {X : List Asrt} {tl : List H12} {hs : List ST} {bs : List BK} {cl2 : List C10} {rl2 : List Int} {tl2 : List H12} {hs2 : List ST} {X2 : List Asrt} {Ar2 : Option Addr} {cr2 : Nat} {Bc2 : Option Addr} {kc2 : Nat} {Br2 : Option Addr} {kr2 : Nat} {mk2 : Int} (hB : BKS n X hs bs) (hR : RUNW n X tl hs cl2 rl2 tl2 hs2 X2 Ar2 cr2 Bc2 kc2 Br2 kr2 mk2) (hd2 : hs2 = hs) : BKS n X2 hs2 bs := by
  rw [hd2]
  exact hB.more hR.sub
theorem hz_w {n : Nat} {X : List Asrt} {tl : List H12} {hs : List ST} {cl : List C10} {rl : List Int} {cl2 : List C10} {rl2 : List Int} {tl2 : List H12} {hs2 : List ST} {X2 : List Asrt} {Ar2 : Option Addr} {cr2 : Nat} {Bc2 : Option Addr} {kc2 : Nat} {Br2 : Option Addr} {kr2 : Nat} {mk2 : Int} {s0 : ST} (hH : HST n X tl hs cl rl) (hR : RUNW n X tl hs cl2 rl2 tl2 hs2 X2 Ar2 cr2 Bc2 kc2 Br2 kr2 mk2) (hz : hs[0]! = s0) : hs2[0]! = s0 := by
  have hl := hH.len
  rcases hR.d with ⟨_, h2⟩ | ⟨_, h2⟩
  · rw [h2, ap_lt (by omega)]
    exact hz
  · rw [h2]
    exact hz
theorem tl_w {n : Nat} {X : List Asrt} {tl : List H12} {hs : List ST} {cl2 : List C10} {rl2 : List Int} {tl2 : List H12} {hs2 : List ST} {X2 : List Asrt} {Ar2 : Option Addr} {cr2 : Nat} {Bc2 : Option Addr} {kc2 : Nat} {Br2 : Option Addr} {kr2 : Nat} {mk2 : Int} (hR : RUNW n X tl hs cl2 rl2 tl2 hs2 X2 Ar2 cr2 Bc2 kc2 Br2 kr2 mk2) : tl2.length ≤ tl.length + 1 := by
  rcases hR.d with ⟨h, _⟩ | ⟨h, _⟩ <;> omega
theorem hz_u {n m : Nat} {X : List Asrt} {tl : List H12} {hs : List ST} {cl : List C10} {rl : List Int} {tl2 : List H12} {cl2 : List C10} {Ar2 : Option Addr} {rl2 : List Int} {cr2 : Nat} {hs2 : List ST} {s0 : ST} (hH : HST n X tl hs cl rl) (hm : m ≤ tl.length) (hU : UNDW n X m hs tl2 cl2 Ar2 rl2 cr2 hs2) (hz : hs[0]! = s0) : hs2[0]! = s0 := by
  have hl := hH.len
  rw [hU.hs2, tk_lt (by omega) (by omega)]
  exact hz
theorem undo_no {w : World} {g : Nat} {Ac : Option Addr} {kq n : Nat} {At : Option Addr} {ct : Nat} {tl : List H12} {cl : List C10} {Ar : Option Addr} {nr cr : Nat} {x9 : Int} (hn : cl.length = n) (h : x9 < 0 ∨ (tl.length : Int) < x9) (hown : HoldR w [blkA (g, 63, [.slice At tl.length ct, .bool true, .slice Ac n kq, .slice Ar nr cr]), rowA 78 12 (.slice At tl.length ct) tl.length (tl.flatMap encT78), rowA 43 10 (.slice Ac n kq) n (cl.flatMap encT43)]) : Calls Try.prog 21 #[.pointer (some ⟨g, 0, none⟩), .int .i64 x9] w fun e W => ∃ x : Unit, e = .returned (.bool false) ∧ HoldR W ([blkA (g, 63, [.slice At tl.length ct, .bool true, .slice Ac n kq, .slice Ar nr cr]), rowA 78 12 (.slice At tl.length ct) tl.length (tl.flatMap encT78), rowA 43 10 (.slice Ac n kq) n (cl.flatMap encT43)] ++ [oldF w [blkA (g, 63, [.slice At tl.length ct, .bool true, .slice Ac n kq, .slice Ar nr cr]), rowA 78 12 (.slice At tl.length ct) tl.length (tl.flatMap encT78), rowA 43 10 (.slice Ac n kq) n (cl.flatMap encT43)]]) := by
  subst hn
  rcases h with h | h
  · exact undo_lo h hown
  · exact undo_hi h hown
end Go.Proofs.Ytbijkflfphppgaa.Sr
