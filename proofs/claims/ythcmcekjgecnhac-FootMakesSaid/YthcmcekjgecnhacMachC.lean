/- Calls that turn a row of the caller's own; what clear leaves. No condition beside those that each theorem names. -/
import Derived.Test.YthcmcekjgecnhacMach
namespace Go.Proofs.YthcmcekjgecnhacM.Mach
open Go.RowKit
set_option linter.unusedVariables false
set_option linter.unusedSimpArgs false
/-! ### Calls that turn a row of the caller's own -/
/-- Nothing has turned but the row's block. -/
structure Turned (v : Value) (w W : World) : Prop where
  os : W.os = w.os
  tape : W.tape = w.tape
  output : W.output = w.output
  size : w.heap.size ≤ W.heap.size
  rest : ∀ k, k < w.heap.size → ¬ ownF v k → W.heap[k]? = w.heap[k]?
def oldX (w : World) (v : Value) : Asrt where
  holds W := Turned v w W
  fp k := k < w.heap.size ∧ ¬ ownF v k
  stable := fun W W' h1 h2 h3 h4 h5 h => ⟨h1.trans h.os, h2.trans h.tape, h3.trans h.output, Nat.le_trans h.size h4, fun k hk hn => (h5 k ⟨hk, hn⟩).trans (h.rest k hk hn)⟩
  inb := fun W k h hk => Nat.lt_of_lt_of_le hk.1 h.size
section
variable {P : Program} {Q : Exit → Act → World → Prop} {F : List Asrt}
theorem enterX {f : FuncId} {fn : Func} {c : Code} {args : List Value} {w : World} {R : Ending → World → Prop} {e sz n : Nat} {v : Value} {xs : List Value} (hf : P.funcs[f]? = some fn) (hb : fn.body = some c) (hown : ownR w e sz v n xs) (h : Go P (bodyPost P fn R) [rowA e sz v n xs, oldX w v] ⟨[.code c], ini args fn.ntmps, []⟩) : Calls P f args.toArray w R := by
  refine calls_of_wp hf hb ?_
  have e0 : args.toArray ++ Array.replicate (fn.ntmps - args.toArray.size) undef = (ini args fn.ntmps).toArray := by
    simp [ini]
  rw [e0]
  have h0 : Hold w ([] : List Blk) [rowA e sz v n xs, oldX w v] := by
    refine ⟨fun A hA => ?_, ?_⟩
    · simp only [List.map_nil, List.nil_append, List.mem_cons, List.not_mem_nil, or_false] at hA
      rcases hA with rfl | rfl
      · exact hown
      · exact ⟨rfl, rfl, rfl, Nat.le_refl _, fun _ _ _ => rfl⟩
    · refine List.pairwise_cons.2 ⟨fun B hB k hk hk' => ?_, List.pairwise_singleton _ _⟩
      simp only [List.mem_cons, List.not_mem_nil, or_false] at hB
      subst hB
      exact hk'.2 hk
  exact wp_mono (h w h0) fun e a w' q => q
/-- A call that turns a row of the caller's own. -/
theorem cm {s : St} (i : Nat) {f : FuncId} {args : Array Value} {e sz n : Nat} {va : Value} {xs : List Value} {X : Type} {v : X → Value} {xs' : X → List Value} (hF : F[i]? = some (rowA e sz va n xs)) (hc : ∀ W, HoldR W F → Calls P f args W fun e' W' => ∃ x, e' = .returned (v x) ∧ Turned va W W' ∧ ownR W' e sz va n (xs' x)) (hn : ∀ x, Go P Q (F.set i (rowA e sz va n (xs' x))) (adv (nm s) (v x))) (h : callAt P (nm s) = some (f, args) := by kernel_rfl) : Go P Q F s :=
  cl0 (fun W e' W' => ∃ x, e' = .returned (v x) ∧ Turned va W W' ∧ ownR W' e sz va n (xs' x)) h (fun W hW => hc W (Hold.ff hW)) fun W hW e' W' ⟨x, he, ht, ho⟩ =>
    ⟨v x, F.set i (rowA e sz va n (xs' x)), he, Hold.setF hW hF ht.os ht.tape ht.output ht.size ht.rest ho (fun k hk => .inl hk), hn x⟩
end
section
variable {P : Program} {K : Exit → Act → World → Prop} {F : List Asrt}
def dstAt (P : Program) (s : DS) (j : Nat) : Option (Nat × Nat × List Value) := match s.ops[j]? with
  | some o => match o.op with
    | .store t x y => match evl s.l x, P.info? t with
      | .pointer (some ⟨B, off, none⟩), some i => match Nat.beq (evl s.l y).cells.size i.size with
        | true => some (B, off, (evl s.l y).cells.toList)
        | false => none
      | _, _ => none
    | _ => none
  | none => none
/-- A store into a row of one's own within a drawn region. -/
theorem dsto {s : DS} (j i : Nat) {e sz n c g off : Nat} {A : Option Addr} {xs vs : List Value} (hA : A = some ⟨g, 0, none⟩) (hF : F[i]? = some (rowA e sz (.slice A n c) n xs)) (hp : 0 < n) (hl : off + vs.length ≤ xs.length) (xs' : List Value) (hx : xs.take off ++ vs ++ xs.drop (off + vs.length) = xs') (hn : DG P K (F.set i (rowA e sz (.slice A n c) n xs')) (deffS s j undef s.L)) (h : dstAt P s j = some (g, off, vs) := by kernel_rfl) (h1 : vs.all cellV = true := by kernel_rfl) (hB : deffBp P s j [] = true := by kernel_rfl) : DG P K F s := by
  subst hA
  unfold dstAt at h
  split at h
  · rename_i o ho
    split at h
    · rename_i t x y hop
      split at h
      · rename_i B off' inf hx' hi
        split at h
        · rename_i hsz
          cases h
          refine deffK (pl := []) (X := World) (L' := fun _ => s.L) (F' := fun _ => F.set i (rowA e sz (.slice (some ⟨g, 0, none⟩) n c) n xs')) j ho hB (fun W hW => ?_) (fun _ => .nil) fun _ => hn
          have hown : ownR W e sz (.slice (some ⟨g, 0, none⟩) n c) n xs := hW.f i hF
          obtain ⟨W', h2, h3, h4, h5, h6, h7, h8⟩ := own_store (P := P) (off := off) (W := W) _ 0 xs W hown hl h1
          refine ⟨W', W', ?_, Hold.setF hW hF h4 h5 h6 (by omega) (fun k hk hno => ?_) (by rw [← hx]; simpa [rowA] using h3) fun k hk => .inl hk⟩
          · rw [st_run hop hx' hi (Nat.eq_of_beq_eq_true hsz) W, Sem.run_bind, h2]
            rfl
          · refine h8 k fun e => ?_
            subst e
            obtain ⟨_, A', c', e1, h3', _⟩ := hown
            cases e1
            exact hno ⟨n, c, rfl, by omega⟩
        · cases h
      · cases h
    · cases h
  · cases h
end
theorem zeros_flat {α : Type} {enc : α → List Value} (x0 : α) (z : List Value) (hz : enc x0 = z) (hp : 0 < z.length) (m : Nat) : (Builtin.zeroCells z.toArray m).toList = (List.replicate m x0).flatMap enc := by
  have hl1 : ((Builtin.zeroCells z.toArray m).toList).length = m * z.length := by simp [Builtin.zeroCells]
  have hrep : ∀ n, ((List.replicate n x0).flatMap enc).length = n * z.length := by
    intro n
    induction n with
    | zero => simp
    | succ n ih => rw [List.replicate_succ, List.flatMap_cons, List.length_append, ih, hz, Nat.add_mul, Nat.one_mul, Nat.add_comm]
  have hget : ∀ n i, i < n * z.length → ((List.replicate n x0).flatMap enc)[i]? = z[i % z.length]? := by
    intro n
    induction n with
    | zero => intro i hi; omega
    | succ n ih =>
      intro i hi
      rw [List.replicate_succ, List.flatMap_cons, hz]
      by_cases h : i < z.length
      · rw [List.getElem?_append_left h, Nat.mod_eq_of_lt h]
      · rw [List.getElem?_append_right (by omega), ih (i - z.length) (by rw [Nat.add_mul] at hi; omega), ← Nat.mod_eq_sub_mod (by omega)]
  apply List.ext_getElem?
  intro i
  by_cases hi : i < m * z.length
  · rw [hget m i hi]
    have hm : i % z.length < z.length := Nat.mod_lt _ hp
    have hi' : i < (Builtin.zeroCells z.toArray m).size := by simp [Builtin.zeroCells]; exact hi
    rw [Array.getElem?_toList, Array.getElem?_eq_getElem hi']
    simp [Builtin.zeroCells, hm]
  · rw [List.getElem?_eq_none (by omega), List.getElem?_eq_none (by rw [hrep]; omega)]
end Go.Proofs.YthcmcekjgecnhacM.Mach
