/- Calls that turn a row of the caller's own; what clear leaves. No condition beside those that each theorem names. -/
import Derived.Test.YtglkhjjhjhhonaaMach
import Derived.OrdersHeld
namespace Go.Proofs.YtglkhjjhjhhonaaM.Mach
open Go.RowKit
set_option linter.unusedVariables false
set_option linter.unusedSimpArgs false
/-! ### Calls that turn a row of the caller's own -/
/-- Nothing has turned but the row's block. -/
structure Turned (v : Value) (w W : World) : Prop where
  os : W.os = w.os
  tape : W.tape = w.tape
  output : W.output = w.output
  size : w.heap.size ≤ W.heap.size
  rest : ∀ k, k < w.heap.size → ¬ ownF v k → W.heap[k]? = w.heap[k]?
def oldX (w : World) (v : Value) : Asrt where
  holds W := Turned v w W
  fp k := k < w.heap.size ∧ ¬ ownF v k
  stable := fun W W' h1 h2 h3 h4 h5 h => ⟨h1.trans h.os, h2.trans h.tape, h3.trans h.output, Nat.le_trans h.size h4, fun k hk hn => (h5 k ⟨hk, hn⟩).trans (h.rest k hk hn)⟩
  inb := fun W k h hk => Nat.lt_of_lt_of_le hk.1 h.size
section
variable {P : Program} {Q : Exit → Act → World → Prop} {F : List Asrt}
theorem enterX {f : FuncId} {fn : Func} {c : Code} {args : List Value} {w : World} {R : Ending → World → Prop} {e sz n : Nat} {v : Value} {xs : List Value} (hf : P.funcs[f]? = some fn) (hb : fn.body = some c) (hown : ownR w e sz v n xs) (h : Go P (bodyPost P fn R) [rowA e sz v n xs, oldX w v] ⟨[.code c], ini args fn.ntmps, []⟩) : Calls P f args.toArray w R := by
  refine calls_of_wp hf hb ?_
  have e0 : args.toArray ++ Array.replicate (fn.ntmps - args.toArray.size) undef = (ini args fn.ntmps).toArray := by
    simp [ini]
  rw [e0]
  have h0 : Hold w ([] : List Blk) [rowA e sz v n xs, oldX w v] := by
    refine ⟨fun A hA => ?_, ?_⟩
    · simp only [List.map_nil, List.nil_append, List.mem_cons, List.not_mem_nil, or_false] at hA
      rcases hA with rfl | rfl
      · exact hown
      · exact ⟨rfl, rfl, rfl, Nat.le_refl _, fun _ _ _ => rfl⟩
    · refine List.pairwise_cons.2 ⟨fun B hB k hk hk' => ?_, List.pairwise_singleton _ _⟩
      simp only [List.mem_cons, List.not_mem_nil, or_false] at hB
      subst hB
      exact hk'.2 hk
  exact wp_mono (h w h0) fun e a w' q => q
/-- A call that turns a row of the caller's own. -/
theorem cm {s : St} (i : Nat) {f : FuncId} {args : Array Value} {e sz n : Nat} {va : Value} {xs : List Value} {X : Type} {v : X → Value} {xs' : X → List Value} (hF : F[i]? = some (rowA e sz va n xs)) (hc : ∀ W, HoldR W F → Calls P f args W fun e' W' => ∃ x, e' = .returned (v x) ∧ Turned va W W' ∧ ownR W' e sz va n (xs' x)) (hn : ∀ x, Go P Q (F.set i (rowA e sz va n (xs' x))) (adv (nm s) (v x))) (h : callAt P (nm s) = some (f, args) := by kernel_rfl) : Go P Q F s :=
  cl0 (fun W e' W' => ∃ x, e' = .returned (v x) ∧ Turned va W W' ∧ ownR W' e sz va n (xs' x)) h (fun W hW => hc W (Hold.ff hW)) fun W hW e' W' ⟨x, he, ht, ho⟩ =>
    ⟨v x, F.set i (rowA e sz va n (xs' x)), he, Hold.setF hW hF ht.os ht.tape ht.output ht.size ht.rest ho (fun k hk => .inl hk), hn x⟩
end
section
variable {P : Program} {K : Exit → Act → World → Prop} {F : List Asrt}
def dstAt (P : Program) (s : DS) (j : Nat) : Option (Nat × Nat × List Value) := match s.ops[j]? with
  | some o => match o.op with
    | .store t x y => match evl s.l x, P.info? t with
      | .pointer (some ⟨B, off, none⟩), some i => match Nat.beq (evl s.l y).cells.size i.size with
        | true => some (B, off, (evl s.l y).cells.toList)
        | false => none
      | _, _ => none
    | _ => none
  | none => none
/-- A store into a row of one's own within a drawn region. -/
theorem dsto {s : DS} (j i : Nat) {e sz n c g off : Nat} {A : Option Addr} {xs vs : List Value} (hA : A = some ⟨g, 0, none⟩) (hF : F[i]? = some (rowA e sz (.slice A n c) n xs)) (hp : 0 < n) (hl : off + vs.length ≤ xs.length) (xs' : List Value) (hx : xs.take off ++ vs ++ xs.drop (off + vs.length) = xs') (hn : DG P K (F.set i (rowA e sz (.slice A n c) n xs')) (deffS s j undef s.L)) (h : dstAt P s j = some (g, off, vs) := by kernel_rfl) (h1 : vs.all cellV = true := by kernel_rfl) (hB : deffBp P s j [] = true := by kernel_rfl) : DG P K F s := by
  subst hA
  unfold dstAt at h
  split at h
  · rename_i o ho
    split at h
    · rename_i t x y hop
      split at h
      · rename_i B off' inf hx' hi
        split at h
        · rename_i hsz
          cases h
          refine deffK (pl := []) (X := World) (L' := fun _ => s.L) (F' := fun _ => F.set i (rowA e sz (.slice (some ⟨g, 0, none⟩) n c) n xs')) j ho hB (fun W hW => ?_) (fun _ => .nil) fun _ => hn
          have hown : ownR W e sz (.slice (some ⟨g, 0, none⟩) n c) n xs := hW.f i hF
          obtain ⟨W', h2, h3, h4, h5, h6, h7, h8⟩ := own_store (P := P) (off := off) (W := W) _ 0 xs W hown hl h1
          refine ⟨W', W', ?_, Hold.setF hW hF h4 h5 h6 (by omega) (fun k hk hno => ?_) (by rw [← hx]; simpa [rowA] using h3) fun k hk => .inl hk⟩
          · rw [st_run hop hx' hi (Nat.eq_of_beq_eq_true hsz) W, Sem.run_bind, h2]
            rfl
          · refine h8 k fun e => ?_
            subst e
            obtain ⟨_, A', c', e1, h3', _⟩ := hown
            cases e1
            exact hno ⟨n, c, rfl, by omega⟩
        · cases h
      · cases h
    · cases h
  · cases h
end
theorem zeros_flat {α : Type} {enc : α → List Value} (x0 : α) (z : List Value) (hz : enc x0 = z) (hp : 0 < z.length) (m : Nat) : (Builtin.zeroCells z.toArray m).toList = (List.replicate m x0).flatMap enc := by
  have hl1 : ((Builtin.zeroCells z.toArray m).toList).length = m * z.length := by simp [Builtin.zeroCells]
  have hrep : ∀ n, ((List.replicate n x0).flatMap enc).length = n * z.length := by
    intro n
    induction n with
    | zero => simp
    | succ n ih => rw [List.replicate_succ, List.flatMap_cons, List.length_append, ih, hz, Nat.add_mul, Nat.one_mul, Nat.add_comm]
  have hget : ∀ n i, i < n * z.length → ((List.replicate n x0).flatMap enc)[i]? = z[i % z.length]? := by
    intro n
    induction n with
    | zero => intro i hi; omega
    | succ n ih =>
      intro i hi
      rw [List.replicate_succ, List.flatMap_cons, hz]
      by_cases h : i < z.length
      · rw [List.getElem?_append_left h, Nat.mod_eq_of_lt h]
      · rw [List.getElem?_append_right (by omega), ih (i - z.length) (by rw [Nat.add_mul] at hi; omega), ← Nat.mod_eq_sub_mod (by omega)]
  apply List.ext_getElem?
  intro i
  by_cases hi : i < m * z.length
  · rw [hget m i hi]
    have hm : i % z.length < z.length := Nat.mod_lt _ hp
    have hi' : i < (Builtin.zeroCells z.toArray m).size := by simp [Builtin.zeroCells]; exact hi
    rw [Array.getElem?_toList, Array.getElem?_eq_getElem hi']
    simp [Builtin.zeroCells, hm]
  · rw [List.getElem?_eq_none (by omega), List.getElem?_eq_none (by rw [hrep]; omega)]
/-! ### Regions whose order is drawn, told in the order of the text; calls when nothing else may come up -/
section
variable {P : Program} {Q : Exit → Act → World → Prop} {Kn : Act → World → Prop} {F0 F : List Asrt}
end
/-! ### Calls that turn several parts -/
/-- Nothing has turned but these parts' blocks. -/
structure TurnF (Pre : List Asrt) (w W : World) : Prop where
  os : W.os = w.os
  tape : W.tape = w.tape
  output : W.output = w.output
  size : w.heap.size ≤ W.heap.size
  rest : ∀ k, k < w.heap.size → (∀ A ∈ Pre, ¬ A.fp k) → W.heap[k]? = w.heap[k]?
def oldF (w : World) (Pre : List Asrt) : Asrt where
  holds W := TurnF Pre w W
  fp k := k < w.heap.size ∧ ∀ A ∈ Pre, ¬ A.fp k
  stable := fun W W' h1 h2 h3 h4 h5 h => ⟨h1.trans h.os, h2.trans h.tape, h3.trans h.output, Nat.le_trans h.size h4, fun k hk hn => (h5 k ⟨hk, hn⟩).trans (h.rest k hk hn)⟩
  inb := fun W k h hk => Nat.lt_of_lt_of_le hk.1 h.size
theorem parts_next {W W' : World} {Pre Rest Post : List Asrt} (h : HoldR W (Pre ++ Rest)) (h' : HoldR W' (Post ++ [oldF W Pre])) : HoldR W' (Post ++ Rest) := by
  have ht : TurnF Pre W W' := h'.all (oldF W Pre) (List.mem_append_right _ (List.mem_singleton_self _))
  have hs := List.pairwise_append.1 h.sep
  have hs' := List.pairwise_append.1 h'.sep
  refine ⟨fun A hA => ?_, List.pairwise_append.2 ⟨hs'.1, hs.2.1, fun A hA B hB k hk hk' => ?_⟩⟩
  · rcases List.mem_append.1 hA with h1 | h1
    · exact h'.all A (List.mem_append_left _ h1)
    · have hA' := h.all A (List.mem_append_right _ h1)
      exact A.stable W W' ht.os ht.tape ht.output ht.size (fun k hk => ht.rest k (A.inb W k hA' hk) fun B hB hkB => hs.2.2 B hB A h1 k hkB hk) hA'
  · have hB' := h.all B (List.mem_append_right _ hB)
    exact hs'.2.2 A hA (oldF W Pre) (List.mem_singleton_self _) k hk ⟨B.inb W k hB' hk', fun C hC hkC => hs.2.2 C hC B hB k hkC hk'⟩
/-- So many of the parts, in whatever order. -/
theorem HoldR.ix {W : World} {R R' : List Asrt} (h : HoldR W R) (ix : List Nat) (hn : ix.Nodup) (e : ix.map (fun i => R[i]?) = R'.map some) : HoldR W R' := by
  have hl : ix.length = R'.length := by
    have := congrArg List.length e
    simpa using this
  have hg : ∀ (j : Nat) (h1 : j < R'.length), ∃ h2 : ix[j]'(by omega) < R.length, R[ix[j]'(by omega)] = R'[j] := by
    intro j h1
    have h3 : (ix.map (fun i => R[i]?))[j]? = (R'.map some)[j]? := by rw [e]
    rw [List.getElem?_map, List.getElem?_map, List.getElem?_eq_getElem (by omega : j < ix.length), List.getElem?_eq_getElem h1] at h3
    simp only [Option.map_some, Option.some.injEq] at h3
    obtain ⟨h4, h5⟩ := List.getElem?_eq_some_iff.1 h3
    exact ⟨h4, h5⟩
  refine ⟨fun A hA => ?_, List.pairwise_iff_getElem.2 fun i j hi hj hij => ?_⟩
  · obtain ⟨j, hj, rfl⟩ := List.getElem_of_mem hA
    obtain ⟨h4, h5⟩ := hg j hj
    rw [← h5]
    exact h.all _ (List.getElem_mem h4)
  · obtain ⟨h4, h5⟩ := hg i hi
    obtain ⟨h6, h7⟩ := hg j hj
    rw [← h5, ← h7]
    have hne : ix[i]'(by omega) ≠ ix[j]'(by omega) := fun e2 => by
      have := (List.pairwise_iff_getElem.1 hn) i j (by omega) (by omega) hij
      exact this e2
    rcases Nat.lt_or_gt_of_ne hne with hlt | hgt
    · exact List.pairwise_iff_getElem.1 h.sep _ _ h4 h6 hlt
    · exact (List.pairwise_iff_getElem.1 h.sep _ _ h6 h4 hgt).symm
section
variable {P : Program} {Q : Exit → Act → World → Prop} {K : Exit → Act → World → Prop} {F : List Asrt}
theorem enterF {f : FuncId} {fn : Func} {c : Code} {args : List Value} {w : World} {R : Ending → World → Prop} {L : List Blk} {F0 : List Asrt} (hf : P.funcs[f]? = some fn) (hb : fn.body = some c) (hown : HoldR w (L.map blkA ++ F0)) (h : Go P (bodyPost P fn R) (F0 ++ [oldF w (L.map blkA ++ F0)]) ⟨[.code c], ini args fn.ntmps, L⟩) : Calls P f args.toArray w R := by
  refine calls_of_wp hf hb ?_
  have e0 : args.toArray ++ Array.replicate (fn.ntmps - args.toArray.size) undef = (ini args fn.ntmps).toArray := by
    simp [ini]
  rw [e0]
  have h0 : Hold w L (F0 ++ [oldF w (L.map blkA ++ F0)]) := by
    unfold Hold
    rw [← List.append_assoc]
    refine ⟨fun A hA => ?_, List.pairwise_append.2 ⟨hown.sep, List.pairwise_singleton _ _, fun A hA B hB k hk hk' => ?_⟩⟩
    · rcases List.mem_append.1 hA with h1 | h1
      · exact hown.all A h1
      · rw [List.mem_singleton] at h1
        subst h1
        exact ⟨rfl, rfl, rfl, Nat.le_refl _, fun _ _ _ => rfl⟩
    · rw [List.mem_singleton] at hB
      subst hB
      exact hk'.2 A hA hk
  exact wp_mono (h w h0) fun e a w' q => q
def advL (s : St) (v : Value) (L : List Blk) : St := ⟨(adv s v).fs, (adv s v).l, L⟩
/-- A call that turns several parts. -/
theorem cg {s : St} {f : FuncId} {args : Array Value} (L0 : List Blk) (Pre Rest : List Asrt) {X : Type} {v : X → Value} {Post : X → List Asrt} (L' : X → List Blk) (F' : X → List Asrt) (hp : ∀ W, Hold W L0 F → HoldR W (Pre ++ Rest)) (hp' : ∀ x W, HoldR W (Post x ++ Rest) → Hold W (L' x) (F' x)) (hc : ∀ W, HoldR W (Pre ++ Rest) → Calls P f args W fun e W' => ∃ x, e = .returned (v x) ∧ HoldR W' (Post x ++ [oldF W Pre])) (hn : ∀ x, Go P Q (F' x) (advL (nm s) (v x) (L' x))) (h : callAt P (nm s) = some (f, args) := by kernel_rfl) (hL : (nm s).L = L0 := by kernel_rfl) : Go P Q F s := by
  subst hL
  refine norm_sound 400 ?_
  unfold callAt at h
  split at h
  · rename_i o ho
    split at h
    · rename_i f' args' hs
      cases h
      obtain ⟨all, r, fs, hfs, hw, hadv⟩ := opAt_spec ho
      intro W hW
      have hW' : HoldR W (Pre ++ Rest) := hp W hW
      rw [hfs]
      refine wpList_step fun K hK => ?_
      rw [if_pos ((wantd_eq all _ o).trans hw)]
      unfold Oper.wp
      rw [evl_eq, semP_run _ _ W hs, Oper.upon_enter]
      refine (hc W hW').mono fun e W2 hR => ?_
      obtain ⟨x, rfl, hH⟩ := hR
      show K _ _
      rw [put_eq]
      refine hK _ _ ?_
      have h9 := hn x W2
      unfold advL at h9
      rw [hadv] at h9
      exact h9 (hp' x _ (parts_next hW' hH))
    · cases h
  · cases h
/-- The same within a drawn region. -/
theorem dcg {s : DS} (j : Nat) {f : FuncId} {args : Array Value} (L0 : List Blk) (Pre Rest : List Asrt) {X : Type} {v : X → Value} {Post : X → List Asrt} (L' : X → List Blk) (F' : X → List Asrt) (hp : ∀ W, Hold W L0 F → HoldR W (Pre ++ Rest)) (hp' : ∀ x W, HoldR W (Post x ++ Rest) → Hold W (L' x) (F' x)) (hc : ∀ W, HoldR W (Pre ++ Rest) → Calls P f args W fun e W' => ∃ x, e = .returned (v x) ∧ HoldR W' (Post x ++ [oldF W Pre])) (hn : ∀ x, DG P K (F' x) (deffS s j (v x) (L' x))) (h : dcallAt P s j = some (f, args) := by kernel_rfl) (hB : deffB P s j = true := by kernel_rfl) (hL : s.L = L0 := by kernel_rfl) : DG P K F s := by
  subst hL
  intro hw
  unfold dcallAt at h
  split at h
  · rename_i o ho
    split at h
    · rename_i hw1
      split at h
      · rename_i f' args' hs
        cases h
        unfold deffB at hB
        rw [ho] at hB
        simp only [Bool.and_eq_true] at hB
        obtain ⟨⟨⟨_, hal⟩, hB⟩, hpd⟩ := hB
        obtain ⟨o', ho', hjk, hcl, hda, hlk⟩ := dcB_spec hB
        rw [ho] at ho'
        cases ho'
        have hal' : s.al = [] := by simpa using hal
        refine ga_op hw ho hjk hcl hda fun ls a W A hp0 hr hdl hev hwt => ?_
        have hA : A = [] := by
          have := hp0.als
          rw [hal'] at this
          cases this
          rfl
        subst hA
        have hW' : HoldR W (Pre ++ Rest) := hp W hp0.hold
        refine wpOp_step ho fun K' hK => ?_
        rw [if_pos (hwt.trans hw1)]
        unfold Oper.wp
        rw [hev, semP_run _ _ W hs, Oper.upon_enter]
        refine (hc W hW').mono fun e W2 hR => ?_
        obtain ⟨x, rfl, hH⟩ := hR
        have h2 : Hold W2 (L' x) (F' x) := hp' x _ (parts_next hW' hH)
        have hG := hn x
        unfold deffS at hG
        rw [ho, Option.bind_some] at hG
        refine hK _ _ ((hG ?_) _ _ W2 [] (pre_next hw hp0 ho hjk hr (v x) (fun b hb hnb => ?_) h2))
        · refine dw_next hw ho hjk hlk (v x) (fun b hb => (List.mem_filter.1 hb).1) fun b hb ob u hob hC => ?_
          obtain ⟨hbp, hnw⟩ := List.mem_filter.1 hb
          have h3 := List.all_eq_true.1 hpd b hbp
          simp only [Bool.or_eq_true] at h3
          rcases h3 with h3 | h3
          · simp [h3] at hnw
          · unfold pureB at h3
            rw [hob] at h3
            simp only at h3
            split at h3
            · rename_i hwf
              rcases hC with ⟨h4, _⟩ | h4
              · rw [hwf] at h4; cases h4
              · exact .inr h4
            · rename_i hwt'
              split at h3
              · rename_i v2 hs2
                rcases hC with ⟨h4, h5⟩ | ⟨h4, _⟩
                · have h6 := h5 W hp0.hold
                  rw [semP_run _ _ W hs2] at h6
                  cases h6
                  exact .inl ⟨h4, fun W2 _ => semP_run _ _ W2 hs2⟩
                · rw [hwt'] at h4; cases h4
              · cases h3
        · have h3 : waitsT s.ops s.ops.size j b = true := by
            cases h4 : waitsT s.ops s.ops.size j b with
            | true => rfl
            | false => exact absurd (List.mem_filter.2 ⟨hb, by simp [h4]⟩) hnb
          exact waitsT_spec hp0.shut _ _ _ h3 fun o' ho' => by
            rw [ho] at ho'
            cases ho'
            exact hdl
      · cases h
    · cases h
  · cases h
end
/-! ### Slices that are only read -/
section
variable {P : Program} {Q : Exit → Act → World → Prop} {F : List Asrt}
theorem Rd.move {α : Type} {w W : World} {v : Value} {sz : Nat} {enc : α → List Value} {l : List α} (h : Rd w v sz enc l) (hs : w.heap.size ≤ W.heap.size) (hb : ∀ k, (l ≠ [] ∧ ∃ o n c, v = .slice (some ⟨k, o, none⟩) n c) → W.heap[k]? = w.heap[k]?) : Rd W v sz enc l := by
  obtain ⟨A, c, rfl, hc, h0 | ⟨B, o, rfl, hat⟩⟩ := h
  · exact ⟨A, c, rfl, hc, .inl h0⟩
  · by_cases hl : l = []
    · exact ⟨_, c, rfl, hc, .inl hl⟩
    · exact ⟨_, c, rfl, hc, .inr ⟨B, o, rfl, hat.move hs (hb B ⟨hl, o, _, c, rfl⟩)⟩⟩
def rdA {α : Type} (v : Value) (sz : Nat) (enc : α → List Value) (l : List α) : Asrt where
  holds W := Rd W v sz enc l
  fp k := l ≠ [] ∧ ∃ o n c, v = .slice (some ⟨k, o, none⟩) n c
  stable := fun W W' _ _ _ h4 h5 h => h.move h4 h5
  inb := fun W k h hk => by
    obtain ⟨A, c, rfl, hc, h0 | ⟨B, o, rfl, hat⟩⟩ := h
    · exact absurd h0 hk.1
    · obtain ⟨_, o', n', c', e⟩ := hk
      cases e
      exact hat.lt
/-- A row of one's own is only read from here on. -/
theorem fz {s : St} (i : Nat) {α : Type} {e sz n : Nat} {v : Value} {enc : α → List Value} {l : List α} (hs : ∀ x, (enc x).length = sz) (hF : F[i]? = some (rowA e sz v n (l.flatMap enc))) (hn : l.length = n) (h : Go P Q (F.set i (rdA v sz enc l)) s) : Go P Q F s := by
  intro W hW
  have hown : ownR W e sz v n (l.flatMap enc) := hW.f i hF
  refine h W (Hold.setF hW hF rfl rfl rfl (Nat.le_refl _) (fun _ _ _ => rfl) (own_rdn hs hn hown) fun k hk => .inl ?_)
  obtain ⟨hl, o, n', c', e1⟩ := hk
  obtain ⟨_, A, c, e2, hc, hcur⟩ := hown
  rw [e1] at e2
  cases e2
  have hp : 0 < l.length := List.length_pos_iff.2 hl
  rcases hcur with h0 | ⟨g, cur, e3, _⟩
  · omega
  · cases e3
    exact ⟨n, c', e1, by omega⟩
end
/-! ### Told in the order of the text, where a store may come up ahead of loads or behind them -/
section
variable {P : Program} {Q : Exit → Act → World → Prop} {Kn : Act → World → Prop} {F : List Asrt} {La Lb : List Blk}
end
end Go.Proofs.YtglkhjjhjhhonaaM.Mach
