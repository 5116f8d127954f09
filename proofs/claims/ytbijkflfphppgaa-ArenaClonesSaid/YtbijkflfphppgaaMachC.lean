/- Calls that turn a row of the caller's own; what clear leaves. No condition beside those that each theorem names. -/
import Derived.Test.YtbijkflfphppgaaMach
import Derived.OrdersHeld
namespace Go.Proofs.YtbijkflfphppgaaM.Mach
open Go.RowKit
set_option linter.unusedVariables false
set_option linter.unusedSimpArgs false
/-! ### Calls that turn a row of the caller's own -/
/-- Nothing has turned but the row's block. -/
structure Turned (v : Value) (w W : World) : Prop where
  os : W.os = w.os
  tape : W.tape = w.tape
  output : W.output = w.output
  size : w.heap.size ≤ W.heap.size
  rest : ∀ k, k < w.heap.size → ¬ ownF v k → W.heap[k]? = w.heap[k]?
def oldX (w : World) (v : Value) : Asrt where
  holds W := Turned v w W
  fp k := k < w.heap.size ∧ ¬ ownF v k
  stable := fun W W' h1 h2 h3 h4 h5 h => ⟨h1.trans h.os, h2.trans h.tape, h3.trans h.output, Nat.le_trans h.size h4, fun k hk hn => (h5 k ⟨hk, hn⟩).trans (h.rest k hk hn)⟩
  inb := fun W k h hk => Nat.lt_of_lt_of_le hk.1 h.size
section
variable {P : Program} {Q : Exit → Act → World → Prop} {F : List Asrt}
theorem enterX {f : FuncId} {fn : Func} {c : Code} {args : List Value} {w : World} {R : Ending → World → Prop} {e sz n : Nat} {v : Value} {xs : List Value} (hf : P.funcs[f]? = some fn) (hb : fn.body = some c) (hown : ownR w e sz v n xs) (h : Go P (bodyPost P fn R) [rowA e sz v n xs, oldX w v] ⟨[.code c], ini args fn.ntmps, []⟩) : Calls P f args.toArray w R := by
  refine calls_of_wp hf hb ?_
  have e0 : args.toArray ++ Array.replicate (fn.ntmps - args.toArray.size) undef = (ini args fn.ntmps).toArray := by
    simp [ini]
  rw [e0]
  have h0 : Hold w ([] : List Blk) [rowA e sz v n xs, oldX w v] := by
    refine ⟨fun A hA => ?_, ?_⟩
    · simp only [List.map_nil, List.nil_append, List.mem_cons, List.not_mem_nil, or_false] at hA
      rcases hA with rfl | rfl
      · exact hown
      · exact ⟨rfl, rfl, rfl, Nat.le_refl _, fun _ _ _ => rfl⟩
    · refine List.pairwise_cons.2 ⟨fun B hB k hk hk' => ?_, List.pairwise_singleton _ _⟩
      simp only [List.mem_cons, List.not_mem_nil, or_false] at hB
      subst hB
      exact hk'.2 hk
  exact wp_mono (h w h0) fun e a w' q => q
/-- A call that turns a row of the caller's own. -/
theorem cm {s : St} (i : Nat) {f : FuncId} {args : Array Value} {e sz n : Nat} {va : Value} {xs : List Value} {X : Type} {v : X → Value} {xs' : X → List Value} (hF : F[i]? = some (rowA e sz va n xs)) (hc : ∀ W, HoldR W F → Calls P f args W fun e' W' => ∃ x, e' = .returned (v x) ∧ Turned va W W' ∧ ownR W' e sz va n (xs' x)) (hn : ∀ x, Go P Q (F.set i (rowA e sz va n (xs' x))) (adv (nm s) (v x))) (h : callAt P (nm s) = some (f, args) := by kernel_rfl) : Go P Q F s :=
  cl0 (fun W e' W' => ∃ x, e' = .returned (v x) ∧ Turned va W W' ∧ ownR W' e sz va n (xs' x)) h (fun W hW => hc W (Hold.ff hW)) fun W hW e' W' ⟨x, he, ht, ho⟩ =>
    ⟨v x, F.set i (rowA e sz va n (xs' x)), he, Hold.setF hW hF ht.os ht.tape ht.output ht.size ht.rest ho (fun k hk => .inl hk), hn x⟩
end
section
variable {P : Program} {K : Exit → Act → World → Prop} {F : List Asrt}
def dstAt (P : Program) (s : DS) (j : Nat) : Option (Nat × Nat × List Value) := match s.ops[j]? with
  | some o => match o.op with
    | .store t x y => match evl s.l x, P.info? t with
      | .pointer (some ⟨B, off, none⟩), some i => match Nat.beq (evl s.l y).cells.size i.size with
        | true => some (B, off, (evl s.l y).cells.toList)
        | false => none
      | _, _ => none
    | _ => none
  | none => none
/-- A store into a row of one's own within a drawn region. -/
theorem dsto {s : DS} (j i : Nat) {e sz n c g off : Nat} {A : Option Addr} {xs vs : List Value} (hA : A = some ⟨g, 0, none⟩) (hF : F[i]? = some (rowA e sz (.slice A n c) n xs)) (hp : 0 < n) (hl : off + vs.length ≤ xs.length) (xs' : List Value) (hx : xs.take off ++ vs ++ xs.drop (off + vs.length) = xs') (hn : DG P K (F.set i (rowA e sz (.slice A n c) n xs')) (deffS s j undef s.L)) (h : dstAt P s j = some (g, off, vs) := by kernel_rfl) (h1 : vs.all cellV = true := by kernel_rfl) (hB : deffBp P s j [] = true := by kernel_rfl) : DG P K F s := by
  subst hA
  unfold dstAt at h
  split at h
  · rename_i o ho
    split at h
    · rename_i t x y hop
      split at h
      · rename_i B off' inf hx' hi
        split at h
        · rename_i hsz
          cases h
          refine deffK (pl := []) (X := World) (L' := fun _ => s.L) (F' := fun _ => F.set i (rowA e sz (.slice (some ⟨g, 0, none⟩) n c) n xs')) j ho hB (fun W hW => ?_) (fun _ => .nil) fun _ => hn
          have hown : ownR W e sz (.slice (some ⟨g, 0, none⟩) n c) n xs := hW.f i hF
          obtain ⟨W', h2, h3, h4, h5, h6, h7, h8⟩ := own_store (P := P) (off := off) (W := W) _ 0 xs W hown hl h1
          refine ⟨W', W', ?_, Hold.setF hW hF h4 h5 h6 (by omega) (fun k hk hno => ?_) (by rw [← hx]; simpa [rowA] using h3) fun k hk => .inl hk⟩
          · rw [st_run hop hx' hi (Nat.eq_of_beq_eq_true hsz) W, Sem.run_bind, h2]
            rfl
          · refine h8 k fun e => ?_
            subst e
            obtain ⟨_, A', c', e1, h3', _⟩ := hown
            cases e1
            exact hno ⟨n, c, rfl, by omega⟩
        · cases h
      · cases h
    · cases h
  · cases h
end
theorem zeros_flat {α : Type} {enc : α → List Value} (x0 : α) (z : List Value) (hz : enc x0 = z) (hp : 0 < z.length) (m : Nat) : (Builtin.zeroCells z.toArray m).toList = (List.replicate m x0).flatMap enc := by
  have hl1 : ((Builtin.zeroCells z.toArray m).toList).length = m * z.length := by simp [Builtin.zeroCells]
  have hrep : ∀ n, ((List.replicate n x0).flatMap enc).length = n * z.length := by
    intro n
    induction n with
    | zero => simp
    | succ n ih => rw [List.replicate_succ, List.flatMap_cons, List.length_append, ih, hz, Nat.add_mul, Nat.one_mul, Nat.add_comm]
  have hget : ∀ n i, i < n * z.length → ((List.replicate n x0).flatMap enc)[i]? = z[i % z.length]? := by
    intro n
    induction n with
    | zero => intro i hi; omega
    | succ n ih =>
      intro i hi
      rw [List.replicate_succ, List.flatMap_cons, hz]
      by_cases h : i < z.length
      · rw [List.getElem?_append_left h, Nat.mod_eq_of_lt h]
      · rw [List.getElem?_append_right (by omega), ih (i - z.length) (by rw [Nat.add_mul] at hi; omega), ← Nat.mod_eq_sub_mod (by omega)]
  apply List.ext_getElem?
  intro i
  by_cases hi : i < m * z.length
  · rw [hget m i hi]
    have hm : i % z.length < z.length := Nat.mod_lt _ hp
    have hi' : i < (Builtin.zeroCells z.toArray m).size := by simp [Builtin.zeroCells]; exact hi
    rw [Array.getElem?_toList, Array.getElem?_eq_getElem hi']
    simp [Builtin.zeroCells, hm]
  · rw [List.getElem?_eq_none (by omega), List.getElem?_eq_none (by rw [hrep]; omega)]
/-! ### Regions whose order is drawn, told in the order of the text; calls when nothing else may come up -/
section
variable {P : Program} {Q : Exit → Act → World → Prop} {Kn : Act → World → Prop} {F0 F : List Asrt}
structure HS where
  ops : Array Oper
  ls : Array Bool
  n : Nat
  i : Nat
  l : List Value
  L : List Blk
def onlyN (Kn : Act → World → Prop) : Exit → Act → World → Prop := fun e a w => e = .normal ∧ Kn a w
structure HG (P : Program) (Kn : Act → World → Prop) (F0 F : List Asrt) (q : HS) : Prop where
  out : (∀ W, Hold W q.L F → Hold W q.L F0) → ∀ W, Hold W q.L F → wpAnyH P .any q.ops (onlyN Kn) (fun W => Hold W q.L F0) q.n q.ls ⟨q.l.toArray, []⟩ W
def lxB (P : Program) (s : St) : Bool := (match s.fs with | .code (.region _ _ true) :: _ => true | _ => false) && P.follows .mixedOrders
theorem lxr {s : St} (h : HG P (fun a w => KK P Q (drFs (nm s)) .normal a w) F F ⟨drOps (nm s), Array.replicate (drOps (nm s)).size false, (drOps (nm s)).size, 0, (nm s).l, (nm s).L⟩) (hB : lxB P (nm s) = true := by kernel_rfl) : Go P Q F s := by
  refine norm_sound 400 ?_
  show Go P Q F (nm s)
  revert h hB
  generalize nm s = s
  intro h hB
  unfold lxB at hB
  simp only [Bool.and_eq_true] at hB
  obtain ⟨h1, h2⟩ := hB
  split at h1
  · rename_i id ops fs hfs
    have e1 : drFs s = fs := by simp only [drFs, hfs]
    have e2 : drOps s = ops := by simp only [drOps, hfs]
    rw [e1, e2] at h
    intro W hW
    rw [hfs]
    show Code.wp P (.region id ops true) (KK P Q fs) _ W
    refine wp_mono (wp_region_held (S := fun W => Hold W s.L F) h2 (h.out (fun _ h => h) _ (HoldR.drew hW))) fun e a w h => ?_
    obtain ⟨he, hk⟩ := h
    subst he
    exact hk
  · cases h1
def takeB (q : HS) : Bool := Region.noSelect q.ops && Region.free .any q.ops q.ls q.i && (Region.ready .any q.ops q.ls).contains q.i && Nat.blt 0 q.n
theorem lxv {q : HS} {o : Oper} {v : Value} (ho : q.ops[q.i]? = some o) (hB : takeB q = true) (h : (wantd q.ops q.l o = true ∧ ∀ W, Hold W q.L F0 → (execOp (evl q.l) o).run P W = .ok (.value v) W) ∨ (wantd q.ops q.l o = false ∧ v = undef)) (hn : HG P Kn F0 F ⟨q.ops, q.ls.setIfInBounds q.i true, q.n - 1, q.i + 1, setd q.l o.dst v, q.L⟩) : HG P Kn F0 F q := by
  unfold takeB at hB
  simp only [Bool.and_eq_true] at hB
  obtain ⟨⟨⟨h1, h2⟩, h3⟩, h4⟩ := hB
  have h5 : q.n = (q.n - 1) + 1 := by
    have := Nat.le_of_ble_eq_true h4
    omega
  refine ⟨fun hs W hW => ?_⟩
  rw [h5]
  refine wpAnyH_take (v := v) ho h1 h2 h3 (fun c a w h => (by cases h.1)) ?_ (hs W hW) ?_
  · rcases h with ⟨hw, hv⟩ | ⟨hw, rfl⟩
    · exact .inl ⟨(wantd_eq q.ops q.l o).trans hw, fun W hW => by rw [evl_eq]; exact hv W hW⟩
    · exact .inr ⟨(wantd_eq q.ops q.l o).trans hw, rfl⟩
  · rw [put_eq]
    exact hn.out hs W hW
def lxfill (P : Program) : List Nat → List Nat → List (Nat × Value) → HS → Option (HS × List (Nat × Nat) × List Prop)
  | [], _, _, q => some (q, [], [])
  | b :: n, js, rp, q => match q.ops[b]? with
    | none => none
    | some o => match Nat.beq q.i b with
      | false => none
      | true => match takeB q with
       | false => none
       | true => match wantd q.ops q.l o with
        | false => lxfill P n js rp ⟨q.ops, q.ls.setIfInBounds b true, q.n - 1, b + 1, setd q.l o.dst undef, q.L⟩
        | true => match idxStep P q.l o.op with
          | some (v, p) => (lxfill P n js rp ⟨q.ops, q.ls.setIfInBounds b true, q.n - 1, b + 1, setd q.l o.dst v, q.L⟩).map fun r => (r.1, r.2.1, p :: r.2.2)
          | none => match symL P (execOp (evl q.l) o) js q.L with
            | some (.value v, js', E) => match rv1 b rp with
              | none => (lxfill P n js' rp ⟨q.ops, q.ls.setIfInBounds b true, q.n - 1, b + 1, setd q.l o.dst v, q.L⟩).map fun r => (r.1, E ++ r.2.1, r.2.2)
              | some u => (lxfill P n js' (rv2 b rp) ⟨q.ops, q.ls.setIfInBounds b true, q.n - 1, b + 1, setd q.l o.dst u, q.L⟩).map fun r => (r.1, E ++ r.2.1, (v = u) :: r.2.2)
            | _ => none
theorem lxfill_sound : ∀ (n : List Nat) (js : List Nat) (rp : List (Nat × Value)) (q : HS) (r : HS × List (Nat × Nat) × List Prop), lxfill P n js rp q = some r → Same r.2.1 → (∀ p ∈ r.2.2, p) → HG P Kn F0 F r.1 → HG P Kn F0 F q
  | [], js, rp, q, r, h, hE, hB, hg => by cases h; exact hg
  | b :: n, js, rp, q, r, h, hE, hB, hg => by
    simp only [lxfill] at h
    split at h
    · cases h
    · rename_i o ho0
      split at h
      · cases h
      rename_i hb
      have e := Nat.eq_of_beq_eq_true hb
      subst e
      have ho := ho0
      split at h
      · cases h
      rename_i hT
      split at h
      · rename_i hwt
        exact lxv ho hT (.inr ⟨hwt, rfl⟩) (lxfill_sound n js rp _ r h hE hB hg)
      · rename_i hwt
        split at h
        · rename_i v p hix
          obtain ⟨q', hq, e⟩ := Option.map_eq_some_iff.1 h
          subst e
          exact lxv ho hT (.inl ⟨hwt, fun W _ => idx_run hix (hB p List.mem_cons_self) W⟩) (lxfill_sound n js rp _ q' hq hE (fun p hp => hB p (List.mem_cons_of_mem _ hp)) hg)
        · split at h
          · rename_i v js' E hs
            split at h
            · obtain ⟨q', hq, e⟩ := Option.map_eq_some_iff.1 h
              subst e
              exact lxv ho hT (.inl ⟨hwt, fun W hW => symL_run _ js q.L W _ js' E hs (fun p hp => hE p (List.mem_append_left _ hp)) hW⟩) (lxfill_sound n js' rp _ q' hq (fun p hp => hE p (List.mem_append_right _ hp)) hB hg)
            · rename_i u hu
              obtain ⟨q', hq, e⟩ := Option.map_eq_some_iff.1 h
              subst e
              have hvu : v = u := hB _ List.mem_cons_self
              exact lxv ho hT (.inl ⟨hwt, fun W hW => by rw [symL_run _ js q.L W _ js' E hs (fun p hp => hE p (List.mem_append_left _ hp)) hW, hvu]⟩) (lxfill_sound n js' (rv2 q.i rp) _ q' hq (fun p hp => hE p (List.mem_append_right _ hp)) (fun p hp => hB p (List.mem_cons_of_mem _ hp)) hg)
          · cases h
def lxfS (P : Program) (n : List Nat) (js : List Nat) (rp : List (Nat × Value)) (q : HS) : HS := match lxfill P n js rp q with
  | some r => r.1
  | none => q
/-- So many operations at once. -/
theorem lxf {q : HS} (n : List Nat) (js : List (Nat × Nat)) (rp : List (Nat × Value)) (E : List (Nat × Nat)) (B : List Prop) (hB : AllB B) (hG : HG P Kn F0 F (lxfS P n (rl js) rp q)) (h : (lxfill P n (rl js) rp q).map (fun r => r.2) = some (dup E, B) := by kernel_rfl) : HG P Kn F0 F q := by
  obtain ⟨r, hr, e⟩ := Option.map_eq_some_iff.1 h
  unfold lxfS at hG
  rw [hr] at hG
  refine lxfill_sound n (rl js) rp q r hr ?_ ?_ hG
  · rw [e]
    exact dup_same E
  · rw [e]
    exact hB.spec
def lxnext (q : HS) (v : Value) : HS := ⟨q.ops, q.ls.setIfInBounds q.i true, q.n - 1, q.i + 1, setd q.l ((q.ops[q.i]?).bind (·.dst)) v, q.L⟩
def lxop (q : HS) : Option Oper := match q.ops[q.i]? with
  | some o => match takeB q && wantd q.ops q.l o with
    | true => some o
    | false => none
  | none => none
theorem lxop_v {q : HS} {o : Oper} {v : Value} (h : lxop q = some o) (hv : ∀ W, Hold W q.L F0 → (execOp (evl q.l) o).run P W = .ok (.value v) W) (hn : HG P Kn F0 F (lxnext q v)) : HG P Kn F0 F q := by
  unfold lxop at h
  split at h
  · rename_i o' ho
    split at h
    · rename_i hw
      cases h
      unfold lxnext at hn
      rw [ho, Option.bind_some] at hn
      simp only [Bool.and_eq_true] at hw
      exact lxv ho hw.1 (.inl ⟨hw.2, hv⟩) hn
    · cases h
  · cases h
def lxldAt (P : Program) (q : HS) : Option (Nat × Nat × Nat × Bool) := match lxop q with
  | some o => match o.op with
    | .load t x => match evl q.l x, P.underlying t, P.info? t with
      | .pointer (some ⟨B, off, none⟩), some d, some i => some (B, off, i.size, rowT d)
      | _, _, _ => none
    | _ => none
  | none => none
theorem lxl {q : HS} {B off n : Nat} {row : Bool} (vs : List Value) (hv : ∀ W, HoldR W F0 → ∀ (j : Nat) (u : Value), vs[j]? = some u → W.cell? ⟨B, off + j, none⟩ = some u) (hn : HG P Kn F0 F (lxnext q (ldV row vs))) (h : lxldAt P q = some (B, off, n, row) := by kernel_rfl) (hl : vs.length = n := by kernel_rfl) (h1 : (row || Nat.beq n 1) = true := by kernel_rfl) : HG P Kn F0 F q := by
  unfold lxldAt at h
  split at h
  · rename_i o ho
    split at h
    · rename_i t x hop
      split at h
      · rename_i B' off' d i hx hu hi
        cases h
        refine lxop_v ho (fun W hW => ld_run hop hx hu hi hl (fun hd => ?_) (hv W (Hold.ff hW))) hn
        rw [hd] at h1
        rw [hl]
        exact Nat.eq_of_beq_eq_true (by simpa using h1)
      · cases h
    · cases h
  · cases h
theorem lxi {q : HS} {A : Option Addr} {B b n sz : Nat} {j : Int} (hA : A = some ⟨B, b, none⟩) (i : Nat) (hi : i < n) (hn : HG P Kn F0 F (lxnext q (.pointer (some ⟨B, b + i * sz, none⟩)))) (h : ((lxop q).bind fun o => ixX P q.l o) = some (A, n, j, sz) := by kernel_rfl) (hj : j = (i : Int) := by rfl) : HG P Kn F0 F q := by
  obtain ⟨o, ho, hx⟩ := Option.bind_eq_some_iff.1 h
  exact lxop_v ho (fun W _ => ixX_run hx hA hj hi W) hn
theorem lxe {q : HS} {pos : Bool} {t : TypeId} {a b : Value} {r : Bool} (v : Bool) (hr : ∀ W, (Op.equal t a b).run P W = .ok r W) (hv : (r == pos) = v) (hn : HG P Kn F0 F (lxnext q (.bool v))) (h : ((lxop q).bind fun o => eqX P q.l o) = some (pos, t, a, b) := by kernel_rfl) : HG P Kn F0 F q := by
  subst hv
  obtain ⟨o, ho, hx⟩ := Option.bind_eq_some_iff.1 h
  exact lxop_v ho (fun W _ => eqX_run hx (hr W)) hn
def lxcAt (P : Program) (q : HS) : Option (FuncId × Array Value) := match q.ops[q.i]? with
  | some o => match wantd q.ops q.l o && Nat.blt 0 q.n && (match Region.ready .any q.ops q.ls with | [k] => Nat.beq k q.i | _ => false) with
    | true => match semP P (execOp (evl q.l) o) with
      | some (.enter f args) => some (f, args)
      | _ => none
    | false => none
  | none => none
/-- A call, when nothing else may come up. -/
theorem lxc {q : HS} {f : FuncId} {args : Array Value} {X : Type} {v : X → Value} {R : X → List Asrt} (hc : ∀ W, HoldR W F → Calls P f args W fun e W' => ∃ x, e = .returned (v x) ∧ Fresh W W' (R x)) (hn : ∀ x, HG P Kn F0 (R x ++ F) (lxnext q (v x))) (h : lxcAt P q = some (f, args) := by kernel_rfl) : HG P Kn F0 F q := by
  unfold lxcAt at h
  split at h
  · rename_i o ho
    split at h
    · rename_i hw
      split at h
      · rename_i f' args' hs'
        cases h
        simp only [Bool.and_eq_true] at hw
        obtain ⟨⟨hw, hn0⟩, hr⟩ := hw
        have hrd : Region.ready .any q.ops q.ls = [q.i] := by
          split at hr
          · rename_i k hk
            rw [hk, Nat.eq_of_beq_eq_true hr]
          · cases hr
        have h5 : q.n = (q.n - 1) + 1 := by
          have := Nat.le_of_ble_eq_true hn0
          omega
        refine ⟨fun hs W hW => ?_⟩
        rw [h5]
        refine wpAnyH_all hrd (by simp) fun j hj => ?_
        rw [List.mem_singleton] at hj
        subst hj
        unfold wpOp
        rw [ho]
        simp only
        rw [if_pos ((wantd_eq q.ops q.l o).trans hw)]
        refine .inl ?_
        unfold Oper.wp
        rw [evl_eq, semP_run _ _ W hs', Oper.upon_enter]
        refine (hc W (Hold.ff hW)).mono fun e W' hx => ?_
        obtain ⟨x, rfl, hf⟩ := hx
        have hH : Hold W' q.L (R x ++ F) := Hold.fresh hW hf
        have hsub : ∀ W, Hold W q.L (R x ++ F) → Hold W q.L F := fun W h => h.sub (List.Sublist.append (List.Sublist.refl _) (List.sublist_append_right _ _))
        have h6 := (hn x).out
        unfold lxnext at h6
        rw [ho, Option.bind_some] at h6
        refine ⟨hs W' (hsub W' hH), ?_⟩
        rw [put_eq]
        exact h6 (fun W h => hs W (hsub W h)) W' hH
      · cases h
    · cases h
  · cases h
theorem lxd {q : HS} {fs : List Fr} (h : Go P Q F ⟨fs, q.l, q.L⟩) (hB : (Region.ready .any q.ops q.ls).isEmpty = true := by kernel_rfl) : HG P (fun a w => KK P Q fs .normal a w) F0 F q := by
  refine ⟨fun hs W hW => wpAnyH_done (by simpa using hB) ⟨rfl, ?_⟩ _⟩
  exact h W hW
end
/-! ### Calls that turn several parts -/
/-- Nothing has turned but these parts' blocks. -/
structure TurnF (Pre : List Asrt) (w W : World) : Prop where
  os : W.os = w.os
  tape : W.tape = w.tape
  output : W.output = w.output
  size : w.heap.size ≤ W.heap.size
  rest : ∀ k, k < w.heap.size → (∀ A ∈ Pre, ¬ A.fp k) → W.heap[k]? = w.heap[k]?
def oldF (w : World) (Pre : List Asrt) : Asrt where
  holds W := TurnF Pre w W
  fp k := k < w.heap.size ∧ ∀ A ∈ Pre, ¬ A.fp k
  stable := fun W W' h1 h2 h3 h4 h5 h => ⟨h1.trans h.os, h2.trans h.tape, h3.trans h.output, Nat.le_trans h.size h4, fun k hk hn => (h5 k ⟨hk, hn⟩).trans (h.rest k hk hn)⟩
  inb := fun W k h hk => Nat.lt_of_lt_of_le hk.1 h.size
theorem parts_next {W W' : World} {Pre Rest Post : List Asrt} (h : HoldR W (Pre ++ Rest)) (h' : HoldR W' (Post ++ [oldF W Pre])) : HoldR W' (Post ++ Rest) := by
  have ht : TurnF Pre W W' := h'.all (oldF W Pre) (List.mem_append_right _ (List.mem_singleton_self _))
  have hs := List.pairwise_append.1 h.sep
  have hs' := List.pairwise_append.1 h'.sep
  refine ⟨fun A hA => ?_, List.pairwise_append.2 ⟨hs'.1, hs.2.1, fun A hA B hB k hk hk' => ?_⟩⟩
  · rcases List.mem_append.1 hA with h1 | h1
    · exact h'.all A (List.mem_append_left _ h1)
    · have hA' := h.all A (List.mem_append_right _ h1)
      exact A.stable W W' ht.os ht.tape ht.output ht.size (fun k hk => ht.rest k (A.inb W k hA' hk) fun B hB hkB => hs.2.2 B hB A h1 k hkB hk) hA'
  · have hB' := h.all B (List.mem_append_right _ hB)
    exact hs'.2.2 A hA (oldF W Pre) (List.mem_singleton_self _) k hk ⟨B.inb W k hB' hk', fun C hC hkC => hs.2.2 C hC B hB k hkC hk'⟩
/-- So many of the parts, in whatever order. -/
theorem HoldR.ix {W : World} {R R' : List Asrt} (h : HoldR W R) (ix : List Nat) (hn : ix.Nodup) (e : ix.map (fun i => R[i]?) = R'.map some) : HoldR W R' := by
  have hl : ix.length = R'.length := by
    have := congrArg List.length e
    simpa using this
  have hg : ∀ (j : Nat) (h1 : j < R'.length), ∃ h2 : ix[j]'(by omega) < R.length, R[ix[j]'(by omega)] = R'[j] := by
    intro j h1
    have h3 : (ix.map (fun i => R[i]?))[j]? = (R'.map some)[j]? := by rw [e]
    rw [List.getElem?_map, List.getElem?_map, List.getElem?_eq_getElem (by omega : j < ix.length), List.getElem?_eq_getElem h1] at h3
    simp only [Option.map_some, Option.some.injEq] at h3
    obtain ⟨h4, h5⟩ := List.getElem?_eq_some_iff.1 h3
    exact ⟨h4, h5⟩
  refine ⟨fun A hA => ?_, List.pairwise_iff_getElem.2 fun i j hi hj hij => ?_⟩
  · obtain ⟨j, hj, rfl⟩ := List.getElem_of_mem hA
    obtain ⟨h4, h5⟩ := hg j hj
    rw [← h5]
    exact h.all _ (List.getElem_mem h4)
  · obtain ⟨h4, h5⟩ := hg i hi
    obtain ⟨h6, h7⟩ := hg j hj
    rw [← h5, ← h7]
    have hne : ix[i]'(by omega) ≠ ix[j]'(by omega) := fun e2 => by
      have := (List.pairwise_iff_getElem.1 hn) i j (by omega) (by omega) hij
      exact this e2
    rcases Nat.lt_or_gt_of_ne hne with hlt | hgt
    · exact List.pairwise_iff_getElem.1 h.sep _ _ h4 h6 hlt
    · exact (List.pairwise_iff_getElem.1 h.sep _ _ h6 h4 hgt).symm
section
variable {P : Program} {Q : Exit → Act → World → Prop} {K : Exit → Act → World → Prop} {F : List Asrt}
theorem enterF {f : FuncId} {fn : Func} {c : Code} {args : List Value} {w : World} {R : Ending → World → Prop} {L : List Blk} {F0 : List Asrt} (hf : P.funcs[f]? = some fn) (hb : fn.body = some c) (hown : HoldR w (L.map blkA ++ F0)) (h : Go P (bodyPost P fn R) (F0 ++ [oldF w (L.map blkA ++ F0)]) ⟨[.code c], ini args fn.ntmps, L⟩) : Calls P f args.toArray w R := by
  refine calls_of_wp hf hb ?_
  have e0 : args.toArray ++ Array.replicate (fn.ntmps - args.toArray.size) undef = (ini args fn.ntmps).toArray := by
    simp [ini]
  rw [e0]
  have h0 : Hold w L (F0 ++ [oldF w (L.map blkA ++ F0)]) := by
    unfold Hold
    rw [← List.append_assoc]
    refine ⟨fun A hA => ?_, List.pairwise_append.2 ⟨hown.sep, List.pairwise_singleton _ _, fun A hA B hB k hk hk' => ?_⟩⟩
    · rcases List.mem_append.1 hA with h1 | h1
      · exact hown.all A h1
      · rw [List.mem_singleton] at h1
        subst h1
        exact ⟨rfl, rfl, rfl, Nat.le_refl _, fun _ _ _ => rfl⟩
    · rw [List.mem_singleton] at hB
      subst hB
      exact hk'.2 A hA hk
  exact wp_mono (h w h0) fun e a w' q => q
def advL (s : St) (v : Value) (L : List Blk) : St := ⟨(adv s v).fs, (adv s v).l, L⟩
/-- A call that turns several parts. -/
theorem cg {s : St} {f : FuncId} {args : Array Value} (L0 : List Blk) (Pre Rest : List Asrt) {X : Type} {v : X → Value} {Post : X → List Asrt} (L' : X → List Blk) (F' : X → List Asrt) (hp : ∀ W, Hold W L0 F → HoldR W (Pre ++ Rest)) (hp' : ∀ x W, HoldR W (Post x ++ Rest) → Hold W (L' x) (F' x)) (hc : ∀ W, HoldR W (Pre ++ Rest) → Calls P f args W fun e W' => ∃ x, e = .returned (v x) ∧ HoldR W' (Post x ++ [oldF W Pre])) (hn : ∀ x, Go P Q (F' x) (advL (nm s) (v x) (L' x))) (h : callAt P (nm s) = some (f, args) := by kernel_rfl) (hL : (nm s).L = L0 := by kernel_rfl) : Go P Q F s := by
  subst hL
  refine norm_sound 400 ?_
  unfold callAt at h
  split at h
  · rename_i o ho
    split at h
    · rename_i f' args' hs
      cases h
      obtain ⟨all, r, fs, hfs, hw, hadv⟩ := opAt_spec ho
      intro W hW
      have hW' : HoldR W (Pre ++ Rest) := hp W hW
      rw [hfs]
      refine wpList_step fun K hK => ?_
      rw [if_pos ((wantd_eq all _ o).trans hw)]
      unfold Oper.wp
      rw [evl_eq, semP_run _ _ W hs, Oper.upon_enter]
      refine (hc W hW').mono fun e W2 hR => ?_
      obtain ⟨x, rfl, hH⟩ := hR
      show K _ _
      rw [put_eq]
      refine hK _ _ ?_
      have h9 := hn x W2
      unfold advL at h9
      rw [hadv] at h9
      exact h9 (hp' x _ (parts_next hW' hH))
    · cases h
  · cases h
/-- The same within a drawn region. -/
theorem dcg {s : DS} (j : Nat) {f : FuncId} {args : Array Value} (L0 : List Blk) (Pre Rest : List Asrt) {X : Type} {v : X → Value} {Post : X → List Asrt} (L' : X → List Blk) (F' : X → List Asrt) (hp : ∀ W, Hold W L0 F → HoldR W (Pre ++ Rest)) (hp' : ∀ x W, HoldR W (Post x ++ Rest) → Hold W (L' x) (F' x)) (hc : ∀ W, HoldR W (Pre ++ Rest) → Calls P f args W fun e W' => ∃ x, e = .returned (v x) ∧ HoldR W' (Post x ++ [oldF W Pre])) (hn : ∀ x, DG P K (F' x) (deffS s j (v x) (L' x))) (h : dcallAt P s j = some (f, args) := by kernel_rfl) (hB : deffB P s j = true := by kernel_rfl) (hL : s.L = L0 := by kernel_rfl) : DG P K F s := by
  subst hL
  intro hw
  unfold dcallAt at h
  split at h
  · rename_i o ho
    split at h
    · rename_i hw1
      split at h
      · rename_i f' args' hs
        cases h
        unfold deffB at hB
        rw [ho] at hB
        simp only [Bool.and_eq_true] at hB
        obtain ⟨⟨⟨_, hal⟩, hB⟩, hpd⟩ := hB
        obtain ⟨o', ho', hjk, hcl, hda, hlk⟩ := dcB_spec hB
        rw [ho] at ho'
        cases ho'
        have hal' : s.al = [] := by simpa using hal
        refine ga_op hw ho hjk hcl hda fun ls a W A hp0 hr hdl hev hwt => ?_
        have hA : A = [] := by
          have := hp0.als
          rw [hal'] at this
          cases this
          rfl
        subst hA
        have hW' : HoldR W (Pre ++ Rest) := hp W hp0.hold
        refine wpOp_step ho fun K' hK => ?_
        rw [if_pos (hwt.trans hw1)]
        unfold Oper.wp
        rw [hev, semP_run _ _ W hs, Oper.upon_enter]
        refine (hc W hW').mono fun e W2 hR => ?_
        obtain ⟨x, rfl, hH⟩ := hR
        have h2 : Hold W2 (L' x) (F' x) := hp' x _ (parts_next hW' hH)
        have hG := hn x
        unfold deffS at hG
        rw [ho, Option.bind_some] at hG
        refine hK _ _ ((hG ?_) _ _ W2 [] (pre_next hw hp0 ho hjk hr (v x) (fun b hb hnb => ?_) h2))
        · refine dw_next hw ho hjk hlk (v x) (fun b hb => (List.mem_filter.1 hb).1) fun b hb ob u hob hC => ?_
          obtain ⟨hbp, hnw⟩ := List.mem_filter.1 hb
          have h3 := List.all_eq_true.1 hpd b hbp
          simp only [Bool.or_eq_true] at h3
          rcases h3 with h3 | h3
          · simp [h3] at hnw
          · unfold pureB at h3
            rw [hob] at h3
            simp only at h3
            split at h3
            · rename_i hwf
              rcases hC with ⟨h4, _⟩ | h4
              · rw [hwf] at h4; cases h4
              · exact .inr h4
            · rename_i hwt'
              split at h3
              · rename_i v2 hs2
                rcases hC with ⟨h4, h5⟩ | ⟨h4, _⟩
                · have h6 := h5 W hp0.hold
                  rw [semP_run _ _ W hs2] at h6
                  cases h6
                  exact .inl ⟨h4, fun W2 _ => semP_run _ _ W2 hs2⟩
                · rw [hwt'] at h4; cases h4
              · cases h3
        · have h3 : waitsT s.ops s.ops.size j b = true := by
            cases h4 : waitsT s.ops s.ops.size j b with
            | true => rfl
            | false => exact absurd (List.mem_filter.2 ⟨hb, by simp [h4]⟩) hnb
          exact waitsT_spec hp0.shut _ _ _ h3 fun o' ho' => by
            rw [ho] at ho'
            cases ho'
            exact hdl
      · cases h
    · cases h
  · cases h
end
/-! ### Slices that are only read -/
section
variable {P : Program} {Q : Exit → Act → World → Prop} {F : List Asrt}
theorem Rd.move {α : Type} {w W : World} {v : Value} {sz : Nat} {enc : α → List Value} {l : List α} (h : Rd w v sz enc l) (hs : w.heap.size ≤ W.heap.size) (hb : ∀ k, (l ≠ [] ∧ ∃ o n c, v = .slice (some ⟨k, o, none⟩) n c) → W.heap[k]? = w.heap[k]?) : Rd W v sz enc l := by
  obtain ⟨A, c, rfl, hc, h0 | ⟨B, o, rfl, hat⟩⟩ := h
  · exact ⟨A, c, rfl, hc, .inl h0⟩
  · by_cases hl : l = []
    · exact ⟨_, c, rfl, hc, .inl hl⟩
    · exact ⟨_, c, rfl, hc, .inr ⟨B, o, rfl, hat.move hs (hb B ⟨hl, o, _, c, rfl⟩)⟩⟩
def rdA {α : Type} (v : Value) (sz : Nat) (enc : α → List Value) (l : List α) : Asrt where
  holds W := Rd W v sz enc l
  fp k := l ≠ [] ∧ ∃ o n c, v = .slice (some ⟨k, o, none⟩) n c
  stable := fun W W' _ _ _ h4 h5 h => h.move h4 h5
  inb := fun W k h hk => by
    obtain ⟨A, c, rfl, hc, h0 | ⟨B, o, rfl, hat⟩⟩ := h
    · exact absurd h0 hk.1
    · obtain ⟨_, o', n', c', e⟩ := hk
      cases e
      exact hat.lt
/-- A row of one's own is only read from here on. -/
theorem fz {s : St} (i : Nat) {α : Type} {e sz n : Nat} {v : Value} {enc : α → List Value} {l : List α} (hs : ∀ x, (enc x).length = sz) (hF : F[i]? = some (rowA e sz v n (l.flatMap enc))) (hn : l.length = n) (h : Go P Q (F.set i (rdA v sz enc l)) s) : Go P Q F s := by
  intro W hW
  have hown : ownR W e sz v n (l.flatMap enc) := hW.f i hF
  refine h W (Hold.setF hW hF rfl rfl rfl (Nat.le_refl _) (fun _ _ _ => rfl) (own_rdn hs hn hown) fun k hk => .inl ?_)
  obtain ⟨hl, o, n', c', e1⟩ := hk
  obtain ⟨_, A, c, e2, hc, hcur⟩ := hown
  rw [e1] at e2
  cases e2
  have hp : 0 < l.length := List.length_pos_iff.2 hl
  rcases hcur with h0 | ⟨g, cur, e3, _⟩
  · omega
  · cases e3
    exact ⟨n, c', e1, by omega⟩
/-- A part of what is only read. -/
theorem rdc {s : St} (i : Nat) {α : Type} {A : Option Addr} {n c sz a b d : Nat} {enc : α → List Value} {l : List α} (hF : F[i]? = some (rdA (.slice A n c) sz enc l)) (h4 : a ≤ b) (h5 : b ≤ l.length) (h7 : b ≤ d) (l' : List α) (hl : (l.take b).drop a = l') (h : Go P Q (F.set i (rdA (.slice (cutp A a d sz) (b - a) (d - a)) sz enc l')) s) : Go P Q F s := by
  subst hl
  intro W hW
  have hr : Rd W (.slice A n c) sz enc l := hW.f i hF
  refine h W (Hold.setF hW hF rfl rfl rfl (Nat.le_refl _) (fun _ _ _ => rfl) (Rd.cut hr h4 h5 h7) fun k hk => .inl ?_)
  obtain ⟨hl, o, n', c', e1⟩ := hk
  refine ⟨fun e => hl (by rw [e]; simp), ?_⟩
  cases e1' : A with
  | none =>
    rw [e1'] at e1
    unfold cutp at e1
    split at e1 <;> simp at e1
  | some x =>
    rw [e1'] at e1
    unfold cutp at e1
    obtain ⟨bl, of, inn⟩ := x
    split at e1
    · simp only [Value.slice.injEq, Option.some.injEq, Addr.mk.injEq] at e1
      obtain ⟨⟨rfl, rfl, rfl⟩, _⟩ := e1
      exact ⟨_, _, _, rfl⟩
    · simp only [Option.map_some, Addr.add_at, Value.slice.injEq, Option.some.injEq] at e1
      obtain ⟨e2, _⟩ := e1
      cases inn with
      | none =>
        simp only [Addr.add_at, Addr.mk.injEq] at e2
        obtain ⟨rfl, _⟩ := e2
        exact ⟨_, _, _, rfl⟩
      | some q =>
        exfalso
        obtain ⟨A2, c2, e3, _, h0 | ⟨B, o2, e4, _⟩⟩ := hr
        · exact hl (by rw [h0]; simp)
        · rw [e1'] at e3
          cases e3
          cases e4
end
/-- A part of an element is stored. -/
theorem flat_part {α : Type} [Inhabited α] {enc : α → List Value} {sz : Nat} (hs : ∀ x, (enc x).length = sz) (l : List α) (i : Nat) (hi : i < l.length) (k : Nat) (vs : List Value) (x' : α) (hk : k + vs.length ≤ sz) (hx : (enc l[i]!).take k ++ vs ++ (enc l[i]!).drop (k + vs.length) = enc x') : (l.flatMap enc).take (i * sz + k) ++ vs ++ (l.flatMap enc).drop (i * sz + k + vs.length) = (l.set i x').flatMap enc := by
  have e1 : l.flatMap enc = (l.take i).flatMap enc ++ (enc l[i]! ++ (l.drop (i + 1)).flatMap enc) := by
    rw [getElem!_pos l i hi, ← List.flatMap_cons, ← List.drop_eq_getElem_cons hi, ← List.flatMap_append, List.take_append_drop]
  have h1 : ((l.take i).flatMap enc).length = i * sz := by rw [flat_len hs, List.length_take, Nat.min_eq_left (by omega)]
  have h2 : (enc l[i]!).length = sz := hs _
  have e2 : (l.set i x').flatMap enc = (l.take i).flatMap enc ++ (enc x' ++ (l.drop (i + 1)).flatMap enc) := by
    rw [List.set_eq_take_append_cons_drop, if_pos hi, List.flatMap_append, List.flatMap_cons]
  rw [e2, e1, ← hx]
  generalize (l.take i).flatMap enc = A at *
  generalize enc l[i]! = B at *
  generalize (l.drop (i + 1)).flatMap enc = C at *
  rw [← h1]
  have t1 : (A ++ (B ++ C)).take (A.length + k) = A ++ B.take k := by
    rw [List.take_append, List.take_of_length_le (by omega), Nat.add_sub_cancel_left, List.take_append_of_le_length (by omega)]
  have t2 : (A ++ (B ++ C)).drop (A.length + k + vs.length) = B.drop (k + vs.length) ++ C := by
    rw [List.drop_append, List.drop_eq_nil_of_le (by omega), List.nil_append, show A.length + k + vs.length - A.length = k + vs.length by omega, List.drop_append_of_le_length (by omega)]
  rw [t1, t2]
  simp [List.append_assoc]
/-! ### Told in the order of the text, where a store may come up ahead of loads or behind them -/
section
variable {P : Program} {Q : Exit → Act → World → Prop} {Kn : Act → World → Prop} {F : List Asrt} {La Lb : List Blk}
structure HG2 (P : Program) (Kn : Act → World → Prop) (F : List Asrt) (La Lb : List Blk) (q : HS) : Prop where
  out : (q.L = La ∨ q.L = Lb) → ∀ W, Hold W q.L F → wpAnyH P .any q.ops (onlyN Kn) (fun W => Hold W La F ∨ Hold W Lb F) q.n q.ls ⟨q.l.toArray, []⟩ W
theorem lxr2 {s : St} (La Lb : List Blk) (h : HG2 P (fun a w => KK P Q (drFs (nm s)) .normal a w) F La Lb ⟨drOps (nm s), Array.replicate (drOps (nm s)).size false, (drOps (nm s)).size, 0, (nm s).l, La⟩) (hB : lxB P (nm s) = true := by kernel_rfl) (hL : (nm s).L = La := by kernel_rfl) : Go P Q F s := by
  refine norm_sound 400 ?_
  show Go P Q F (nm s)
  revert h hB hL
  generalize nm s = s
  intro h hB hL
  subst hL
  unfold lxB at hB
  simp only [Bool.and_eq_true] at hB
  obtain ⟨h1, h2⟩ := hB
  split at h1
  · rename_i id ops fs hfs
    have e1 : drFs s = fs := by simp only [drFs, hfs]
    have e2 : drOps s = ops := by simp only [drOps, hfs]
    rw [e1, e2] at h
    intro W hW
    rw [hfs]
    show Code.wp P (.region id ops true) (KK P Q fs) _ W
    refine wp_mono (wp_region_held (S := fun W => Hold W s.L F ∨ Hold W Lb F) h2 (h.out (.inl rfl) _ (HoldR.drew hW))) fun e a w h => ?_
    obtain ⟨he, hk⟩ := h
    subst he
    exact hk
  · cases h1
theorem lxv2 {q : HS} {o : Oper} {v : Value} (ho : q.ops[q.i]? = some o) (hB : takeB q = true) (h : (wantd q.ops q.l o = true ∧ ∀ W, (Hold W La F ∨ Hold W Lb F) → (execOp (evl q.l) o).run P W = .ok (.value v) W) ∨ (wantd q.ops q.l o = false ∧ v = undef)) (hn : HG2 P Kn F La Lb ⟨q.ops, q.ls.setIfInBounds q.i true, q.n - 1, q.i + 1, setd q.l o.dst v, q.L⟩) : HG2 P Kn F La Lb q := by
  unfold takeB at hB
  simp only [Bool.and_eq_true] at hB
  obtain ⟨⟨⟨h1, h2⟩, h3⟩, h4⟩ := hB
  have h5 : q.n = (q.n - 1) + 1 := by
    have := Nat.le_of_ble_eq_true h4
    omega
  refine ⟨fun hs W hW => ?_⟩
  rw [h5]
  refine wpAnyH_take (v := v) ho h1 h2 h3 (fun c a w h => (by cases h.1)) ?_ ?_ ?_
  · rcases h with ⟨hw, hv⟩ | ⟨hw, rfl⟩
    · exact .inl ⟨(wantd_eq q.ops q.l o).trans hw, fun W hW => by rw [evl_eq]; exact hv W hW⟩
    · exact .inr ⟨(wantd_eq q.ops q.l o).trans hw, rfl⟩
  · rcases hs with e | e
    · exact .inl (e ▸ hW)
    · exact .inr (e ▸ hW)
  · rw [put_eq]
    exact hn.out hs W hW
theorem lxop_v2 {q : HS} {o : Oper} {v : Value} (h : lxop q = some o) (hv : ∀ W, (Hold W La F ∨ Hold W Lb F) → (execOp (evl q.l) o).run P W = .ok (.value v) W) (hn : HG2 P Kn F La Lb (lxnext q v)) : HG2 P Kn F La Lb q := by
  unfold lxop at h
  split at h
  · rename_i o' ho
    split at h
    · rename_i hw
      cases h
      unfold lxnext at hn
      rw [ho, Option.bind_some] at hn
      simp only [Bool.and_eq_true] at hw
      exact lxv2 ho hw.1 (.inl ⟨hw.2, hv⟩) hn
    · cases h
  · cases h
def skipB (q : HS) : Bool := takeB q && match q.ops[q.i]? with | some o => !wantd q.ops q.l o | none => false
/-- An operation that is not wanted. -/
theorem lxg2 {q : HS} (hn : HG2 P Kn F La Lb (lxnext q undef)) (h : skipB q = true := by kernel_rfl) : HG2 P Kn F La Lb q := by
  unfold skipB at h
  simp only [Bool.and_eq_true] at h
  obtain ⟨h1, h2⟩ := h
  split at h2
  · rename_i o ho
    unfold lxnext at hn
    rw [ho, Option.bind_some] at hn
    exact lxv2 ho h1 (.inr ⟨by simpa using h2, rfl⟩) hn
  · cases h2
def symAt (P : Program) (q : HS) (L : List Blk) (js : List Nat) : Option (Value × List (Nat × Nat)) := match lxop q with
  | some o => match symL P (execOp (evl q.l) o) js L with
    | some (.value v, _, E) => some (v, E)
    | _ => none
  | none => none
theorem symAt_spec {q : HS} {L : List Blk} {js : List Nat} {v : Value} {E : List (Nat × Nat)} (h : symAt P q L js = some (v, dup E)) : ∃ o, lxop q = some o ∧ ∀ W, Hold W L F → (execOp (evl q.l) o).run P W = .ok (.value v) W := by
  unfold symAt at h
  split at h
  · rename_i o ho
    split at h
    · rename_i v' js' E' hs
      cases h
      exact ⟨o, ho, fun W hW => symL_run _ js L W _ js' _ hs (dup_same E) hW⟩
    · cases h
  · cases h
theorem lxm2 {q : HS} (v u : Value) (hu : v = u) (js E : List (Nat × Nat)) (hn : HG2 P Kn F La Lb (lxnext q u)) (ha : symAt P q La (rl js) = some (v, dup E) := by kernel_rfl) (hb : symAt P q Lb (rl js) = some (v, dup E) := by kernel_rfl) : HG2 P Kn F La Lb q := by
  subst hu
  obtain ⟨o, ho, h1⟩ := symAt_spec (F := F) ha
  obtain ⟨o', ho', h2⟩ := symAt_spec (F := F) hb
  rw [ho] at ho'
  cases ho'
  exact lxop_v2 ho (fun W hW => hW.elim (h1 W) (h2 W)) hn
theorem lxl2 {q : HS} {B off n : Nat} {row : Bool} (vs : List Value) (hv : ∀ W, HoldR W F → ∀ (j : Nat) (u : Value), vs[j]? = some u → W.cell? ⟨B, off + j, none⟩ = some u) (hn : HG2 P Kn F La Lb (lxnext q (ldV row vs))) (h : lxldAt P q = some (B, off, n, row) := by kernel_rfl) (hl : vs.length = n := by kernel_rfl) (h1 : (row || Nat.beq n 1) = true := by kernel_rfl) : HG2 P Kn F La Lb q := by
  unfold lxldAt at h
  split at h
  · rename_i o ho
    split at h
    · rename_i t x hop
      split at h
      · rename_i B' off' d i hx hu hi
        cases h
        refine lxop_v2 ho (fun W hW => ld_run hop hx hu hi hl (fun hd => ?_) (hv W (hW.elim Hold.ff Hold.ff))) hn
        rw [hd] at h1
        rw [hl]
        exact Nat.eq_of_beq_eq_true (by simpa using h1)
      · cases h
    · cases h
  · cases h
theorem lxi2 {q : HS} {A : Option Addr} {B b n sz : Nat} {j : Int} (hA : A = some ⟨B, b, none⟩) (i : Nat) (hi : i < n) (hn : HG2 P Kn F La Lb (lxnext q (.pointer (some ⟨B, b + i * sz, none⟩)))) (h : ((lxop q).bind fun o => ixX P q.l o) = some (A, n, j, sz) := by kernel_rfl) (hj : j = (i : Int) := by rfl) : HG2 P Kn F La Lb q := by
  obtain ⟨o, ho, hx⟩ := Option.bind_eq_some_iff.1 h
  exact lxop_v2 ho (fun W _ => ixX_run hx hA hj hi W) hn
theorem lxe2 {q : HS} {pos : Bool} {t : TypeId} {a b : Value} {r : Bool} (v : Bool) (hr : ∀ W, (Op.equal t a b).run P W = .ok r W) (hv : (r == pos) = v) (hn : HG2 P Kn F La Lb (lxnext q (.bool v))) (h : ((lxop q).bind fun o => eqX P q.l o) = some (pos, t, a, b) := by kernel_rfl) : HG2 P Kn F La Lb q := by
  subst hv
  obtain ⟨o, ho, hx⟩ := Option.bind_eq_some_iff.1 h
  exact lxop_v2 ho (fun W _ => eqX_run hx (hr W)) hn
def lxsAt (P : Program) (q : HS) (js : List Nat) : Option (List Blk × List (Nat × Nat)) := match q.ops[q.i]? with
  | some o => match wantd q.ops q.l o && Nat.blt 0 q.n && (match Region.ready .any q.ops q.ls with | [k] => Nat.beq k q.i | _ => false) with
    | true => match sym P 0 (execOp (evl q.l) o) false js q.L with
      | some (.skip, L', _, E) => some (L', E)
      | _ => none
    | false => none
  | none => none
/-- The store, when nothing else may come up. -/
theorem lxs2 {q : HS} (js E : List (Nat × Nat)) (hn : HG2 P Kn F La Lb ⟨q.ops, q.ls.setIfInBounds q.i true, q.n - 1, q.i + 1, setd q.l ((q.ops[q.i]?).bind (·.dst)) undef, Lb⟩) (h : lxsAt P q (rl js) = some (Lb, dup E) := by kernel_rfl) : HG2 P Kn F La Lb q := by
  unfold lxsAt at h
  split at h
  · rename_i o ho
    split at h
    · rename_i hw
      split at h
      · rename_i L' js' E' hs
        cases h
        simp only [Bool.and_eq_true] at hw
        obtain ⟨⟨hw, hn0⟩, hr⟩ := hw
        have hrd : Region.ready .any q.ops q.ls = [q.i] := by
          split at hr
          · rename_i k hk
            rw [hk, Nat.eq_of_beq_eq_true hr]
          · cases hr
        have h5 : q.n = (q.n - 1) + 1 := by
          have := Nat.le_of_ble_eq_true hn0
          omega
        refine ⟨fun _ W hW => ?_⟩
        rw [h5]
        refine wpAnyH_all hrd (by simp) fun j hj => ?_
        rw [List.mem_singleton] at hj
        subst hj
        unfold wpOp
        rw [ho]
        simp only
        rw [if_pos ((wantd_eq q.ops q.l o).trans hw)]
        refine .inl ?_
        unfold Oper.wp
        obtain ⟨W', h1, h2⟩ := sym_run (F := F) 0 _ false (rl js) q.L W _ _ _ _ hs (dup_same E) (fun e => by cases e) hW
        rw [evl_eq, h1, Oper.upon_skip]
        rw [ho, Option.bind_some] at hn
        refine ⟨.inr h2, ?_⟩
        rw [put_eq]
        exact hn.out (.inr rfl) W' h2
      · cases h
    · cases h
  · cases h
theorem lxd2 {q : HS} {fs : List Fr} (h : Go P Q F ⟨fs, q.l, q.L⟩) (hB : (Region.ready .any q.ops q.ls).isEmpty = true := by kernel_rfl) : HG2 P (fun a w => KK P Q fs .normal a w) F La Lb q := by
  refine ⟨fun hs W hW => wpAnyH_done (by simpa using hB) ⟨rfl, ?_⟩ _⟩
  exact h W hW
end
end Go.Proofs.YtbijkflfphppgaaM.Mach
