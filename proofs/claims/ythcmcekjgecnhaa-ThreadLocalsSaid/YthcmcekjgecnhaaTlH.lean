/- The layer is alive. No condition beside those that each theorem names. -/
import Derived.Test.YthcmcekjgecnhaaTlG
namespace Go.Proofs.Ythcmcekjgecnhaa.Th
open Go.RowKit Go.Proofs.YthcmcekjgecnhaaW.PrintWords Go.Proofs.YthcmcekjgecnhaaW.PrintLast
open Go.Proofs.YthcmcekjgecnhaaW.HWords Go.Proofs.Ythcmcekjgecnhaa.QThreadLocals
set_option linter.unusedVariables false
set_option linter.unusedSimpArgs false
def ta_l0 : List Value := [.bool false, zz, zz, zz, zz, zz, zz, zz, zz, zz, zz, zz, zz, zz, zz, zz]
def ta_l1 : List Value := [zz, zz, zz, zz, zz, zz, zz, zz, zz, zz, zz, zz, zz, zz, zz, zz]
def ta_l2 : List Value := [zz, zz, zz, zz, zz, zz, zz, zz, zz, zz, zz, zz]
def ta_b3 : List Value := ta_l0 ++ (ta_l1 ++ (ta_l2))
def ta_c0 : Array Value := #[.int .i64 0, .int .i64 (clampF 3), .int .i64 0, .int .i64 ((fun _ => (0 : Int)) 0), .int .i64 ((fun _ => (0 : Int)) 1), .int .i64 ((fun _ => (0 : Int)) 2), .int .i64 ((fun _ => (0 : Int)) 3), .int .i64 ((fun _ => (0 : Int)) 4), .int .i64 ((fun _ => (0 : Int)) 5), .int .i64 ((fun _ => (0 : Int)) 6), .int .i64 ((fun _ => (0 : Int)) 7), .int .i64 ((fun _ => (0 : Int)) 8), .int .i64 ((fun _ => (0 : Int)) 9), .int .i64 ((fun _ => (0 : Int)) 10), .int .i64 ((fun _ => (0 : Int)) 11), .int .i64 0, .int .i64 0, .int .i64 0, .slice none 0 0, .slice none 0 0, .slice none 0 0, .int .i64 0]
def ta_c1 : Array Value := #[.int .i64 0, .int .i64 0, .int .i64 0, .int .i64 0, .int .i64 0, .int .i64 0, .int .i64 0, .int .i64 0, .int .i64 0, .int .i64 0, .int .i64 0, .int .i64 0, .int .i64 0, .int .i64 0, .int .i64 0, .int .i64 0, .int .i64 0, .int .i64 0, .slice none 0 0, .slice none 0 0, .slice none 0 0, .int .i64 0]
def ta_c2 (r5 : Rw) : Array Value := #[.int .i64 (IntKind.wrap .i64 (0 + 1)), .int .i64 (IntKind.wrap .i64 ((clampF 3) - 1)), .int .i64 0, .int .i64 ((fun _ => (0 : Int)) 0), .int .i64 ((fun _ => (0 : Int)) 1), .int .i64 ((fun _ => (0 : Int)) 2), .int .i64 ((fun _ => (0 : Int)) 3), .int .i64 ((fun _ => (0 : Int)) 4), .int .i64 ((fun _ => (0 : Int)) 5), .int .i64 ((fun _ => (0 : Int)) 6), .int .i64 ((fun _ => (0 : Int)) 7), .int .i64 ((fun _ => (0 : Int)) 8), .int .i64 ((fun _ => (0 : Int)) 9), .int .i64 ((fun _ => (0 : Int)) 10), .int .i64 ((fun _ => (0 : Int)) 11), .int .i64 0, .int .i64 0, .int .i64 0, r5.s, r5.b, r5.n, .int .i64 0]
def ta_l7 (g2 : Nat) (r5 : Rw) : List Value := [.bool false, .pointer (some ⟨g2, 0, none⟩), zz, zz, .agg #[.int .i64 0, .int .i64 0, .int .i64 0, .int .i64 3, .int .i64 0], .agg ta_c0, zz, .agg ta_c0, .agg (ta_c2 r5), .agg #[.int .i64 2, .int .i64 0, .int .i64 0, .int .i64 0, .int .i64 5], zz, zz, zz, zz, zz, zz]
def ta_b8 (g2 : Nat) (r5 : Rw) : List Value := (ta_l7 g2 r5) ++ (ta_l1 ++ (ta_l2))
def ta_c3 (r6 : Rw) : Array Value := #[.int .i64 (IntKind.wrap .i64 (0 + 1)), .int .i64 (IntKind.wrap .i64 ((clampF 3) - 1)), .int .i64 0, .int .i64 ((setR (fun _ => (0 : Int)) 0 5 0 0) 0), .int .i64 ((setR (fun _ => (0 : Int)) 0 5 0 0) 1), .int .i64 ((setR (fun _ => (0 : Int)) 0 5 0 0) 2), .int .i64 ((setR (fun _ => (0 : Int)) 0 5 0 0) 3), .int .i64 ((setR (fun _ => (0 : Int)) 0 5 0 0) 4), .int .i64 ((setR (fun _ => (0 : Int)) 0 5 0 0) 5), .int .i64 ((setR (fun _ => (0 : Int)) 0 5 0 0) 6), .int .i64 ((setR (fun _ => (0 : Int)) 0 5 0 0) 7), .int .i64 ((setR (fun _ => (0 : Int)) 0 5 0 0) 8), .int .i64 ((setR (fun _ => (0 : Int)) 0 5 0 0) 9), .int .i64 ((setR (fun _ => (0 : Int)) 0 5 0 0) 10), .int .i64 ((setR (fun _ => (0 : Int)) 0 5 0 0) 11), .int .i64 0, .int .i64 0, .int .i64 0, r6.s, r6.b, r6.n, .int .i64 0]
def ta_l10 (g2 : Nat) (r5 : Rw) (r6 : Rw) : List Value := [.bool false, .pointer (some ⟨g2, 0, none⟩), .bool true, zz, .agg #[.int .i64 0, .int .i64 0, .int .i64 0, .int .i64 3, .int .i64 0], .agg ta_c0, .tuple #[.agg (ta_c3 r6), .bool true], .agg ta_c0, .agg (ta_c2 r5), .agg #[.int .i64 2, .int .i64 0, .int .i64 0, .int .i64 0, .int .i64 5], .tuple #[.agg (ta_c3 r6), .bool true], .agg (ta_c3 r6), .bool true, zz, .agg (ta_c3 r6), zz]
def ta_b11 (g2 : Nat) (r5 : Rw) (r6 : Rw) : List Value := (ta_l10 g2 r5 r6) ++ (ta_l1 ++ (ta_l2))
def ta_c4 (r8 : Rw) : Array Value := #[.int .i64 (IntKind.wrap .i64 ((IntKind.wrap .i64 (0 + 1)) + 1)), .int .i64 (IntKind.wrap .i64 ((IntKind.wrap .i64 ((clampF 3) - 1)) - 1)), .int .i64 0, .int .i64 ((setR (fun _ => (0 : Int)) 0 5 0 0) 0), .int .i64 ((setR (fun _ => (0 : Int)) 0 5 0 0) 1), .int .i64 ((setR (fun _ => (0 : Int)) 0 5 0 0) 2), .int .i64 ((setR (fun _ => (0 : Int)) 0 5 0 0) 3), .int .i64 ((setR (fun _ => (0 : Int)) 0 5 0 0) 4), .int .i64 ((setR (fun _ => (0 : Int)) 0 5 0 0) 5), .int .i64 ((setR (fun _ => (0 : Int)) 0 5 0 0) 6), .int .i64 ((setR (fun _ => (0 : Int)) 0 5 0 0) 7), .int .i64 ((setR (fun _ => (0 : Int)) 0 5 0 0) 8), .int .i64 ((setR (fun _ => (0 : Int)) 0 5 0 0) 9), .int .i64 ((setR (fun _ => (0 : Int)) 0 5 0 0) 10), .int .i64 ((setR (fun _ => (0 : Int)) 0 5 0 0) 11), .int .i64 0, .int .i64 0, .int .i64 0, r8.s, r8.b, r8.n, .int .i64 0]
def ta_c5 (r9 : Rw) : Array Value := #[.int .i64 (IntKind.wrap .i64 ((IntKind.wrap .i64 (0 + 1)) + 1)), .int .i64 (IntKind.wrap .i64 ((IntKind.wrap .i64 ((clampF 3) - 1)) - 1)), .int .i64 0, .int .i64 ((setR (setR (fun _ => (0 : Int)) 0 5 0 0) 1 (getR (setR (fun _ => (0 : Int)) 0 5 0 0) 0 0) (getR (setR (fun _ => (0 : Int)) 0 5 0 0) 0 1) (getR (setR (fun _ => (0 : Int)) 0 5 0 0) 0 2)) 0), .int .i64 ((setR (setR (fun _ => (0 : Int)) 0 5 0 0) 1 (getR (setR (fun _ => (0 : Int)) 0 5 0 0) 0 0) (getR (setR (fun _ => (0 : Int)) 0 5 0 0) 0 1) (getR (setR (fun _ => (0 : Int)) 0 5 0 0) 0 2)) 1), .int .i64 ((setR (setR (fun _ => (0 : Int)) 0 5 0 0) 1 (getR (setR (fun _ => (0 : Int)) 0 5 0 0) 0 0) (getR (setR (fun _ => (0 : Int)) 0 5 0 0) 0 1) (getR (setR (fun _ => (0 : Int)) 0 5 0 0) 0 2)) 2), .int .i64 ((setR (setR (fun _ => (0 : Int)) 0 5 0 0) 1 (getR (setR (fun _ => (0 : Int)) 0 5 0 0) 0 0) (getR (setR (fun _ => (0 : Int)) 0 5 0 0) 0 1) (getR (setR (fun _ => (0 : Int)) 0 5 0 0) 0 2)) 3), .int .i64 ((setR (setR (fun _ => (0 : Int)) 0 5 0 0) 1 (getR (setR (fun _ => (0 : Int)) 0 5 0 0) 0 0) (getR (setR (fun _ => (0 : Int)) 0 5 0 0) 0 1) (getR (setR (fun _ => (0 : Int)) 0 5 0 0) 0 2)) 4), .int .i64 ((setR (setR (fun _ => (0 : Int)) 0 5 0 0) 1 (getR (setR (fun _ => (0 : Int)) 0 5 0 0) 0 0) (getR (setR (fun _ => (0 : Int)) 0 5 0 0) 0 1) (getR (setR (fun _ => (0 : Int)) 0 5 0 0) 0 2)) 5), .int .i64 ((setR (setR (fun _ => (0 : Int)) 0 5 0 0) 1 (getR (setR (fun _ => (0 : Int)) 0 5 0 0) 0 0) (getR (setR (fun _ => (0 : Int)) 0 5 0 0) 0 1) (getR (setR (fun _ => (0 : Int)) 0 5 0 0) 0 2)) 6), .int .i64 ((setR (setR (fun _ => (0 : Int)) 0 5 0 0) 1 (getR (setR (fun _ => (0 : Int)) 0 5 0 0) 0 0) (getR (setR (fun _ => (0 : Int)) 0 5 0 0) 0 1) (getR (setR (fun _ => (0 : Int)) 0 5 0 0) 0 2)) 7), .int .i64 ((setR (setR (fun _ => (0 : Int)) 0 5 0 0) 1 (getR (setR (fun _ => (0 : Int)) 0 5 0 0) 0 0) (getR (setR (fun _ => (0 : Int)) 0 5 0 0) 0 1) (getR (setR (fun _ => (0 : Int)) 0 5 0 0) 0 2)) 8), .int .i64 ((setR (setR (fun _ => (0 : Int)) 0 5 0 0) 1 (getR (setR (fun _ => (0 : Int)) 0 5 0 0) 0 0) (getR (setR (fun _ => (0 : Int)) 0 5 0 0) 0 1) (getR (setR (fun _ => (0 : Int)) 0 5 0 0) 0 2)) 9), .int .i64 ((setR (setR (fun _ => (0 : Int)) 0 5 0 0) 1 (getR (setR (fun _ => (0 : Int)) 0 5 0 0) 0 0) (getR (setR (fun _ => (0 : Int)) 0 5 0 0) 0 1) (getR (setR (fun _ => (0 : Int)) 0 5 0 0) 0 2)) 10), .int .i64 ((setR (setR (fun _ => (0 : Int)) 0 5 0 0) 1 (getR (setR (fun _ => (0 : Int)) 0 5 0 0) 0 0) (getR (setR (fun _ => (0 : Int)) 0 5 0 0) 0 1) (getR (setR (fun _ => (0 : Int)) 0 5 0 0) 0 2)) 11), .int .i64 0, .int .i64 0, .int .i64 0, r9.s, r9.b, r9.n, .int .i64 0]
def ta_l14 (g2 : Nat) (r5 : Rw) (r6 : Rw) (r8 : Rw) (r9 : Rw) : List Value := [.bool false, .pointer (some ⟨g2, 0, none⟩), .bool true, zz, .agg #[.int .i64 0, .int .i64 0, .int .i64 0, .int .i64 3, .int .i64 0], .agg ta_c0, .tuple #[.agg (ta_c3 r6), .bool true], .agg ta_c0, .agg (ta_c2 r5), .agg #[.int .i64 2, .int .i64 0, .int .i64 0, .int .i64 0, .int .i64 5], .tuple #[.agg (ta_c3 r6), .bool true], .agg (ta_c3 r6), .bool true, .tuple #[.agg (ta_c5 r9), .bool true], .agg (ta_c3 r6), .agg (ta_c4 r8)]
def ta_l15 (r9 : Rw) : List Value := [.agg #[.int .i64 3, .int .i64 1, .int .i64 0, .int .i64 0, .int .i64 0], .tuple #[.agg (ta_c5 r9), .bool true], .agg (ta_c5 r9), .bool true, zz, zz, zz, zz, zz, zz, zz, zz, zz, zz, zz, zz]
def ta_b16 (g2 : Nat) (r5 : Rw) (r6 : Rw) (r8 : Rw) (r9 : Rw) : List Value := (ta_l14 g2 r5 r6 r8 r9) ++ ((ta_l15 r9) ++ (ta_l2))
def ta_l17 (g2 : Nat) (r5 : Rw) (r6 : Rw) (r8 : Rw) (r9 : Rw) : List Value := [.bool false, .pointer (some ⟨g2, 0, none⟩), .bool true, .bool true, .agg #[.int .i64 0, .int .i64 0, .int .i64 0, .int .i64 3, .int .i64 0], .agg ta_c0, .tuple #[.agg (ta_c3 r6), .bool true], .agg ta_c0, .agg (ta_c2 r5), .agg #[.int .i64 2, .int .i64 0, .int .i64 0, .int .i64 0, .int .i64 5], .tuple #[.agg (ta_c3 r6), .bool true], .agg (ta_c3 r6), .bool true, .tuple #[.agg (ta_c5 r9), .bool true], .agg (ta_c3 r6), .agg (ta_c4 r8)]
def ta_l18 (r9 : Rw) : List Value := [.agg #[.int .i64 3, .int .i64 1, .int .i64 0, .int .i64 0, .int .i64 0], .tuple #[.agg (ta_c5 r9), .bool true], .agg (ta_c5 r9), .bool true, .bool true, .bool true, .bool true, .bool true, .bool true, zz, zz, zz, zz, zz, zz, zz]
def ta_b19 (g2 : Nat) (r5 : Rw) (r6 : Rw) (r8 : Rw) (r9 : Rw) : List Value := (ta_l17 g2 r5 r6 r8 r9) ++ ((ta_l18 r9) ++ (ta_l2))
def ta_l20 (r9 : Rw) : List Value := [.agg #[.int .i64 3, .int .i64 1, .int .i64 0, .int .i64 0, .int .i64 0], .tuple #[.agg (ta_c5 r9), .bool true], .agg (ta_c5 r9), .bool true, .bool true, .bool true, .bool true, .bool true, .bool true, .agg (ta_c5 r9), .agg #[.int .i64 (getR (setR (setR (fun _ => (0 : Int)) 0 5 0 0) 1 (getR (setR (fun _ => (0 : Int)) 0 5 0 0) 0 0) (getR (setR (fun _ => (0 : Int)) 0 5 0 0) 0 1) (getR (setR (fun _ => (0 : Int)) 0 5 0 0) 0 2)) 1 0), .int .i64 (getR (setR (setR (fun _ => (0 : Int)) 0 5 0 0) 1 (getR (setR (fun _ => (0 : Int)) 0 5 0 0) 0 0) (getR (setR (fun _ => (0 : Int)) 0 5 0 0) 0 1) (getR (setR (fun _ => (0 : Int)) 0 5 0 0) 0 2)) 1 1), .int .i64 (getR (setR (setR (fun _ => (0 : Int)) 0 5 0 0) 1 (getR (setR (fun _ => (0 : Int)) 0 5 0 0) 0 0) (getR (setR (fun _ => (0 : Int)) 0 5 0 0) 0 1) (getR (setR (fun _ => (0 : Int)) 0 5 0 0) 0 2)) 1 2)], .int .i64 (getR (setR (setR (fun _ => (0 : Int)) 0 5 0 0) 1 (getR (setR (fun _ => (0 : Int)) 0 5 0 0) 0 0) (getR (setR (fun _ => (0 : Int)) 0 5 0 0) 0 1) (getR (setR (fun _ => (0 : Int)) 0 5 0 0) 0 2)) 1 0), .bool true, .bool true, .bool true, zz]
def ta_b21 (g2 : Nat) (r5 : Rw) (r6 : Rw) (r8 : Rw) (r9 : Rw) : List Value := (ta_l17 g2 r5 r6 r8 r9) ++ ((ta_l20 r9) ++ (ta_l2))
def ta_l22 (g2 : Nat) (r9 : Rw) : List Value := [.agg #[.int .i64 3, .int .i64 1, .int .i64 0, .int .i64 0, .int .i64 0], .tuple #[.agg (ta_c5 r9), .bool true], .agg (ta_c5 r9), .bool true, .bool true, .bool true, .bool true, .bool true, .bool true, .agg (ta_c5 r9), .agg #[.int .i64 (getR (setR (setR (fun _ => (0 : Int)) 0 5 0 0) 1 (getR (setR (fun _ => (0 : Int)) 0 5 0 0) 0 0) (getR (setR (fun _ => (0 : Int)) 0 5 0 0) 0 1) (getR (setR (fun _ => (0 : Int)) 0 5 0 0) 0 2)) 1 0), .int .i64 (getR (setR (setR (fun _ => (0 : Int)) 0 5 0 0) 1 (getR (setR (fun _ => (0 : Int)) 0 5 0 0) 0 0) (getR (setR (fun _ => (0 : Int)) 0 5 0 0) 0 1) (getR (setR (fun _ => (0 : Int)) 0 5 0 0) 0 2)) 1 1), .int .i64 (getR (setR (setR (fun _ => (0 : Int)) 0 5 0 0) 1 (getR (setR (fun _ => (0 : Int)) 0 5 0 0) 0 0) (getR (setR (fun _ => (0 : Int)) 0 5 0 0) 0 1) (getR (setR (fun _ => (0 : Int)) 0 5 0 0) 0 2)) 1 2)], .int .i64 (getR (setR (setR (fun _ => (0 : Int)) 0 5 0 0) 1 (getR (setR (fun _ => (0 : Int)) 0 5 0 0) 0 0) (getR (setR (fun _ => (0 : Int)) 0 5 0 0) 0 1) (getR (setR (fun _ => (0 : Int)) 0 5 0 0) 0 2)) 1 0), .bool true, .bool true, .bool true, .pointer (some ⟨g2, 1, none⟩)]
def ta_l23 (g2 : Nat) : List Value := [.int .i64 (IntKind.wrap .i64 ((IntKind.wrap .i64 ((clampF 3) - 1)) - 1)), .bool true, .bool true, .bool true, .pointer (some ⟨g2, 0, none⟩), zz, zz, zz, zz, zz, zz, zz]
def ta_b24 (g2 : Nat) (r5 : Rw) (r6 : Rw) (r8 : Rw) (r9 : Rw) : List Value := (ta_l17 g2 r5 r6 r8 r9) ++ ((ta_l22 g2 r9) ++ ((ta_l23 g2)))
def ta_l25 (g2 : Nat) (r9 : Rw) : List Value := [.int .i64 (IntKind.wrap .i64 ((IntKind.wrap .i64 ((clampF 3) - 1)) - 1)), .bool true, .bool true, .bool true, .pointer (some ⟨g2, 0, none⟩), .int .i64 (IntKind.wrap .i64 ((IntKind.wrap .i64 (0 + 1)) + 1)), .bool true, .bool true, .bool true, .agg (ta_c5 r9), .bool true, zz]
def ta_b26 (g2 : Nat) (r5 : Rw) (r6 : Rw) (r8 : Rw) (r9 : Rw) : List Value := (ta_l17 g2 r5 r6 r8 r9) ++ ((ta_l22 g2 r9) ++ ((ta_l25 g2 r9)))
set_option maxHeartbeats 8000000 in
set_option maxRecDepth 100000 in
theorem th_alive (w : World) : Calls Try.prog 9 #[] w fun e w' => e = .returned (.bool true) ∧ Below w.heap.size w w' := by
  refine calls_of_wp Try.func9 rfl ?_
  have hW := Ws.nil w
  refine wp_seq ?_
  refine wp_region_list ?_
  refine sk (a' := (up ta_b3 [])) (.bool false) ?_
  refine wpList_nil ?_
  refine wp_seq ?_
  refine wp_region_list ?_
  refine sk (a' := (up ta_b3 [(4, .agg #[.int .i64 0, .int .i64 0, .int .i64 0, .int .i64 3, .int .i64 0])])) (.agg #[.int .i64 0, .int .i64 0, .int .i64 0, .int .i64 3, .int .i64 0]) ?_
  refine st_call (th_Begin 0 0 0 3 0 w) (by kernel_rfl) (by kernel_rfl) ?_
  rintro _ W1 ⟨rfl, hB⟩
  have hW := hW.step hB
  refine ⟨_, (up ta_b3 [(4, .agg #[.int .i64 0, .int .i64 0, .int .i64 0, .int .i64 3, .int .i64 0]), (5, .agg ta_c0)]), rfl, by kernel_rfl, ?_⟩
  obtain ⟨g2, W3, hr, hW, hbb, hge⟩ := hW.mk1 (P := Try.prog) (s := Instr.alloc 32 true (.tuple #[])) ta_c1 32 (by kernel_rfl)
  refine se (a' := (up ta_b3 [(1, .pointer (some ⟨g2, 0, none⟩)), (4, .agg #[.int .i64 0, .int .i64 0, .int .i64 0, .int .i64 3, .int .i64 0]), (5, .agg ta_c0)])) (.pointer (some ⟨g2, 0, none⟩)) (Eq.trans (b := (do pure (Next.value (← Instr.alloc 32 true (.tuple #[]))) : Sem Next).run Try.prog W1) (by kernel_rfl) (st_val hr)) ?_
  obtain ⟨W4, hr, hW, hF⟩ := hW.storeN (P := Try.prog) (o := 0) (cs' := ta_c0) (L' := [(g2, 32, ta_c0)]) 0 rfl ta_c0 (by kernel_rfl) (Nat.le_of_ble_eq_true rfl) (by kernel_rfl) rfl 32 (by kernel_rfl)
  refine st_none (w' := W4) (a' := (up ta_b3 [(1, .pointer (some ⟨g2, 0, none⟩)), (4, .agg #[.int .i64 0, .int .i64 0, .int .i64 0, .int .i64 3, .int .i64 0]), (5, .agg ta_c0)])) (by kernel_rfl) (Eq.trans (b := (do Instr.storeAt 32 (.pointer (some ⟨g2, 0, none⟩)) (.agg ta_c0); pure Next.skip : Sem Next).run Try.prog W3) (by kernel_rfl) (st_unit hr)) (by kernel_rfl) ?_
  refine wpList_nil ?_
  refine wp_seq ?_
  refine wp_region_list ?_
  refine se (a' := (up ta_b3 [(1, .pointer (some ⟨g2, 0, none⟩)), (4, .agg #[.int .i64 0, .int .i64 0, .int .i64 0, .int .i64 3, .int .i64 0]), (5, .agg ta_c0), (7, .agg ta_c0)])) (.agg ta_c0) (evA hW 0 0 Try.underlying32) ?_
  have hK5_g2 : g2 < W4.heap.size := blk_lt (hW.blk 0 _ _ _ rfl).1
  have hK5_le : w.heap.size ≤ W4.heap.size := hW.below.size
  refine st_call (th_Start (t := (⟨0, (clampF 3), 0, (fun _ => (0 : Int)), 0, 0, 0, (.slice none 0 0), (.slice none 0 0), (.slice none 0 0), 0⟩ : Th)) (xs := ([] : List Int)) (bs := ([] : List S42)) (ns := ([] : List Int)) ⟨Sl.nil _ _, Sl.nil _ _, Sl.nil _ _⟩ (by simp)) (by kernel_rfl) (by kernel_rfl) ?_
  rintro _ W5 ⟨As5, cs5, Ab5, cb5, An5, cn5, rfl, hO5, hB⟩
  have hW := hW.step hB
  have hK5 := KeepUp.refl W4.heap.size W5
  obtain ⟨r5, e5⟩ : ∃ r : Rw, r = ⟨.slice As5 (([] : List Int).length) cs5, .slice Ab5 (([] : List S42).length) cb5, .slice An5 (([] : List Int).length) cn5⟩ := ⟨_, rfl⟩
  refine ⟨_, (up ta_b3 [(1, .pointer (some ⟨g2, 0, none⟩)), (4, .agg #[.int .i64 0, .int .i64 0, .int .i64 0, .int .i64 3, .int .i64 0]), (5, .agg ta_c0), (7, .agg ta_c0), (8, .agg (ta_c2 r5))]), rfl, by (try subst e5); kernel_rfl, ?_⟩
  refine sk (a' := (up (ta_b8 g2 r5) [])) (.agg #[.int .i64 2, .int .i64 0, .int .i64 0, .int .i64 0, .int .i64 5]) ?_
  have hK6_g2 : g2 < W5.heap.size := blk_lt (hW.blk 0 _ _ _ rfl).1
  have hK6_le : w.heap.size ≤ W5.heap.size := hW.below.size
  refine st_call (th_Local (t := (⟨(IntKind.wrap .i64 (0 + 1)), (IntKind.wrap .i64 ((clampF 3) - 1)), 0, (fun _ => (0 : Int)), 0, 0, 0, r5.s, r5.b, r5.n, 0⟩ : Th)) (xs := ([] : List Int)) (bs := ([] : List S42)) (ns := ([] : List Int)) (by subst e5; exact ⟨(hO5.keep hK5).reads.s, (hO5.keep hK5).reads.b, (hO5.keep hK5).reads.n⟩) (by simp) 2 0 0 0 5) (by kernel_rfl) (by kernel_rfl) ?_
  rintro _ W6 ⟨As6, cs6, Ab6, cb6, An6, cn6, rfl, hO6, hB⟩
  have hW := hW.step hB
  have hK5 := hK5.below hB
  have hK6 := KeepUp.refl W5.heap.size W6
  obtain ⟨r6, e6⟩ : ∃ r : Rw, r = ⟨.slice As6 (([] : List Int).length) cs6, .slice Ab6 (([] : List S42).length) cb6, .slice An6 (([] : List Int).length) cn6⟩ := ⟨_, rfl⟩
  refine ⟨_, (up (ta_b8 g2 r5) [(10, .tuple #[.agg (ta_c3 r6), .bool true])]), rfl, by (try subst e5); (try subst e6); kernel_rfl, ?_⟩
  refine skp (.tuple #[.agg (ta_c3 r6), .bool true]) ?_
  refine skp (.agg (ta_c3 r6)) ?_
  refine sk (a' := (up (ta_b8 g2 r5) [(6, .tuple #[.agg (ta_c3 r6), .bool true]), (10, .tuple #[.agg (ta_c3 r6), .bool true]), (11, .agg (ta_c3 r6)), (12, .bool true)])) (.bool true) ?_
  obtain ⟨W7, hr, hW, hF⟩ := hW.storeN (P := Try.prog) (o := 0) (cs' := (ta_c3 r6)) (L' := [(g2, 32, (ta_c3 r6))]) 0 rfl (ta_c3 r6) (by (try subst e5); (try subst e6); kernel_rfl) (Nat.le_of_ble_eq_true rfl) (by kernel_rfl) rfl 32 (by kernel_rfl)
  have hK5 := hK5.store hF (.inl hK5_g2)
  have hK6 := hK6.store hF (.inl hK6_g2)
  refine st_none (w' := W7) (a' := (up (ta_b8 g2 r5) [(6, .tuple #[.agg (ta_c3 r6), .bool true]), (10, .tuple #[.agg (ta_c3 r6), .bool true]), (11, .agg (ta_c3 r6)), (12, .bool true)])) (by kernel_rfl) (Eq.trans (b := (do Instr.storeAt 32 (.pointer (some ⟨g2, 0, none⟩)) (.agg (ta_c3 r6)); pure Next.skip : Sem Next).run Try.prog W6) (by kernel_rfl) (st_unit hr)) (by kernel_rfl) ?_
  refine sk (a' := (up (ta_b8 g2 r5) [(2, .bool true), (6, .tuple #[.agg (ta_c3 r6), .bool true]), (10, .tuple #[.agg (ta_c3 r6), .bool true]), (11, .agg (ta_c3 r6)), (12, .bool true)])) (.bool true) ?_
  refine wpList_nil ?_
  refine wp_seq ?_
  refine wp_region_list ?_
  refine se (a' := (up (ta_b11 g2 r5 r6) [])) (.agg (ta_c3 r6)) (evA hW 0 0 Try.underlying32) ?_
  have hK8_g2 : g2 < W7.heap.size := blk_lt (hW.blk 0 _ _ _ rfl).1
  have hK8_le : w.heap.size ≤ W7.heap.size := hW.below.size
  refine st_call (th_Start (t := (⟨(IntKind.wrap .i64 (0 + 1)), (IntKind.wrap .i64 ((clampF 3) - 1)), 0, (setR (fun _ => (0 : Int)) 0 5 0 0), 0, 0, 0, r6.s, r6.b, r6.n, 0⟩ : Th)) (xs := ([] : List Int)) (bs := ([] : List S42)) (ns := ([] : List Int)) (by subst e6; exact ⟨(hO6.keep hK6).reads.s, (hO6.keep hK6).reads.b, (hO6.keep hK6).reads.n⟩) (by simp)) (by kernel_rfl) (by kernel_rfl) ?_
  rintro _ W8 ⟨As8, cs8, Ab8, cb8, An8, cn8, rfl, hO8, hB⟩
  have hW := hW.step hB
  have hK5 := hK5.below hB
  have hK6 := hK6.below hB
  have hK8 := KeepUp.refl W7.heap.size W8
  obtain ⟨r8, e8⟩ : ∃ r : Rw, r = ⟨.slice As8 (([] : List Int).length) cs8, .slice Ab8 (([] : List S42).length) cb8, .slice An8 (([] : List Int).length) cn8⟩ := ⟨_, rfl⟩
  refine ⟨_, (up (ta_b11 g2 r5 r6) [(15, .agg (ta_c4 r8))]), rfl, by (try subst e5); (try subst e6); (try subst e8); kernel_rfl, ?_⟩
  refine sk (a' := (up (ta_b11 g2 r5 r6) [(15, .agg (ta_c4 r8)), (16, .agg #[.int .i64 3, .int .i64 1, .int .i64 0, .int .i64 0, .int .i64 0])])) (.agg #[.int .i64 3, .int .i64 1, .int .i64 0, .int .i64 0, .int .i64 0]) ?_
  have hK9_g2 : g2 < W8.heap.size := blk_lt (hW.blk 0 _ _ _ rfl).1
  have hK9_le : w.heap.size ≤ W8.heap.size := hW.below.size
  refine st_call (th_Local (t := (⟨(IntKind.wrap .i64 ((IntKind.wrap .i64 (0 + 1)) + 1)), (IntKind.wrap .i64 ((IntKind.wrap .i64 ((clampF 3) - 1)) - 1)), 0, (setR (fun _ => (0 : Int)) 0 5 0 0), 0, 0, 0, r8.s, r8.b, r8.n, 0⟩ : Th)) (xs := ([] : List Int)) (bs := ([] : List S42)) (ns := ([] : List Int)) (by subst e8; exact ⟨(hO8.keep hK8).reads.s, (hO8.keep hK8).reads.b, (hO8.keep hK8).reads.n⟩) (by simp) 3 1 0 0 0) (by kernel_rfl) (by kernel_rfl) ?_
  rintro _ W9 ⟨As9, cs9, Ab9, cb9, An9, cn9, rfl, hO9, hB⟩
  have hW := hW.step hB
  have hK5 := hK5.below hB
  have hK6 := hK6.below hB
  have hK8 := hK8.below hB
  have hK9 := KeepUp.refl W8.heap.size W9
  obtain ⟨r9, e9⟩ : ∃ r : Rw, r = ⟨.slice As9 (([] : List Int).length) cs9, .slice Ab9 (([] : List S42).length) cb9, .slice An9 (([] : List Int).length) cn9⟩ := ⟨_, rfl⟩
  refine ⟨_, (up (ta_b11 g2 r5 r6) [(15, .agg (ta_c4 r8)), (16, .agg #[.int .i64 3, .int .i64 1, .int .i64 0, .int .i64 0, .int .i64 0]), (17, .tuple #[.agg (ta_c5 r9), .bool true])]), rfl, by (try subst e5); (try subst e6); (try subst e8); (try subst e9); kernel_rfl, ?_⟩
  refine skp (.tuple #[.agg (ta_c5 r9), .bool true]) ?_
  refine skp (.agg (ta_c5 r9)) ?_
  refine sk (a' := (up (ta_b16 g2 r5 r6 r8 r9) [])) (.bool true) ?_
  obtain ⟨W10, hr, hW, hF⟩ := hW.storeN (P := Try.prog) (o := 0) (cs' := (ta_c5 r9)) (L' := [(g2, 32, (ta_c5 r9))]) 0 rfl (ta_c5 r9) (by (try subst e5); (try subst e6); (try subst e8); (try subst e9); kernel_rfl) (Nat.le_of_ble_eq_true rfl) (by kernel_rfl) rfl 32 (by kernel_rfl)
  have hK5 := hK5.store hF (.inl hK5_g2)
  have hK6 := hK6.store hF (.inl hK6_g2)
  have hK8 := hK8.store hF (.inl hK8_g2)
  have hK9 := hK9.store hF (.inl hK9_g2)
  refine st_none (w' := W10) (a' := (up (ta_b16 g2 r5 r6 r8 r9) [])) (by kernel_rfl) (Eq.trans (b := (do Instr.storeAt 32 (.pointer (some ⟨g2, 0, none⟩)) (.agg (ta_c5 r9)); pure Next.skip : Sem Next).run Try.prog W9) (by kernel_rfl) (st_unit hr)) (by kernel_rfl) ?_
  refine sk (a' := (up (ta_b16 g2 r5 r6 r8 r9) [(3, .bool true)])) (.bool true) ?_
  refine wpList_nil ?_
  refine wp_seq ?_
  refine wp_region_list ?_
  refine skp (.bool true) ?_
  refine sk (a' := (up (ta_b16 g2 r5 r6 r8 r9) [(3, .bool true), (20, .bool true), (21, .bool true)])) (.bool true) ?_
  refine skp (.bool true) ?_
  refine skp (.bool true) ?_
  refine sk (a' := (up (ta_b19 g2 r5 r6 r8 r9) [])) (.bool true) ?_
  refine se (a' := (up (ta_b19 g2 r5 r6 r8 r9) [(25, .agg (ta_c5 r9))])) (.agg (ta_c5 r9)) (evA hW 0 0 Try.underlying32) ?_
  refine st_call (th_Get (⟨(IntKind.wrap .i64 ((IntKind.wrap .i64 (0 + 1)) + 1)), (IntKind.wrap .i64 ((IntKind.wrap .i64 ((clampF 3) - 1)) - 1)), 0, (setR (setR (fun _ => (0 : Int)) 0 5 0 0) 1 (getR (setR (fun _ => (0 : Int)) 0 5 0 0) 0 0) (getR (setR (fun _ => (0 : Int)) 0 5 0 0) 0 1) (getR (setR (fun _ => (0 : Int)) 0 5 0 0) 0 2)), 0, 0, 0, r9.s, r9.b, r9.n, 0⟩ : Th) 1 W10) (by kernel_rfl) (by kernel_rfl) ?_
  rintro _ W11 ⟨rfl, hB⟩
  have hW := hW.step hB
  have hK5 := hK5.below hB
  have hK6 := hK6.below hB
  have hK8 := hK8.below hB
  have hK9 := hK9.below hB
  refine ⟨_, (up (ta_b19 g2 r5 r6 r8 r9) [(25, .agg (ta_c5 r9)), (26, .agg #[.int .i64 (getR (setR (setR (fun _ => (0 : Int)) 0 5 0 0) 1 (getR (setR (fun _ => (0 : Int)) 0 5 0 0) 0 0) (getR (setR (fun _ => (0 : Int)) 0 5 0 0) 0 1) (getR (setR (fun _ => (0 : Int)) 0 5 0 0) 0 2)) 1 0), .int .i64 (getR (setR (setR (fun _ => (0 : Int)) 0 5 0 0) 1 (getR (setR (fun _ => (0 : Int)) 0 5 0 0) 0 0) (getR (setR (fun _ => (0 : Int)) 0 5 0 0) 0 1) (getR (setR (fun _ => (0 : Int)) 0 5 0 0) 0 2)) 1 1), .int .i64 (getR (setR (setR (fun _ => (0 : Int)) 0 5 0 0) 1 (getR (setR (fun _ => (0 : Int)) 0 5 0 0) 0 0) (getR (setR (fun _ => (0 : Int)) 0 5 0 0) 0 1) (getR (setR (fun _ => (0 : Int)) 0 5 0 0) 0 2)) 1 2)])]), rfl, by (try subst e5); (try subst e6); (try subst e8); (try subst e9); kernel_rfl, ?_⟩
  refine sk (a' := (up (ta_b19 g2 r5 r6 r8 r9) [(25, .agg (ta_c5 r9)), (26, .agg #[.int .i64 (getR (setR (setR (fun _ => (0 : Int)) 0 5 0 0) 1 (getR (setR (fun _ => (0 : Int)) 0 5 0 0) 0 0) (getR (setR (fun _ => (0 : Int)) 0 5 0 0) 0 1) (getR (setR (fun _ => (0 : Int)) 0 5 0 0) 0 2)) 1 0), .int .i64 (getR (setR (setR (fun _ => (0 : Int)) 0 5 0 0) 1 (getR (setR (fun _ => (0 : Int)) 0 5 0 0) 0 0) (getR (setR (fun _ => (0 : Int)) 0 5 0 0) 0 1) (getR (setR (fun _ => (0 : Int)) 0 5 0 0) 0 2)) 1 1), .int .i64 (getR (setR (setR (fun _ => (0 : Int)) 0 5 0 0) 1 (getR (setR (fun _ => (0 : Int)) 0 5 0 0) 0 0) (getR (setR (fun _ => (0 : Int)) 0 5 0 0) 0 1) (getR (setR (fun _ => (0 : Int)) 0 5 0 0) 0 2)) 1 2)]), (27, .int .i64 (getR (setR (setR (fun _ => (0 : Int)) 0 5 0 0) 1 (getR (setR (fun _ => (0 : Int)) 0 5 0 0) 0 0) (getR (setR (fun _ => (0 : Int)) 0 5 0 0) 0 1) (getR (setR (fun _ => (0 : Int)) 0 5 0 0) 0 2)) 1 0))])) (.int .i64 (getR (setR (setR (fun _ => (0 : Int)) 0 5 0 0) 1 (getR (setR (fun _ => (0 : Int)) 0 5 0 0) 0 0) (getR (setR (fun _ => (0 : Int)) 0 5 0 0) 0 1) (getR (setR (fun _ => (0 : Int)) 0 5 0 0) 0 2)) 1 0)) ?_
  refine skp (.bool true) ?_
  refine skp (.bool true) ?_
  refine sk (a' := (up (ta_b21 g2 r5 r6 r8 r9) [])) (.bool true) ?_
  refine sk (a' := (up (ta_b21 g2 r5 r6 r8 r9) [(31, .pointer (some ⟨g2, 1, none⟩))])) (.pointer (some ⟨g2, 1, none⟩)) ?_
  refine se (a' := (up (ta_b21 g2 r5 r6 r8 r9) [(31, .pointer (some ⟨g2, 1, none⟩)), (32, .int .i64 (IntKind.wrap .i64 ((IntKind.wrap .i64 ((clampF 3) - 1)) - 1)))])) (.int .i64 (IntKind.wrap .i64 ((IntKind.wrap .i64 ((clampF 3) - 1)) - 1))) (ev1 hW 0 1 Try.underlying3) ?_
  refine skp (.bool true) ?_
  refine skp (.bool true) ?_
  refine sk (a' := (up (ta_b21 g2 r5 r6 r8 r9) [(31, .pointer (some ⟨g2, 1, none⟩)), (32, .int .i64 (IntKind.wrap .i64 ((IntKind.wrap .i64 ((clampF 3) - 1)) - 1))), (33, .bool true), (34, .bool true), (35, .bool true)])) (.bool true) ?_
  refine sk (a' := (up (ta_b24 g2 r5 r6 r8 r9) [])) (.pointer (some ⟨g2, 0, none⟩)) ?_
  refine se (a' := (up (ta_b24 g2 r5 r6 r8 r9) [(37, .int .i64 (IntKind.wrap .i64 ((IntKind.wrap .i64 (0 + 1)) + 1)))])) (.int .i64 (IntKind.wrap .i64 ((IntKind.wrap .i64 (0 + 1)) + 1))) (ev1 hW 0 0 Try.underlying3) ?_
  refine skp (.bool true) ?_
  refine skp (.bool true) ?_
  refine sk (a' := (up (ta_b24 g2 r5 r6 r8 r9) [(37, .int .i64 (IntKind.wrap .i64 ((IntKind.wrap .i64 (0 + 1)) + 1))), (38, .bool true), (39, .bool true), (40, .bool true)])) (.bool true) ?_
  refine se (a' := (up (ta_b24 g2 r5 r6 r8 r9) [(37, .int .i64 (IntKind.wrap .i64 ((IntKind.wrap .i64 (0 + 1)) + 1))), (38, .bool true), (39, .bool true), (40, .bool true), (41, .agg (ta_c5 r9))])) (.agg (ta_c5 r9)) (evA hW 0 0 Try.underlying32) ?_
  refine st_call (th_Done (⟨(IntKind.wrap .i64 ((IntKind.wrap .i64 (0 + 1)) + 1)), (IntKind.wrap .i64 ((IntKind.wrap .i64 ((clampF 3) - 1)) - 1)), 0, (setR (setR (fun _ => (0 : Int)) 0 5 0 0) 1 (getR (setR (fun _ => (0 : Int)) 0 5 0 0) 0 0) (getR (setR (fun _ => (0 : Int)) 0 5 0 0) 0 1) (getR (setR (fun _ => (0 : Int)) 0 5 0 0) 0 2)), 0, 0, 0, r9.s, r9.b, r9.n, 0⟩ : Th) none 0 0 (by decide) W11) (by kernel_rfl) (by kernel_rfl) ?_
  rintro _ W12 ⟨rfl, hB⟩
  have hW := hW.step hB
  have hK5 := hK5.below hB
  have hK6 := hK6.below hB
  have hK8 := hK8.below hB
  have hK9 := hK9.below hB
  refine ⟨_, (up (ta_b26 g2 r5 r6 r8 r9) []), rfl, by (try subst e5); (try subst e6); (try subst e8); (try subst e9); kernel_rfl, ?_⟩
  refine skp (.bool true) ?_
  refine sk (a' := (up (ta_b26 g2 r5 r6 r8 r9) [(0, .bool true), (43, .bool true)])) (.bool true) ?_
  refine wpList_nil ?_
  refine wp_ret ?_
  (try simp only [Exit.then, Exit.inBlock])
  change bodyPost Try.prog Try.f9 _ .ret _ _
  refine bodyPost_ret (results_tmp rfl _ _ _) rfl ?_
  exact ⟨rfl, hW.below⟩
end Go.Proofs.Ythcmcekjgecnhaa.Th
