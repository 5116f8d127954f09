/- Sorting at most twelve keys; neighbours that are alike made one. No condition beside those that each theorem names. -/
import Derived.Test.YthcmcekjgecnhabRkB
namespace Go.Proofs.Ythcmcekjgecnhab.Sr
open Go.RowKit Go.Proofs.YthcmcekjgecnhabM.Mach
set_option linter.unusedVariables false
set_option linter.unusedSimpArgs false
def ln0_l0 : List Value := [.int .u64 0, zz, .int .i64 0, zz, zz, zz, .int .u64 0, zz]
def ln0_l1 : List Value := [.int .u64 0, zz, .int .i64 0, .int .u64 0, .bool false, zz, zz, .int .u64 0, .bool false, zz, zz, zz, zz, .int .u64 0, .bool false, zz]
def ln0_l2 : List Value := [zz, zz, zz, .int .i64 0, .int .u64 0, .int .u8 0, .int .u8 0, .int .i64 0, .int .i64 0]
def ln0_b3 : List Value := ln0_l1 ++ (ln0_l2)
def ln0_l4 : List Value := [.int .u64 0, zz, .int .i64 0, zz, zz, zz, .int .u64 0, .int .i64 0]
set_option maxHeartbeats 8000000 in
set_option maxRecDepth 100000 in
theorem len_0 (w : World) : Calls Try.prog 68 #[.int .u64 0] w fun e w' => e = .returned (.int .i64 0) ∧ Below w.heap.size w w' := by
  refine enter (args := [.int .u64 0]) (fn := Try.f68) rfl (c := bdy Try.f68) (by kernel_rfl) ?_
  refine ck 2 [] [] fun γ1 => ⟨⟨kt (bdy Try.f68) [1, 1, 0, 1] [], ln0_l0, []⟩, [], [], by kernel_rfl, .nil, ?_⟩
  refine ci (f := 95) (args := [.int .u64 0]) (fn := Try.f95) (c := bdy Try.f95) rfl (fun R2 hR2 => ?_)
  refine ck 14 [] [] fun γ3 => ⟨⟨kt (bdy Try.f95) [1, 1, 1, 1, 1] [], ln0_b3, []⟩, [], [], by kernel_rfl, .nil, ?_⟩
  refine crm hR2 (.int .i64 0) [] [] [] ?_
  refine ck 1 [] [] fun γ4 => ⟨⟨kt (bdy Try.f68) [1, 1, 1] [], ln0_l4, []⟩, [], [], by kernel_rfl, .nil, ?_⟩
  refine rt (.int .i64 0) [] [] (fun W hW => ?_)
  exact ⟨rfl, (hW.old 0 rfl)⟩
def ln1_l0 : List Value := [.int .u64 1, zz, .int .i64 0, zz, zz, zz, .int .u64 1, zz]
def ln1_l1 : List Value := [.int .u64 1, zz, .int .i64 1, .int .u64 1, .bool false, zz, zz, .int .u64 1, .bool false, zz, zz, zz, zz, .int .u64 1, .bool false, zz]
def ln1_l2 : List Value := [zz, zz, zz, .int .i64 0, .int .u64 1, .int .u8 1, .int .u8 1, .int .i64 1, .int .i64 1]
def ln1_b3 : List Value := ln1_l1 ++ (ln1_l2)
def ln1_l4 : List Value := [.int .u64 1, zz, .int .i64 1, zz, zz, zz, .int .u64 1, .int .i64 1]
set_option maxHeartbeats 8000000 in
set_option maxRecDepth 100000 in
theorem len_1 (w : World) : Calls Try.prog 68 #[.int .u64 1] w fun e w' => e = .returned (.int .i64 1) ∧ Below w.heap.size w w' := by
  refine enter (args := [.int .u64 1]) (fn := Try.f68) rfl (c := bdy Try.f68) (by kernel_rfl) ?_
  refine ck 2 [] [] fun γ1 => ⟨⟨kt (bdy Try.f68) [1, 1, 0, 1] [], ln1_l0, []⟩, [], [], by kernel_rfl, .nil, ?_⟩
  refine ci (f := 95) (args := [.int .u64 1]) (fn := Try.f95) (c := bdy Try.f95) rfl (fun R2 hR2 => ?_)
  refine ck 14 [] [] fun γ3 => ⟨⟨kt (bdy Try.f95) [1, 1, 1, 1, 1] [], ln1_b3, []⟩, [], [], by kernel_rfl, .nil, ?_⟩
  refine crm hR2 (.int .i64 1) [] [] [] ?_
  refine ck 1 [] [] fun γ4 => ⟨⟨kt (bdy Try.f68) [1, 1, 1] [], ln1_l4, []⟩, [], [], by kernel_rfl, .nil, ?_⟩
  refine rt (.int .i64 1) [] [] (fun W hW => ?_)
  exact ⟨rfl, (hW.old 0 rfl)⟩
def ln2_l0 : List Value := [.int .u64 2, zz, .int .i64 0, zz, zz, zz, .int .u64 2, zz]
def ln2_l1 : List Value := [.int .u64 2, zz, .int .i64 2, .int .u64 2, .bool false, zz, zz, .int .u64 2, .bool false, zz, zz, zz, zz, .int .u64 2, .bool false, zz]
def ln2_l2 : List Value := [zz, zz, zz, .int .i64 0, .int .u64 2, .int .u8 2, .int .u8 2, .int .i64 2, .int .i64 2]
def ln2_b3 : List Value := ln2_l1 ++ (ln2_l2)
def ln2_l4 : List Value := [.int .u64 2, zz, .int .i64 2, zz, zz, zz, .int .u64 2, .int .i64 2]
set_option maxHeartbeats 8000000 in
set_option maxRecDepth 100000 in
theorem len_2 (w : World) : Calls Try.prog 68 #[.int .u64 2] w fun e w' => e = .returned (.int .i64 2) ∧ Below w.heap.size w w' := by
  refine enter (args := [.int .u64 2]) (fn := Try.f68) rfl (c := bdy Try.f68) (by kernel_rfl) ?_
  refine ck 2 [] [] fun γ1 => ⟨⟨kt (bdy Try.f68) [1, 1, 0, 1] [], ln2_l0, []⟩, [], [], by kernel_rfl, .nil, ?_⟩
  refine ci (f := 95) (args := [.int .u64 2]) (fn := Try.f95) (c := bdy Try.f95) rfl (fun R2 hR2 => ?_)
  refine ck 14 [] [] fun γ3 => ⟨⟨kt (bdy Try.f95) [1, 1, 1, 1, 1] [], ln2_b3, []⟩, [], [], by kernel_rfl, .nil, ?_⟩
  refine crm hR2 (.int .i64 2) [] [] [] ?_
  refine ck 1 [] [] fun γ4 => ⟨⟨kt (bdy Try.f68) [1, 1, 1] [], ln2_l4, []⟩, [], [], by kernel_rfl, .nil, ?_⟩
  refine rt (.int .i64 2) [] [] (fun W hW => ?_)
  exact ⟨rfl, (hW.old 0 rfl)⟩
def ln3_l0 : List Value := [.int .u64 3, zz, .int .i64 0, zz, zz, zz, .int .u64 3, zz]
def ln3_l1 : List Value := [.int .u64 3, zz, .int .i64 2, .int .u64 3, .bool false, zz, zz, .int .u64 3, .bool false, zz, zz, zz, zz, .int .u64 3, .bool false, zz]
def ln3_l2 : List Value := [zz, zz, zz, .int .i64 0, .int .u64 3, .int .u8 3, .int .u8 2, .int .i64 2, .int .i64 2]
def ln3_b3 : List Value := ln3_l1 ++ (ln3_l2)
def ln3_l4 : List Value := [.int .u64 3, zz, .int .i64 2, zz, zz, zz, .int .u64 3, .int .i64 2]
set_option maxHeartbeats 8000000 in
set_option maxRecDepth 100000 in
theorem len_3 (w : World) : Calls Try.prog 68 #[.int .u64 3] w fun e w' => e = .returned (.int .i64 2) ∧ Below w.heap.size w w' := by
  refine enter (args := [.int .u64 3]) (fn := Try.f68) rfl (c := bdy Try.f68) (by kernel_rfl) ?_
  refine ck 2 [] [] fun γ1 => ⟨⟨kt (bdy Try.f68) [1, 1, 0, 1] [], ln3_l0, []⟩, [], [], by kernel_rfl, .nil, ?_⟩
  refine ci (f := 95) (args := [.int .u64 3]) (fn := Try.f95) (c := bdy Try.f95) rfl (fun R2 hR2 => ?_)
  refine ck 14 [] [] fun γ3 => ⟨⟨kt (bdy Try.f95) [1, 1, 1, 1, 1] [], ln3_b3, []⟩, [], [], by kernel_rfl, .nil, ?_⟩
  refine crm hR2 (.int .i64 2) [] [] [] ?_
  refine ck 1 [] [] fun γ4 => ⟨⟨kt (bdy Try.f68) [1, 1, 1] [], ln3_l4, []⟩, [], [], by kernel_rfl, .nil, ?_⟩
  refine rt (.int .i64 2) [] [] (fun W hW => ?_)
  exact ⟨rfl, (hW.old 0 rfl)⟩
def ln4_l0 : List Value := [.int .u64 4, zz, .int .i64 0, zz, zz, zz, .int .u64 4, zz]
def ln4_l1 : List Value := [.int .u64 4, zz, .int .i64 3, .int .u64 4, .bool false, zz, zz, .int .u64 4, .bool false, zz, zz, zz, zz, .int .u64 4, .bool false, zz]
def ln4_l2 : List Value := [zz, zz, zz, .int .i64 0, .int .u64 4, .int .u8 4, .int .u8 3, .int .i64 3, .int .i64 3]
def ln4_b3 : List Value := ln4_l1 ++ (ln4_l2)
def ln4_l4 : List Value := [.int .u64 4, zz, .int .i64 3, zz, zz, zz, .int .u64 4, .int .i64 3]
set_option maxHeartbeats 8000000 in
set_option maxRecDepth 100000 in
theorem len_4 (w : World) : Calls Try.prog 68 #[.int .u64 4] w fun e w' => e = .returned (.int .i64 3) ∧ Below w.heap.size w w' := by
  refine enter (args := [.int .u64 4]) (fn := Try.f68) rfl (c := bdy Try.f68) (by kernel_rfl) ?_
  refine ck 2 [] [] fun γ1 => ⟨⟨kt (bdy Try.f68) [1, 1, 0, 1] [], ln4_l0, []⟩, [], [], by kernel_rfl, .nil, ?_⟩
  refine ci (f := 95) (args := [.int .u64 4]) (fn := Try.f95) (c := bdy Try.f95) rfl (fun R2 hR2 => ?_)
  refine ck 14 [] [] fun γ3 => ⟨⟨kt (bdy Try.f95) [1, 1, 1, 1, 1] [], ln4_b3, []⟩, [], [], by kernel_rfl, .nil, ?_⟩
  refine crm hR2 (.int .i64 3) [] [] [] ?_
  refine ck 1 [] [] fun γ4 => ⟨⟨kt (bdy Try.f68) [1, 1, 1] [], ln4_l4, []⟩, [], [], by kernel_rfl, .nil, ?_⟩
  refine rt (.int .i64 3) [] [] (fun W hW => ?_)
  exact ⟨rfl, (hW.old 0 rfl)⟩
def ln5_l0 : List Value := [.int .u64 5, zz, .int .i64 0, zz, zz, zz, .int .u64 5, zz]
def ln5_l1 : List Value := [.int .u64 5, zz, .int .i64 3, .int .u64 5, .bool false, zz, zz, .int .u64 5, .bool false, zz, zz, zz, zz, .int .u64 5, .bool false, zz]
def ln5_l2 : List Value := [zz, zz, zz, .int .i64 0, .int .u64 5, .int .u8 5, .int .u8 3, .int .i64 3, .int .i64 3]
def ln5_b3 : List Value := ln5_l1 ++ (ln5_l2)
def ln5_l4 : List Value := [.int .u64 5, zz, .int .i64 3, zz, zz, zz, .int .u64 5, .int .i64 3]
set_option maxHeartbeats 8000000 in
set_option maxRecDepth 100000 in
theorem len_5 (w : World) : Calls Try.prog 68 #[.int .u64 5] w fun e w' => e = .returned (.int .i64 3) ∧ Below w.heap.size w w' := by
  refine enter (args := [.int .u64 5]) (fn := Try.f68) rfl (c := bdy Try.f68) (by kernel_rfl) ?_
  refine ck 2 [] [] fun γ1 => ⟨⟨kt (bdy Try.f68) [1, 1, 0, 1] [], ln5_l0, []⟩, [], [], by kernel_rfl, .nil, ?_⟩
  refine ci (f := 95) (args := [.int .u64 5]) (fn := Try.f95) (c := bdy Try.f95) rfl (fun R2 hR2 => ?_)
  refine ck 14 [] [] fun γ3 => ⟨⟨kt (bdy Try.f95) [1, 1, 1, 1, 1] [], ln5_b3, []⟩, [], [], by kernel_rfl, .nil, ?_⟩
  refine crm hR2 (.int .i64 3) [] [] [] ?_
  refine ck 1 [] [] fun γ4 => ⟨⟨kt (bdy Try.f68) [1, 1, 1] [], ln5_l4, []⟩, [], [], by kernel_rfl, .nil, ?_⟩
  refine rt (.int .i64 3) [] [] (fun W hW => ?_)
  exact ⟨rfl, (hW.old 0 rfl)⟩
def ln6_l0 : List Value := [.int .u64 6, zz, .int .i64 0, zz, zz, zz, .int .u64 6, zz]
def ln6_l1 : List Value := [.int .u64 6, zz, .int .i64 3, .int .u64 6, .bool false, zz, zz, .int .u64 6, .bool false, zz, zz, zz, zz, .int .u64 6, .bool false, zz]
def ln6_l2 : List Value := [zz, zz, zz, .int .i64 0, .int .u64 6, .int .u8 6, .int .u8 3, .int .i64 3, .int .i64 3]
def ln6_b3 : List Value := ln6_l1 ++ (ln6_l2)
def ln6_l4 : List Value := [.int .u64 6, zz, .int .i64 3, zz, zz, zz, .int .u64 6, .int .i64 3]
set_option maxHeartbeats 8000000 in
set_option maxRecDepth 100000 in
theorem len_6 (w : World) : Calls Try.prog 68 #[.int .u64 6] w fun e w' => e = .returned (.int .i64 3) ∧ Below w.heap.size w w' := by
  refine enter (args := [.int .u64 6]) (fn := Try.f68) rfl (c := bdy Try.f68) (by kernel_rfl) ?_
  refine ck 2 [] [] fun γ1 => ⟨⟨kt (bdy Try.f68) [1, 1, 0, 1] [], ln6_l0, []⟩, [], [], by kernel_rfl, .nil, ?_⟩
  refine ci (f := 95) (args := [.int .u64 6]) (fn := Try.f95) (c := bdy Try.f95) rfl (fun R2 hR2 => ?_)
  refine ck 14 [] [] fun γ3 => ⟨⟨kt (bdy Try.f95) [1, 1, 1, 1, 1] [], ln6_b3, []⟩, [], [], by kernel_rfl, .nil, ?_⟩
  refine crm hR2 (.int .i64 3) [] [] [] ?_
  refine ck 1 [] [] fun γ4 => ⟨⟨kt (bdy Try.f68) [1, 1, 1] [], ln6_l4, []⟩, [], [], by kernel_rfl, .nil, ?_⟩
  refine rt (.int .i64 3) [] [] (fun W hW => ?_)
  exact ⟨rfl, (hW.old 0 rfl)⟩
def ln7_l0 : List Value := [.int .u64 7, zz, .int .i64 0, zz, zz, zz, .int .u64 7, zz]
def ln7_l1 : List Value := [.int .u64 7, zz, .int .i64 3, .int .u64 7, .bool false, zz, zz, .int .u64 7, .bool false, zz, zz, zz, zz, .int .u64 7, .bool false, zz]
def ln7_l2 : List Value := [zz, zz, zz, .int .i64 0, .int .u64 7, .int .u8 7, .int .u8 3, .int .i64 3, .int .i64 3]
def ln7_b3 : List Value := ln7_l1 ++ (ln7_l2)
def ln7_l4 : List Value := [.int .u64 7, zz, .int .i64 3, zz, zz, zz, .int .u64 7, .int .i64 3]
set_option maxHeartbeats 8000000 in
set_option maxRecDepth 100000 in
theorem len_7 (w : World) : Calls Try.prog 68 #[.int .u64 7] w fun e w' => e = .returned (.int .i64 3) ∧ Below w.heap.size w w' := by
  refine enter (args := [.int .u64 7]) (fn := Try.f68) rfl (c := bdy Try.f68) (by kernel_rfl) ?_
  refine ck 2 [] [] fun γ1 => ⟨⟨kt (bdy Try.f68) [1, 1, 0, 1] [], ln7_l0, []⟩, [], [], by kernel_rfl, .nil, ?_⟩
  refine ci (f := 95) (args := [.int .u64 7]) (fn := Try.f95) (c := bdy Try.f95) rfl (fun R2 hR2 => ?_)
  refine ck 14 [] [] fun γ3 => ⟨⟨kt (bdy Try.f95) [1, 1, 1, 1, 1] [], ln7_b3, []⟩, [], [], by kernel_rfl, .nil, ?_⟩
  refine crm hR2 (.int .i64 3) [] [] [] ?_
  refine ck 1 [] [] fun γ4 => ⟨⟨kt (bdy Try.f68) [1, 1, 1] [], ln7_l4, []⟩, [], [], by kernel_rfl, .nil, ?_⟩
  refine rt (.int .i64 3) [] [] (fun W hW => ?_)
  exact ⟨rfl, (hW.old 0 rfl)⟩
def ln8_l0 : List Value := [.int .u64 8, zz, .int .i64 0, zz, zz, zz, .int .u64 8, zz]
def ln8_l1 : List Value := [.int .u64 8, zz, .int .i64 4, .int .u64 8, .bool false, zz, zz, .int .u64 8, .bool false, zz, zz, zz, zz, .int .u64 8, .bool false, zz]
def ln8_l2 : List Value := [zz, zz, zz, .int .i64 0, .int .u64 8, .int .u8 8, .int .u8 4, .int .i64 4, .int .i64 4]
def ln8_b3 : List Value := ln8_l1 ++ (ln8_l2)
def ln8_l4 : List Value := [.int .u64 8, zz, .int .i64 4, zz, zz, zz, .int .u64 8, .int .i64 4]
set_option maxHeartbeats 8000000 in
set_option maxRecDepth 100000 in
theorem len_8 (w : World) : Calls Try.prog 68 #[.int .u64 8] w fun e w' => e = .returned (.int .i64 4) ∧ Below w.heap.size w w' := by
  refine enter (args := [.int .u64 8]) (fn := Try.f68) rfl (c := bdy Try.f68) (by kernel_rfl) ?_
  refine ck 2 [] [] fun γ1 => ⟨⟨kt (bdy Try.f68) [1, 1, 0, 1] [], ln8_l0, []⟩, [], [], by kernel_rfl, .nil, ?_⟩
  refine ci (f := 95) (args := [.int .u64 8]) (fn := Try.f95) (c := bdy Try.f95) rfl (fun R2 hR2 => ?_)
  refine ck 14 [] [] fun γ3 => ⟨⟨kt (bdy Try.f95) [1, 1, 1, 1, 1] [], ln8_b3, []⟩, [], [], by kernel_rfl, .nil, ?_⟩
  refine crm hR2 (.int .i64 4) [] [] [] ?_
  refine ck 1 [] [] fun γ4 => ⟨⟨kt (bdy Try.f68) [1, 1, 1] [], ln8_l4, []⟩, [], [], by kernel_rfl, .nil, ?_⟩
  refine rt (.int .i64 4) [] [] (fun W hW => ?_)
  exact ⟨rfl, (hW.old 0 rfl)⟩
def ln9_l0 : List Value := [.int .u64 9, zz, .int .i64 0, zz, zz, zz, .int .u64 9, zz]
def ln9_l1 : List Value := [.int .u64 9, zz, .int .i64 4, .int .u64 9, .bool false, zz, zz, .int .u64 9, .bool false, zz, zz, zz, zz, .int .u64 9, .bool false, zz]
def ln9_l2 : List Value := [zz, zz, zz, .int .i64 0, .int .u64 9, .int .u8 9, .int .u8 4, .int .i64 4, .int .i64 4]
def ln9_b3 : List Value := ln9_l1 ++ (ln9_l2)
def ln9_l4 : List Value := [.int .u64 9, zz, .int .i64 4, zz, zz, zz, .int .u64 9, .int .i64 4]
set_option maxHeartbeats 8000000 in
set_option maxRecDepth 100000 in
theorem len_9 (w : World) : Calls Try.prog 68 #[.int .u64 9] w fun e w' => e = .returned (.int .i64 4) ∧ Below w.heap.size w w' := by
  refine enter (args := [.int .u64 9]) (fn := Try.f68) rfl (c := bdy Try.f68) (by kernel_rfl) ?_
  refine ck 2 [] [] fun γ1 => ⟨⟨kt (bdy Try.f68) [1, 1, 0, 1] [], ln9_l0, []⟩, [], [], by kernel_rfl, .nil, ?_⟩
  refine ci (f := 95) (args := [.int .u64 9]) (fn := Try.f95) (c := bdy Try.f95) rfl (fun R2 hR2 => ?_)
  refine ck 14 [] [] fun γ3 => ⟨⟨kt (bdy Try.f95) [1, 1, 1, 1, 1] [], ln9_b3, []⟩, [], [], by kernel_rfl, .nil, ?_⟩
  refine crm hR2 (.int .i64 4) [] [] [] ?_
  refine ck 1 [] [] fun γ4 => ⟨⟨kt (bdy Try.f68) [1, 1, 1] [], ln9_l4, []⟩, [], [], by kernel_rfl, .nil, ?_⟩
  refine rt (.int .i64 4) [] [] (fun W hW => ?_)
  exact ⟨rfl, (hW.old 0 rfl)⟩
def ln10_l0 : List Value := [.int .u64 10, zz, .int .i64 0, zz, zz, zz, .int .u64 10, zz]
def ln10_l1 : List Value := [.int .u64 10, zz, .int .i64 4, .int .u64 10, .bool false, zz, zz, .int .u64 10, .bool false, zz, zz, zz, zz, .int .u64 10, .bool false, zz]
def ln10_l2 : List Value := [zz, zz, zz, .int .i64 0, .int .u64 10, .int .u8 10, .int .u8 4, .int .i64 4, .int .i64 4]
def ln10_b3 : List Value := ln10_l1 ++ (ln10_l2)
def ln10_l4 : List Value := [.int .u64 10, zz, .int .i64 4, zz, zz, zz, .int .u64 10, .int .i64 4]
set_option maxHeartbeats 8000000 in
set_option maxRecDepth 100000 in
theorem len_10 (w : World) : Calls Try.prog 68 #[.int .u64 10] w fun e w' => e = .returned (.int .i64 4) ∧ Below w.heap.size w w' := by
  refine enter (args := [.int .u64 10]) (fn := Try.f68) rfl (c := bdy Try.f68) (by kernel_rfl) ?_
  refine ck 2 [] [] fun γ1 => ⟨⟨kt (bdy Try.f68) [1, 1, 0, 1] [], ln10_l0, []⟩, [], [], by kernel_rfl, .nil, ?_⟩
  refine ci (f := 95) (args := [.int .u64 10]) (fn := Try.f95) (c := bdy Try.f95) rfl (fun R2 hR2 => ?_)
  refine ck 14 [] [] fun γ3 => ⟨⟨kt (bdy Try.f95) [1, 1, 1, 1, 1] [], ln10_b3, []⟩, [], [], by kernel_rfl, .nil, ?_⟩
  refine crm hR2 (.int .i64 4) [] [] [] ?_
  refine ck 1 [] [] fun γ4 => ⟨⟨kt (bdy Try.f68) [1, 1, 1] [], ln10_l4, []⟩, [], [], by kernel_rfl, .nil, ?_⟩
  refine rt (.int .i64 4) [] [] (fun W hW => ?_)
  exact ⟨rfl, (hW.old 0 rfl)⟩
def ln11_l0 : List Value := [.int .u64 11, zz, .int .i64 0, zz, zz, zz, .int .u64 11, zz]
def ln11_l1 : List Value := [.int .u64 11, zz, .int .i64 4, .int .u64 11, .bool false, zz, zz, .int .u64 11, .bool false, zz, zz, zz, zz, .int .u64 11, .bool false, zz]
def ln11_l2 : List Value := [zz, zz, zz, .int .i64 0, .int .u64 11, .int .u8 11, .int .u8 4, .int .i64 4, .int .i64 4]
def ln11_b3 : List Value := ln11_l1 ++ (ln11_l2)
def ln11_l4 : List Value := [.int .u64 11, zz, .int .i64 4, zz, zz, zz, .int .u64 11, .int .i64 4]
set_option maxHeartbeats 8000000 in
set_option maxRecDepth 100000 in
theorem len_11 (w : World) : Calls Try.prog 68 #[.int .u64 11] w fun e w' => e = .returned (.int .i64 4) ∧ Below w.heap.size w w' := by
  refine enter (args := [.int .u64 11]) (fn := Try.f68) rfl (c := bdy Try.f68) (by kernel_rfl) ?_
  refine ck 2 [] [] fun γ1 => ⟨⟨kt (bdy Try.f68) [1, 1, 0, 1] [], ln11_l0, []⟩, [], [], by kernel_rfl, .nil, ?_⟩
  refine ci (f := 95) (args := [.int .u64 11]) (fn := Try.f95) (c := bdy Try.f95) rfl (fun R2 hR2 => ?_)
  refine ck 14 [] [] fun γ3 => ⟨⟨kt (bdy Try.f95) [1, 1, 1, 1, 1] [], ln11_b3, []⟩, [], [], by kernel_rfl, .nil, ?_⟩
  refine crm hR2 (.int .i64 4) [] [] [] ?_
  refine ck 1 [] [] fun γ4 => ⟨⟨kt (bdy Try.f68) [1, 1, 1] [], ln11_l4, []⟩, [], [], by kernel_rfl, .nil, ?_⟩
  refine rt (.int .i64 4) [] [] (fun W hW => ?_)
  exact ⟨rfl, (hW.old 0 rfl)⟩
def ln12_l0 : List Value := [.int .u64 12, zz, .int .i64 0, zz, zz, zz, .int .u64 12, zz]
def ln12_l1 : List Value := [.int .u64 12, zz, .int .i64 4, .int .u64 12, .bool false, zz, zz, .int .u64 12, .bool false, zz, zz, zz, zz, .int .u64 12, .bool false, zz]
def ln12_l2 : List Value := [zz, zz, zz, .int .i64 0, .int .u64 12, .int .u8 12, .int .u8 4, .int .i64 4, .int .i64 4]
def ln12_b3 : List Value := ln12_l1 ++ (ln12_l2)
def ln12_l4 : List Value := [.int .u64 12, zz, .int .i64 4, zz, zz, zz, .int .u64 12, .int .i64 4]
set_option maxHeartbeats 8000000 in
set_option maxRecDepth 100000 in
theorem len_12 (w : World) : Calls Try.prog 68 #[.int .u64 12] w fun e w' => e = .returned (.int .i64 4) ∧ Below w.heap.size w w' := by
  refine enter (args := [.int .u64 12]) (fn := Try.f68) rfl (c := bdy Try.f68) (by kernel_rfl) ?_
  refine ck 2 [] [] fun γ1 => ⟨⟨kt (bdy Try.f68) [1, 1, 0, 1] [], ln12_l0, []⟩, [], [], by kernel_rfl, .nil, ?_⟩
  refine ci (f := 95) (args := [.int .u64 12]) (fn := Try.f95) (c := bdy Try.f95) rfl (fun R2 hR2 => ?_)
  refine ck 14 [] [] fun γ3 => ⟨⟨kt (bdy Try.f95) [1, 1, 1, 1, 1] [], ln12_b3, []⟩, [], [], by kernel_rfl, .nil, ?_⟩
  refine crm hR2 (.int .i64 4) [] [] [] ?_
  refine ck 1 [] [] fun γ4 => ⟨⟨kt (bdy Try.f68) [1, 1, 1] [], ln12_l4, []⟩, [], [], by kernel_rfl, .nil, ?_⟩
  refine rt (.int .i64 4) [] [] (fun W hW => ?_)
  exact ⟨rfl, (hW.old 0 rfl)⟩
theorem len_ex : ∀ n : Nat, n ≤ 12 → ∃ r : Int, ∀ w : World, Calls Try.prog 68 #[.int .u64 ((n : Nat) : Int)] w fun e w' => e = .returned (.int .i64 r) ∧ Below w.heap.size w w'
  | 0, _ => ⟨_, len_0⟩
  | 1, _ => ⟨_, len_1⟩
  | 2, _ => ⟨_, len_2⟩
  | 3, _ => ⟨_, len_3⟩
  | 4, _ => ⟨_, len_4⟩
  | 5, _ => ⟨_, len_5⟩
  | 6, _ => ⟨_, len_6⟩
  | 7, _ => ⟨_, len_7⟩
  | 8, _ => ⟨_, len_8⟩
  | 9, _ => ⟨_, len_9⟩
  | 10, _ => ⟨_, len_10⟩
  | 11, _ => ⟨_, len_11⟩
  | 12, _ => ⟨_, len_12⟩
  | n + 13, h => by omega
def pdq_l0 (A : Option Addr) (n : Nat) (c : Nat) (r0 : Int) : List Value := [.slice A n c, .int .i64 0, .int .i64 ((n : Nat) : Int), .int .i64 r0, .func (.func 37) #[] #[], zz, zz, zz, zz, zz, .bool true, .bool true, zz, zz, zz, zz]
def pdq_l1 : List Value := [zz, zz, zz, zz, zz, zz, zz, zz, zz, zz, zz, zz, zz, zz, zz, zz]
def pdq_l2 : List Value := [zz, zz, zz, zz]
def pdq_b3 (A : Option Addr) (n : Nat) (c : Nat) (r0 : Int) : List Value := (pdq_l0 A n c r0) ++ (pdq_l1 ++ (pdq_l1 ++ (pdq_l1 ++ (pdq_l1 ++ (pdq_l1 ++ (pdq_l1 ++ (pdq_l1 ++ (pdq_l1 ++ (pdq_l2)))))))))
set_option maxHeartbeats 8000000 in
set_option maxRecDepth 100000 in
theorem pdq_is (r0 : Int) {w : World} {A : Option Addr} {n c : Nat} {ks0 : List P3} (hlen : ks0.length = n) (hn : n ≤ 12) (hown : ownR w 71 3 (.slice A n c) n (ks0.flatMap encT71)) : Calls Try.prog 67 #[.slice A n c, .int .i64 0, .int .i64 ((n : Nat) : Int), .int .i64 r0, .func (.func 37) #[] #[]] w fun e w' => ∃ x : {ks : List P3 // ks.length = n ∧ ks0.Perm ks ∧ ∀ p q, p < q → q < n → ltP ks[q]! ks[p]! = false}, e = .returned (.tuple #[]) ∧ Turned (.slice A n c) w w' ∧ ownR w' 71 3 (.slice A n c) n (x.1.flatMap encT71) := by
  refine enterX (args := [.slice A n c, .int .i64 0, .int .i64 ((n : Nat) : Int), .int .i64 r0, .func (.func 37) #[] #[]]) (fn := Try.f67) rfl (c := bdy Try.f67) (by kernel_rfl) hown ?_
  refine ck 2 [] [] fun γ1 => ⟨⟨kt (bdy Try.f67) [1, 1, 0] [], (pdq_b3 A n c r0), []⟩, [], [], by kernel_rfl, .nil, ?_⟩
  refine lu 2 (fun I2 hI2 => ?_)
  refine ck 10 [] [(2, .int .i64 ((n : Nat) : Int)), (5, .bool true)] fun γ3 => ⟨⟨ktl [0, 1, 0, 1, 0, 0, 4] (I2 2) (kt (bdy Try.f67) [1, 1, 0] []), upv (pdq_b3 A n c r0) [(12, .int .i64 ((n : Nat) : Int)), (21, .int .i64 ((n : Nat) : Int)), (22, .int .i64 0), (23, .int .i64 ((n : Nat) : Int)), (24, .int .i64 ((n : Nat) : Int)), (25, .bool true), (26, .slice A n c), (27, .int .i64 0), (28, .int .i64 ((n : Nat) : Int)), (29, .func (.func 37) #[] #[])], []⟩, [], [Value.int .i64 (IntKind.wrap .i64 (((n : Nat) : Int) - 0)) = .int .i64 ((n : Nat) : Int), Value.bool (decide ((((n : Nat) : Int) : Int) ≤ 12)) = .bool true], by kernel_rfl, (.cons (congrArg (Value.int .i64) (by rw [IntKind.wrap_i64]; omega)) (.cons (cbT (by omega)) .nil)), ?_⟩
  refine cm 0 rfl (fun W hW => isort_is hlen (by omega) (hW.at 0 rfl)) ?_
  rintro ⟨ks1, hl1, hp1, hs1⟩
  refine rt (.tuple #[]) [] [] (fun W hW => ?_)
  exact ⟨⟨ks1, hl1, hp1, hs1⟩, rfl, hW.at 1 rfl, hW.at 0 rfl⟩
def sor_l0 (A : Option Addr) (n : Nat) (c : Nat) : List Value := [.slice A n c, .func (.func 37) #[] #[], zz, zz, .int .i64 ((n : Nat) : Int), .slice A n c, .int .i64 ((n : Nat) : Int), .slice A n c, .int .i64 ((n : Nat) : Int), .int .i64 ((n : Nat) : Int), .int .u64 ((n : Nat) : Int), zz, zz, zz]
set_option maxHeartbeats 8000000 in
set_option maxRecDepth 100000 in
theorem sort_is {w : World} {A : Option Addr} {n c : Nat} {ks0 : List P3} (hlen : ks0.length = n) (hn : n ≤ 12) (hown : ownR w 71 3 (.slice A n c) n (ks0.flatMap encT71)) : Calls Try.prog 36 #[.slice A n c, .func (.func 37) #[] #[]] w fun e w' => ∃ x : {ks : List P3 // ks.length = n ∧ ks0.Perm ks ∧ ∀ p q, p < q → q < n → ltP ks[q]! ks[p]! = false}, e = .returned (.tuple #[]) ∧ Turned (.slice A n c) w w' ∧ ownR w' 71 3 (.slice A n c) n (x.1.flatMap encT71) := by
  obtain ⟨r0, hr0⟩ := len_ex n hn
  refine enterX (args := [.slice A n c, .func (.func 37) #[] #[]]) (fn := Try.f36) rfl (c := bdy Try.f36) (by kernel_rfl) hown ?_
  refine ck 7 [] [(6, .int .u64 ((n : Nat) : Int))] fun γ1 => ⟨⟨kt (bdy Try.f36) [1, 4] [], (sor_l0 A n c), []⟩, [], [Value.int .u64 (IntKind.wrap .u64 ((n : Nat) : Int)) = .int .u64 ((n : Nat) : Int)], by kernel_rfl, (.cons (congrArg (Value.int .u64) (by unfold IntKind.wrap; simp [IntKind.bits, IntKind.signed]; omega)) .nil), ?_⟩
  refine cp (fun W hW => hr0 W) ?_
  refine ck 1 [] [] fun γ2 => ⟨⟨kt (bdy Try.f36) [1, 6] [], upv (sor_l0 A n c) [(11, .int .i64 r0), (12, .func (.func 37) #[] #[])], []⟩, [], [], by kernel_rfl, .nil, ?_⟩
  refine cm 0 rfl (fun W hW => pdq_is r0 hlen (by omega) (hW.at 0 rfl)) ?_
  rintro ⟨ks1, hl1, hp1, hs1⟩
  refine rt (.tuple #[]) [] [] (fun W hW => ?_)
  exact ⟨⟨ks1, hl1, hp1, hs1⟩, rfl, hW.at 1 rfl, hW.at 0 rfl⟩
theorem zeros_cell {α : Type} {enc : α → List Value} (h : ∀ x, ∀ u ∈ enc x, cellV u = true) (l : List α) : (l.flatMap enc).all cellV = true := by
  rw [List.all_eq_true]
  intro u hu
  obtain ⟨x, _, h2⟩ := List.mem_flatMap.1 hu
  exact h x u h2
def cq_l0 (A : Option Addr) (n : Nat) (c : Nat) : List Value := [.slice A n c, zz, .slice none 0 0, zz, zz, zz, zz, zz, zz, zz, zz, zz, zz, zz, zz, zz]
def cq_l1 : List Value := [zz, zz, zz, zz, zz, zz, zz, zz, zz, zz, zz, zz, zz, zz, zz, zz]
def cq_l2 : List Value := [zz, zz, zz, zz, zz, zz, zz, zz, zz, zz, zz, zz, zz]
def cq_b3 (A : Option Addr) (n : Nat) (c : Nat) : List Value := (cq_l0 A n c) ++ (cq_l1 ++ (cq_l1 ++ (cq_l2)))
def cq_l4 (A : Option Addr) (n : Nat) (c : Nat) (z4 : Nat → Value) (p : Nat) : List Value := [.slice A n c, zz, z4 2, .int .i64 ((p + 1 : Nat) : Int), z4 4, z4 5, .slice A n c, .int .i64 ((n : Nat) : Int), .bool false, zz, z4 10, z4 11, z4 12, z4 13, z4 14, z4 15]
def cq_l5 (z4 : Nat → Value) : List Value := [z4 16, z4 17, z4 18, z4 19, z4 20, z4 21, z4 22, z4 23, z4 24, z4 25, z4 26, z4 27, z4 28, z4 29, z4 30, z4 31]
def cq_l6 (z4 : Nat → Value) : List Value := [z4 32, z4 33, z4 34, z4 35, z4 36, z4 37, z4 38, z4 39, z4 40, z4 41, z4 42, z4 43, z4 44, z4 45, z4 46, z4 47]
def cq_l7 (z4 : Nat → Value) : List Value := [z4 48, z4 49, z4 50, z4 51, z4 52, z4 53, z4 54, z4 55, z4 56, z4 57, z4 58, z4 59, zz]
def cq_b8 (A : Option Addr) (n : Nat) (c : Nat) (z4 : Nat → Value) (p : Nat) : List Value := (cq_l4 A n c z4 p) ++ ((cq_l5 z4) ++ ((cq_l6 z4) ++ ((cq_l7 z4))))
abbrev cq_4X := (Nat → Value) × Nat
def cq_4s (A : Option Addr) (n : Nat) (c : Nat) (ks0 : List P3) (x : cq_4X) : List Value × List Blk := ((cq_b8 A n c (x.1) (x.2)), [])
def cq_4k (A : Option Addr) (n : Nat) (c : Nat) (ks0 : List P3) (x : cq_4X) : Prop := ddup (ks0.take ((x.2) + 1)) = ks0.take ((x.2) + 1) ∧ (x.2) + 1 ≤ n
def cq_4m (A : Option Addr) (n : Nat) (c : Nat) (ks0 : List P3) (x : cq_4X) : Nat := n - (x.2)
def cq_4F (A : Option Addr) (n : Nat) (c : Nat) (ks0 : List P3) (w : World) (x : cq_4X) : List Asrt := [rowA 71 3 (.slice A n c) n (ks0.flatMap encT71), oldX w (.slice A n c)]
abbrev cq_4I (A : Option Addr) (n : Nat) (c : Nat) (ks0 : List P3) (w : World) (x : cq_4X) : Act → World → Prop := Inv (cq_4s A n c ks0) (cq_4F A n c ks0 w) (cq_4k A n c ks0) (cq_4m A n c ks0) x
def cq_l15 (A : Option Addr) (n : Nat) (c : Nat) : List Value := [.slice A n c, zz, .slice none 0 0, .int .i64 1, zz, zz, .slice A n c, .int .i64 ((n : Nat) : Int), .bool false, zz, zz, zz, zz, zz, zz, zz]
def cq_b16 (A : Option Addr) (n : Nat) (c : Nat) : List Value := (cq_l15 A n c) ++ (cq_l1 ++ (cq_l1 ++ (cq_l2)))
def cq_l17 (A : Option Addr) (n : Nat) (c : Nat) (z4 : Nat → Value) (p : Nat) : List Value := [.slice A n c, zz, z4 2, .int .i64 ((p + 1 : Nat) : Int), z4 4, z4 5, .slice A n c, .int .i64 ((n : Nat) : Int), .bool false, zz, .int .i64 ((p + 1 : Nat) : Int), .slice A n c, .int .i64 ((n : Nat) : Int), .bool true, z4 14, z4 15]
def cq_l18 (A : Option Addr) (n : Nat) (c : Nat) (ks0 : List P3) (z4 : Nat → Value) (p : Nat) (g : Nat) : List Value := [.slice A n c, .int .i64 ((p + 1 : Nat) : Int), .pointer (some ⟨g, 0 + (p + 1) * 3, none⟩), .agg #[.int .i64 ((ks0[p + 1]!).1), .int .i64 ((ks0[p + 1]!).2.1), .int .i64 ((ks0[p + 1]!).2.2)], .slice A n c, .int .i64 ((p + 1 : Nat) : Int), .int .i64 ((p : Nat) : Int), .pointer (some ⟨g, 0 + p * 3, none⟩), .agg #[.int .i64 ((ks0[p]!).1), .int .i64 ((ks0[p]!).2.1), .int .i64 ((ks0[p]!).2.2)], .bool true, z4 26, z4 27, z4 28, z4 29, z4 30, z4 31]
def cq_b19 (A : Option Addr) (n : Nat) (c : Nat) (ks0 : List P3) (z4 : Nat → Value) (p : Nat) (g : Nat) : List Value := (cq_l17 A n c z4 p) ++ ((cq_l18 A n c ks0 z4 p g) ++ ((cq_l6 z4) ++ ((cq_l7 z4))))
def cq_l20 (A : Option Addr) (n : Nat) (c : Nat) (z4 : Nat → Value) (p : Nat) (q : Nat) (k : Nat) : List Value := [.slice A n c, zz, z4 2, .int .i64 ((k : Nat) : Int), .slice (cutp A (p + 1) c 3) (n - (p + 1)) (c - (p + 1)), .int .i64 ((q + 1 : Nat) : Int), .slice A n c, .int .i64 ((n : Nat) : Int), .bool false, zz, .int .i64 ((p + 1 : Nat) : Int), .slice A n c, .int .i64 ((n : Nat) : Int), .bool true, z4 14, z4 15]
def cq_l21 (A : Option Addr) (n : Nat) (c : Nat) (ks0 : List P3) (p : Nat) (g : Nat) (z9 : Nat → Value) : List Value := [.slice A n c, .int .i64 ((p + 1 : Nat) : Int), .pointer (some ⟨g, 0 + (p + 1) * 3, none⟩), .agg #[.int .i64 ((ks0[p + 1]!).1), .int .i64 ((ks0[p + 1]!).2.1), .int .i64 ((ks0[p + 1]!).2.2)], .slice A n c, .int .i64 ((p + 1 : Nat) : Int), .int .i64 ((p : Nat) : Int), .pointer (some ⟨g, 0 + p * 3, none⟩), .agg #[.int .i64 ((ks0[p]!).1), .int .i64 ((ks0[p]!).2.1), .int .i64 ((ks0[p]!).2.2)], .bool true, .slice A n c, .int .i64 ((p + 1 : Nat) : Int), .slice (cutp A (p + 1) c 3) (n - (p + 1)) (c - (p + 1)), z9 29, z9 30, z9 31]
def cq_l22 (z9 : Nat → Value) : List Value := [z9 32, z9 33, z9 34, z9 35, z9 36, z9 37, z9 38, z9 39, z9 40, z9 41, z9 42, z9 43, z9 44, z9 45, z9 46, z9 47]
def cq_l23 (z4 : Nat → Value) (z9 : Nat → Value) : List Value := [z9 48, z9 49, z9 50, z9 51, z9 52, z9 53, z4 54, z4 55, z4 56, z4 57, z4 58, z4 59, zz]
def cq_b24 (A : Option Addr) (n : Nat) (c : Nat) (ks0 : List P3) (z4 : Nat → Value) (p : Nat) (g : Nat) (z9 : Nat → Value) (q : Nat) (k : Nat) : List Value := (cq_l20 A n c z4 p q k) ++ ((cq_l21 A n c ks0 p g z9) ++ ((cq_l22 z9) ++ ((cq_l23 z4 z9))))
abbrev cq_9X := (Nat → Value) × Nat × Nat × (List P3)
def cq_9s (A : Option Addr) (n : Nat) (c : Nat) (ks0 : List P3) (z4 : Nat → Value) (p : Nat) (g : Nat) (x : cq_9X) : List Value × List Blk := ((cq_b24 A n c ks0 z4 p g (x.1) (x.2.1) (x.2.2.1)), [])
def cq_9k (A : Option Addr) (n : Nat) (c : Nat) (ks0 : List P3) (z4 : Nat → Value) (p : Nat) (g : Nat) (x : cq_9X) : Prop := CI ks0 (x.2.2.2) (p + 1) ((x.2.1) + 1) (x.2.2.1) ∧ (x.2.2.2).length = n
def cq_9m (A : Option Addr) (n : Nat) (c : Nat) (ks0 : List P3) (z4 : Nat → Value) (p : Nat) (g : Nat) (x : cq_9X) : Nat := n - (x.2.1)
def cq_9F (A : Option Addr) (n : Nat) (c : Nat) (ks0 : List P3) (z4 : Nat → Value) (p : Nat) (g : Nat) (w : World) (x : cq_9X) : List Asrt := [rowA 71 3 (.slice A n c) n ((x.2.2.2).flatMap encT71), oldX w (.slice A n c)]
abbrev cq_9I (A : Option Addr) (n : Nat) (c : Nat) (ks0 : List P3) (z4 : Nat → Value) (p : Nat) (g : Nat) (w : World) (x : cq_9X) : Act → World → Prop := Inv (cq_9s A n c ks0 z4 p g) (cq_9F A n c ks0 z4 p g w) (cq_9k A n c ks0 z4 p g) (cq_9m A n c ks0 z4 p g) x
def cq_l31 (A : Option Addr) (n : Nat) (c : Nat) (z4 : Nat → Value) (p : Nat) : List Value := [.slice A n c, zz, z4 2, .int .i64 ((p + 1 : Nat) : Int), .slice (cutp A (p + 1) c 3) (n - (p + 1)) (c - (p + 1)), .int .i64 1, .slice A n c, .int .i64 ((n : Nat) : Int), .bool false, zz, .int .i64 ((p + 1 : Nat) : Int), .slice A n c, .int .i64 ((n : Nat) : Int), .bool true, z4 14, z4 15]
def cq_l32 (A : Option Addr) (n : Nat) (c : Nat) (ks0 : List P3) (z4 : Nat → Value) (p : Nat) (g : Nat) : List Value := [.slice A n c, .int .i64 ((p + 1 : Nat) : Int), .pointer (some ⟨g, 0 + (p + 1) * 3, none⟩), .agg #[.int .i64 ((ks0[p + 1]!).1), .int .i64 ((ks0[p + 1]!).2.1), .int .i64 ((ks0[p + 1]!).2.2)], .slice A n c, .int .i64 ((p + 1 : Nat) : Int), .int .i64 ((p : Nat) : Int), .pointer (some ⟨g, 0 + p * 3, none⟩), .agg #[.int .i64 ((ks0[p]!).1), .int .i64 ((ks0[p]!).2.1), .int .i64 ((ks0[p]!).2.2)], .bool true, .slice A n c, .int .i64 ((p + 1 : Nat) : Int), .slice (cutp A (p + 1) c 3) (n - (p + 1)) (c - (p + 1)), z4 29, z4 30, z4 31]
def cq_b33 (A : Option Addr) (n : Nat) (c : Nat) (ks0 : List P3) (z4 : Nat → Value) (p : Nat) (g : Nat) : List Value := (cq_l31 A n c z4 p) ++ ((cq_l32 A n c ks0 z4 p g) ++ ((cq_l6 z4) ++ ((cq_l7 z4))))
def cq_l34 (A : Option Addr) (n : Nat) (c : Nat) (ks0 : List P3) (p : Nat) (g : Nat) (q : Nat) : List Value := [.slice A n c, .int .i64 ((p + 1 : Nat) : Int), .pointer (some ⟨g, 0 + (p + 1) * 3, none⟩), .agg #[.int .i64 ((ks0[p + 1]!).1), .int .i64 ((ks0[p + 1]!).2.1), .int .i64 ((ks0[p + 1]!).2.2)], .slice A n c, .int .i64 ((p + 1 : Nat) : Int), .int .i64 ((p : Nat) : Int), .pointer (some ⟨g, 0 + p * 3, none⟩), .agg #[.int .i64 ((ks0[p]!).1), .int .i64 ((ks0[p]!).2.1), .int .i64 ((ks0[p]!).2.2)], .bool true, .slice A n c, .int .i64 ((p + 1 : Nat) : Int), .slice (cutp A (p + 1) c 3) (n - (p + 1)) (c - (p + 1)), .int .i64 ((q + 1 : Nat) : Int), .slice (cutp A (p + 1) c 3) (n - (p + 1)) (c - (p + 1)), .int .i64 (((n - (p + 1)) : Nat) : Int)]
def cq_l35 (A : Option Addr) (n : Nat) (c : Nat) (p : Nat) (g : Nat) (z9 : Nat → Value) (q : Nat) (ks : List P3) : List Value := [.bool true, z9 33, z9 34, .slice (cutp A (p + 1) c 3) (n - (p + 1)) (c - (p + 1)), .int .i64 ((q + 1 : Nat) : Int), .pointer (some ⟨g, 0 + (p + 1) * 3 + (q + 1) * 3, none⟩), .agg #[.int .i64 (((ks.drop (p + 1))[q + 1]!).1), .int .i64 (((ks.drop (p + 1))[q + 1]!).2.1), .int .i64 (((ks.drop (p + 1))[q + 1]!).2.2)], .slice (cutp A (p + 1) c 3) (n - (p + 1)) (c - (p + 1)), .int .i64 ((q + 1 : Nat) : Int), .int .i64 ((q : Nat) : Int), .pointer (some ⟨g, 0 + (p + 1) * 3 + q * 3, none⟩), .agg #[.int .i64 (((ks.drop (p + 1))[q]!).1), .int .i64 (((ks.drop (p + 1))[q]!).2.1), .int .i64 (((ks.drop (p + 1))[q]!).2.2)], .bool false, z9 45, z9 46, z9 47]
def cq_b36 (A : Option Addr) (n : Nat) (c : Nat) (ks0 : List P3) (z4 : Nat → Value) (p : Nat) (g : Nat) (z9 : Nat → Value) (q : Nat) (k : Nat) (ks : List P3) : List Value := (cq_l20 A n c z4 p q k) ++ ((cq_l34 A n c ks0 p g q) ++ ((cq_l35 A n c p g z9 q ks) ++ ((cq_l23 z4 z9))))
def cq_l37 (A : Option Addr) (n : Nat) (c : Nat) (p : Nat) (g : Nat) (z9 : Nat → Value) (q : Nat) (ks : List P3) : List Value := [.bool true, z9 33, z9 34, .slice (cutp A (p + 1) c 3) (n - (p + 1)) (c - (p + 1)), .int .i64 ((q + 1 : Nat) : Int), .pointer (some ⟨g, 0 + (p + 1) * 3 + (q + 1) * 3, none⟩), .agg #[.int .i64 (((ks.drop (p + 1))[q + 1]!).1), .int .i64 (((ks.drop (p + 1))[q + 1]!).2.1), .int .i64 (((ks.drop (p + 1))[q + 1]!).2.2)], .slice (cutp A (p + 1) c 3) (n - (p + 1)) (c - (p + 1)), .int .i64 ((q + 1 : Nat) : Int), .int .i64 ((q : Nat) : Int), .pointer (some ⟨g, 0 + (p + 1) * 3 + q * 3, none⟩), .agg #[.int .i64 (((ks.drop (p + 1))[q]!).1), .int .i64 (((ks.drop (p + 1))[q]!).2.1), .int .i64 (((ks.drop (p + 1))[q]!).2.2)], .bool true, z9 45, z9 46, z9 47]
def cq_b38 (A : Option Addr) (n : Nat) (c : Nat) (ks0 : List P3) (z4 : Nat → Value) (p : Nat) (g : Nat) (z9 : Nat → Value) (q : Nat) (k : Nat) (ks : List P3) : List Value := (cq_l20 A n c z4 p q k) ++ ((cq_l34 A n c ks0 p g q) ++ ((cq_l37 A n c p g z9 q ks) ++ ((cq_l23 z4 z9))))
def cq_l39 (A : Option Addr) (n : Nat) (c : Nat) (z4 : Nat → Value) (p : Nat) (q : Nat) (k : Nat) : List Value := [.slice A n c, zz, z4 2, .int .i64 ((k + 1 : Nat) : Int), .slice (cutp A (p + 1) c 3) (n - (p + 1)) (c - (p + 1)), .int .i64 ((q + 1 + 1 : Nat) : Int), .slice A n c, .int .i64 ((n : Nat) : Int), .bool false, zz, .int .i64 ((p + 1 : Nat) : Int), .slice A n c, .int .i64 ((n : Nat) : Int), .bool true, z4 14, z4 15]
def cq_l40 (A : Option Addr) (n : Nat) (c : Nat) (p : Nat) (g : Nat) (q : Nat) (k : Nat) (ks : List P3) : List Value := [.bool true, .int .i64 ((q + 1 : Nat) : Int), .int .i64 ((q + 1 + 1 : Nat) : Int), .slice (cutp A (p + 1) c 3) (n - (p + 1)) (c - (p + 1)), .int .i64 ((q + 1 : Nat) : Int), .pointer (some ⟨g, 0 + (p + 1) * 3 + (q + 1) * 3, none⟩), .agg #[.int .i64 (((ks.drop (p + 1))[q + 1]!).1), .int .i64 (((ks.drop (p + 1))[q + 1]!).2.1), .int .i64 (((ks.drop (p + 1))[q + 1]!).2.2)], .slice (cutp A (p + 1) c 3) (n - (p + 1)) (c - (p + 1)), .int .i64 ((q + 1 : Nat) : Int), .int .i64 ((q : Nat) : Int), .pointer (some ⟨g, 0 + (p + 1) * 3 + q * 3, none⟩), .agg #[.int .i64 (((ks.drop (p + 1))[q]!).1), .int .i64 (((ks.drop (p + 1))[q]!).2.1), .int .i64 (((ks.drop (p + 1))[q]!).2.2)], .bool true, .slice A n c, .int .i64 ((k : Nat) : Int), .slice (cutp A (p + 1) c 3) (n - (p + 1)) (c - (p + 1))]
def cq_l41 (z4 : Nat → Value) (p : Nat) (g : Nat) (q : Nat) (k : Nat) (ks : List P3) : List Value := [.int .i64 ((q + 1 : Nat) : Int), .pointer (some ⟨g, 0 + (p + 1) * 3 + (q + 1) * 3, none⟩), .agg #[.int .i64 (((ks.drop (p + 1))[q + 1]!).1), .int .i64 (((ks.drop (p + 1))[q + 1]!).2.1), .int .i64 (((ks.drop (p + 1))[q + 1]!).2.2)], .pointer (some ⟨g, 0 + k * 3, none⟩), .int .i64 ((k : Nat) : Int), .int .i64 ((k + 1 : Nat) : Int), z4 54, z4 55, z4 56, z4 57, z4 58, z4 59, zz]
def cq_b42 (A : Option Addr) (n : Nat) (c : Nat) (ks0 : List P3) (z4 : Nat → Value) (p : Nat) (g : Nat) (q : Nat) (k : Nat) (ks : List P3) : List Value := (cq_l39 A n c z4 p q k) ++ ((cq_l34 A n c ks0 p g q) ++ ((cq_l40 A n c p g q k ks) ++ ((cq_l41 z4 p g q k ks))))
def cq_l43 (A : Option Addr) (n : Nat) (c : Nat) (ks0 : List P3) (z4 : Nat → Value) (p : Nat) (g : Nat) : List Value := [.slice A n c, .int .i64 ((p + 1 : Nat) : Int), .pointer (some ⟨g, 0 + (p + 1) * 3, none⟩), .agg #[.int .i64 ((ks0[p + 1]!).1), .int .i64 ((ks0[p + 1]!).2.1), .int .i64 ((ks0[p + 1]!).2.2)], .slice A n c, .int .i64 ((p + 1 : Nat) : Int), .int .i64 ((p : Nat) : Int), .pointer (some ⟨g, 0 + p * 3, none⟩), .agg #[.int .i64 ((ks0[p]!).1), .int .i64 ((ks0[p]!).2.1), .int .i64 ((ks0[p]!).2.2)], .bool false, z4 26, z4 27, z4 28, z4 29, z4 30, z4 31]
def cq_b44 (A : Option Addr) (n : Nat) (c : Nat) (ks0 : List P3) (z4 : Nat → Value) (p : Nat) (g : Nat) : List Value := (cq_l17 A n c z4 p) ++ ((cq_l43 A n c ks0 z4 p g) ++ ((cq_l6 z4) ++ ((cq_l7 z4))))
set_option maxHeartbeats 8000000 in
set_option maxRecDepth 100000 in
theorem compact_is {w : World} {A : Option Addr} {n c : Nat} {ks0 : List P3} (hlen : ks0.length = n) (hn : n ≤ 1000) (hown : ownR w 71 3 (.slice A n c) n (ks0.flatMap encT71)) : Calls Try.prog 40 #[.slice A n c] w fun e w' => ∃ x : Unit, e = .returned (.slice A (ddup ks0).length c) ∧ Turned (.slice A n c) w w' ∧ ownR w' 71 3 (.slice A n c) n ((cpd ks0).flatMap encT71) := by
  refine enterX (args := [.slice A n c]) (fn := Try.f40) rfl (c := bdy Try.f40) (by kernel_rfl) hown ?_
  refine ck 1 [] [] fun γ1 => ⟨⟨kt (bdy Try.f40) [1, 0, 0, 0] [], (cq_b3 A n c), []⟩, [], [], by kernel_rfl, .nil, ?_⟩
  by_cases h2 : n < 2
  · skip
    refine ck 5 [] [(2, .bool true)] fun γ2 => ⟨⟨kt (bdy Try.f40) [1, 0, 1, 0, 1] [], upv (cq_b3 A n c) [(2, .slice A n c), (6, .slice A n c), (7, .int .i64 ((n : Nat) : Int)), (8, .bool true), (9, .slice A n c)], []⟩, [], [Value.bool (decide ((((n : Nat) : Int) : Int) < 2)) = .bool true], by kernel_rfl, (.cons (cbT (by omega)) .nil), ?_⟩
    refine rt (.slice A n c) [] [] (fun W hW => ?_)
    have hid : ddup ks0 = ks0 := ddup_short (by omega)
    have hrow := hW.at 0 rfl
    exact ⟨(), by rw [hid, hlen], hW.at 1 rfl, by rw [cpd_id hid]; exact hrow⟩
  · skip
    refine ck 4 [] [(2, .bool false)] fun γ3 => ⟨⟨kt (bdy Try.f40) [1, 1, 0, 1, 0] [], upv (cq_b3 A n c) [(3, .int .i64 1), (6, .slice A n c), (7, .int .i64 ((n : Nat) : Int)), (8, .bool false)], []⟩, [], [Value.bool (decide ((((n : Nat) : Int) : Int) < 2)) = .bool false], by kernel_rfl, (.cons (cbF (by omega)) .nil), ?_⟩
    refine lp (cq_4s A n c ks0) (cq_4F A n c ks0 w) (cq_4k A n c ks0) (cq_4m A n c ks0) ((fun mm => ((cq_b16 A n c)).getD mm zz, 0)) (kt (bdy Try.f40) [1, 1, 0, 1, 0] []) ⟨co_start ks0, by omega⟩ rfl ?_
    rintro ⟨z4, p⟩ hok
    obtain ⟨hdd, hpn⟩ : ddup (ks0.take (p + 1)) = ks0.take (p + 1) ∧ p + 1 ≤ n := hok
    refine st1 (ktl [] (cq_4I A n c ks0 w (z4, p)) (kt (bdy Try.f40) [1, 1, 0, 1, 0] [])) ((cq_b8 A n c z4 p)) [] ?_
    by_cases hin : p + 1 < n
    · skip
      refine shp 0 rfl fun A' c' e' hc' hz' hl' => ?_
      cases e'
      obtain ⟨g, hg⟩ := hz'.resolve_left (by omega)
      clear hl'
      refine ck 4 [] [(3, .bool true)] fun γ5 => ⟨⟨ktl [1, 0, 0, 0] (cq_4I A n c ks0 w (z4, p)) (kt (bdy Try.f40) [1, 1, 0, 1, 0] []), upv (cq_b8 A n c z4 p) [(10, .int .i64 ((p + 1 : Nat) : Int)), (11, .slice A n c), (12, .int .i64 ((n : Nat) : Int)), (13, .bool true)], []⟩, [], [Value.bool (decide ((((p + 1 : Nat) : Int) : Int) < ((n : Nat) : Int))) = .bool true], by kernel_rfl, (.cons (cbT (by omega)) .nil), ?_⟩
      by_cases heq : ks0[p + 1]! = ks0[p]!
      · skip
        refine dr [] [] .nil ?_
        refine df [0, 1, 4, 5, 6] [] [(6, .int .i64 ((p : Nat) : Int))] [] [Value.int .i64 (IntKind.wrap .i64 (((p + 1 : Nat) : Int) - 1)) = .int .i64 ((p : Nat) : Int)] (.cons (congrArg (Value.int .i64) (by rw [IntKind.wrap_i64]; omega)) .nil) ?_
        refine dixr 2 (n := n) (sz := 3) (j := ((p + 1 : Nat) : Int)) hg (p + 1) (by omega) ?_
        refine dldr 3 (n := 3) (row := true) [.int .i64 ((ks0[p + 1]!).1), .int .i64 ((ks0[p + 1]!).2.1), .int .i64 ((ks0[p + 1]!).2.2)] (fun W hW => ((Rd.atE (own_rdn encT71_len (l := ks0) (by first | omega | (simp only [List.length_set]; omega) | simp) (hW.at 0 rfl)) hg (by omega))).ld (i := p + 1) (by omega) 0 [.int .i64 ((ks0[p + 1]!).1), .int .i64 ((ks0[p + 1]!).2.1), .int .i64 ((ks0[p + 1]!).2.2)] rfl) ?_
        refine dixr 7 (n := n) (sz := 3) (j := ((p : Nat) : Int)) hg p (by omega) ?_
        refine dldr 8 (n := 3) (row := true) [.int .i64 ((ks0[p]!).1), .int .i64 ((ks0[p]!).2.1), .int .i64 ((ks0[p]!).2.2)] (fun W hW => ((Rd.atE (own_rdn encT71_len (l := ks0) (by first | omega | (simp only [List.length_set]; omega) | simp) (hW.at 0 rfl)) hg (by omega))).ld (i := p) (by omega) 0 [.int .i64 ((ks0[p]!).1), .int .i64 ((ks0[p]!).2.1), .int .i64 ((ks0[p]!).2.2)] rfl) ?_
        refine deqr 9 (pos := true) (r := true) true (fun W => (eq71 ((ks0[p + 1]!).1) ((ks0[p + 1]!).2.1) ((ks0[p + 1]!).2.2) ((ks0[p]!).1) ((ks0[p]!).2.1) ((ks0[p]!).2.2) W).trans (by rw [decide_eq_true (by rw [heq]; exact ⟨rfl, rfl, rfl⟩)])) rfl ?_
        refine de (fs := (ktl [1, 0, 0, 0] (cq_4I A n c ks0 w (z4, p)) (kt (bdy Try.f40) [1, 1, 0, 1, 0] [])).tail) ?_
        refine st0 (fs := (ktl [1, 0, 0, 0] (cq_4I A n c ks0 w (z4, p)) (kt (bdy Try.f40) [1, 1, 0, 1, 0] [])).tail) ((cq_b19 A n c ks0 z4 p g)) [] ?_
        refine ck 2 [] [] fun γ6 => ⟨⟨ktl [1, 0, 0, 1, 0, 0, 2] (cq_4I A n c ks0 w (z4, p)) (kt (bdy Try.f40) [1, 1, 0, 1, 0] []), upv (cq_b19 A n c ks0 z4 p g) [(26, .slice A n c), (27, .int .i64 ((p + 1 : Nat) : Int))], []⟩, [], [], by kernel_rfl, .nil, ?_⟩
        refine shp 0 rfl fun A' c' e' hc' hz' hl' => ?_
        cases e'
        have hcp7 : n ≤ c := hc'
        clear hl' hz'
        refine sl (A := A) (n := n) (c := c) (sz := 3) (some (.int .i64 ((p + 1 : Nat) : Int))) none none (p + 1) n c rfl rfl rfl rfl (by omega) (by omega) (by omega) ?_
        refine ck 2 [] [] fun γ8 => ⟨⟨ktl [1, 0, 0, 1, 0, 1, 0, 1, 0] (cq_4I A n c ks0 w (z4, p)) (kt (bdy Try.f40) [1, 1, 0, 1, 0] []), upv (cq_b19 A n c ks0 z4 p g) [(4, .slice (cutp A (p + 1) c 3) (n - (p + 1)) (c - (p + 1))), (5, .int .i64 1), (26, .slice A n c), (27, .int .i64 ((p + 1 : Nat) : Int)), (28, .slice (cutp A (p + 1) c 3) (n - (p + 1)) (c - (p + 1)))], []⟩, [], [], by kernel_rfl, .nil, ?_⟩
        refine lp (cq_9s A n c ks0 z4 p g) (cq_9F A n c ks0 z4 p g w) (cq_9k A n c ks0 z4 p g) (cq_9m A n c ks0 z4 p g) ((fun mm => ((cq_b33 A n c ks0 z4 p g)).getD mm zz, 0, (p + 1), ks0)) (ktl [1, 0, 0, 1, 0, 1, 0, 1, 0] (cq_4I A n c ks0 w (z4, p)) (kt (bdy Try.f40) [1, 1, 0, 1, 0] [])) ⟨ci_start hdd (by omega) heq, hlen⟩ rfl ?_
        rintro ⟨z9, q, k, ks⟩ hok
        obtain ⟨hI, hkl⟩ : CI ks0 ks (p + 1) (q + 1) k ∧ ks.length = n := hok
        refine st1 (ktl [] (cq_9I A n c ks0 z4 p g w (z9, q, k, ks)) (ktl [1, 0, 0, 1, 0, 1, 0, 1, 0] (cq_4I A n c ks0 w (z4, p)) (kt (bdy Try.f40) [1, 1, 0, 1, 0] []))) ((cq_b24 A n c ks0 z4 p g z9 q k)) [] ?_
        have hI1 := hI.lt
        have hI2 := hI.le
        have hcut : cutp A (p + 1) c 3 = some ⟨g, 0 + (p + 1) * 3, none⟩ := by
          rw [hg]
          unfold cutp
          rw [if_neg (by omega)]
          simp [Addr.add_at]
        by_cases hin2 : q + 1 < n - (p + 1)
        · skip
          refine ck 4 [] [(3, .bool true)] fun γ10 => ⟨⟨ktl [1, 0, 0, 0] (cq_9I A n c ks0 z4 p g w (z9, q, k, ks)) (ktl [1, 0, 0, 1, 0, 1, 0, 1, 0] (cq_4I A n c ks0 w (z4, p)) (kt (bdy Try.f40) [1, 1, 0, 1, 0] [])), upv (cq_b24 A n c ks0 z4 p g z9 q k) [(29, .int .i64 ((q + 1 : Nat) : Int)), (30, .slice (cutp A (p + 1) c 3) (n - (p + 1)) (c - (p + 1))), (31, .int .i64 (((n - (p + 1)) : Nat) : Int)), (32, .bool true)], []⟩, [], [Value.bool (decide ((((q + 1 : Nat) : Int) : Int) < (((n - (p + 1)) : Nat) : Int))) = .bool true], by kernel_rfl, (.cons (cbT (by omega)) .nil), ?_⟩
          by_cases he2 : (ks.drop (p + 1))[q + 1]! = (ks.drop (p + 1))[q]!
          · skip
            refine dr [] [] .nil ?_
            refine df [0, 1, 4, 5, 6] [] [(6, .int .i64 ((q : Nat) : Int))] [] [Value.int .i64 (IntKind.wrap .i64 (((q + 1 : Nat) : Int) - 1)) = .int .i64 ((q : Nat) : Int)] (.cons (congrArg (Value.int .i64) (by rw [IntKind.wrap_i64]; omega)) .nil) ?_
            refine dixr 2 (n := (n - (p + 1))) (sz := 3) (j := ((q + 1 : Nat) : Int)) hcut (q + 1) (by omega) ?_
            refine dldr 3 (n := 3) (row := true) [.int .i64 (((ks.drop (p + 1))[q + 1]!).1), .int .i64 (((ks.drop (p + 1))[q + 1]!).2.1), .int .i64 (((ks.drop (p + 1))[q + 1]!).2.2)] (fun W hW => (((Rd.atE (own_rdn encT71_len (l := ks) (by first | omega | (simp only [List.length_set]; omega) | simp) (hW.at 0 rfl)) hg (by omega)).drop (p + 1))).ld (i := q + 1) (by rw [List.length_drop]; omega) 0 [.int .i64 (((ks.drop (p + 1))[q + 1]!).1), .int .i64 (((ks.drop (p + 1))[q + 1]!).2.1), .int .i64 (((ks.drop (p + 1))[q + 1]!).2.2)] rfl) ?_
            refine dixr 7 (n := (n - (p + 1))) (sz := 3) (j := ((q : Nat) : Int)) hcut q (by omega) ?_
            refine dldr 8 (n := 3) (row := true) [.int .i64 (((ks.drop (p + 1))[q]!).1), .int .i64 (((ks.drop (p + 1))[q]!).2.1), .int .i64 (((ks.drop (p + 1))[q]!).2.2)] (fun W hW => (((Rd.atE (own_rdn encT71_len (l := ks) (by first | omega | (simp only [List.length_set]; omega) | simp) (hW.at 0 rfl)) hg (by omega)).drop (p + 1))).ld (i := q) (by rw [List.length_drop]; omega) 0 [.int .i64 (((ks.drop (p + 1))[q]!).1), .int .i64 (((ks.drop (p + 1))[q]!).2.1), .int .i64 (((ks.drop (p + 1))[q]!).2.2)] rfl) ?_
            refine deqr 9 (pos := false) (r := true) false (fun W => (eq71 (((ks.drop (p + 1))[q + 1]!).1) (((ks.drop (p + 1))[q + 1]!).2.1) (((ks.drop (p + 1))[q + 1]!).2.2) (((ks.drop (p + 1))[q]!).1) (((ks.drop (p + 1))[q]!).2.1) (((ks.drop (p + 1))[q]!).2.2) W).trans (by rw [decide_eq_true (by rw [he2]; exact ⟨rfl, rfl, rfl⟩)])) rfl ?_
            refine de (fs := (ktl [1, 0, 0, 0] (cq_9I A n c ks0 z4 p g w (z9, q, k, ks)) (ktl [1, 0, 0, 1, 0, 1, 0, 1, 0] (cq_4I A n c ks0 w (z4, p)) (kt (bdy Try.f40) [1, 1, 0, 1, 0] []))).tail) ?_
            refine st0 (fs := (ktl [1, 0, 0, 0] (cq_9I A n c ks0 z4 p g w (z9, q, k, ks)) (ktl [1, 0, 0, 1, 0, 1, 0, 1, 0] (cq_4I A n c ks0 w (z4, p)) (kt (bdy Try.f40) [1, 1, 0, 1, 0] []))).tail) ((cq_b36 A n c ks0 z4 p g z9 q k ks)) [] ?_
            refine ck 3 [] [(1, .int .i64 ((q + 1 + 1 : Nat) : Int))] fun γ11 => ⟨⟨ktp (cq_9I A n c ks0 z4 p g w (z9, q, k, ks)) (ktl [1, 0, 0, 1, 0, 1, 0, 1, 0] (cq_4I A n c ks0 w (z4, p)) (kt (bdy Try.f40) [1, 1, 0, 1, 0] [])), upv (cq_b36 A n c ks0 z4 p g z9 q k ks) [(5, .int .i64 ((q + 1 + 1 : Nat) : Int)), (33, .int .i64 ((q + 1 : Nat) : Int)), (34, .int .i64 ((q + 1 + 1 : Nat) : Int))], []⟩, [], [Value.int .i64 (IntKind.wrap .i64 (((q + 1 : Nat) : Int) + 1)) = .int .i64 ((q + 1 + 1 : Nat) : Int)], by kernel_rfl, (.cons (congrArg (Value.int .i64) (by rw [IntKind.wrap_i64]; omega)) .nil), ?_⟩
            exact nx (st := cq_9s A n c ks0 z4 p g) (F' := cq_9F A n c ks0 z4 p g w) (ok := cq_9k A n c ks0 z4 p g) (μ := cq_9m A n c ks0 z4 p g) (x := (z9, q, k, ks)) (fun mm => (upv (cq_b36 A n c ks0 z4 p g z9 q k ks) [(5, .int .i64 ((q + 1 + 1 : Nat) : Int)), (33, .int .i64 ((q + 1 : Nat) : Int)), (34, .int .i64 ((q + 1 + 1 : Nat) : Int))]).getD mm zz, (q + 1), k, ks) (show CI ks0 ks (p + 1) ((q + 1) + 1) k ∧ ks.length = n from ⟨hI.eq (by omega) he2, hkl⟩) (by show _ < _; simp only [cq_9m]; omega) 0 0 rfl
          · skip
            refine dr [] [] .nil ?_
            refine df [0, 1, 4, 5, 6] [] [(6, .int .i64 ((q : Nat) : Int))] [] [Value.int .i64 (IntKind.wrap .i64 (((q + 1 : Nat) : Int) - 1)) = .int .i64 ((q : Nat) : Int)] (.cons (congrArg (Value.int .i64) (by rw [IntKind.wrap_i64]; omega)) .nil) ?_
            refine dixr 2 (n := (n - (p + 1))) (sz := 3) (j := ((q + 1 : Nat) : Int)) hcut (q + 1) (by omega) ?_
            refine dldr 3 (n := 3) (row := true) [.int .i64 (((ks.drop (p + 1))[q + 1]!).1), .int .i64 (((ks.drop (p + 1))[q + 1]!).2.1), .int .i64 (((ks.drop (p + 1))[q + 1]!).2.2)] (fun W hW => (((Rd.atE (own_rdn encT71_len (l := ks) (by first | omega | (simp only [List.length_set]; omega) | simp) (hW.at 0 rfl)) hg (by omega)).drop (p + 1))).ld (i := q + 1) (by rw [List.length_drop]; omega) 0 [.int .i64 (((ks.drop (p + 1))[q + 1]!).1), .int .i64 (((ks.drop (p + 1))[q + 1]!).2.1), .int .i64 (((ks.drop (p + 1))[q + 1]!).2.2)] rfl) ?_
            refine dixr 7 (n := (n - (p + 1))) (sz := 3) (j := ((q : Nat) : Int)) hcut q (by omega) ?_
            refine dldr 8 (n := 3) (row := true) [.int .i64 (((ks.drop (p + 1))[q]!).1), .int .i64 (((ks.drop (p + 1))[q]!).2.1), .int .i64 (((ks.drop (p + 1))[q]!).2.2)] (fun W hW => (((Rd.atE (own_rdn encT71_len (l := ks) (by first | omega | (simp only [List.length_set]; omega) | simp) (hW.at 0 rfl)) hg (by omega)).drop (p + 1))).ld (i := q) (by rw [List.length_drop]; omega) 0 [.int .i64 (((ks.drop (p + 1))[q]!).1), .int .i64 (((ks.drop (p + 1))[q]!).2.1), .int .i64 (((ks.drop (p + 1))[q]!).2.2)] rfl) ?_
            refine deqr 9 (pos := false) (r := false) true (fun W => (eq71 (((ks.drop (p + 1))[q + 1]!).1) (((ks.drop (p + 1))[q + 1]!).2.1) (((ks.drop (p + 1))[q + 1]!).2.2) (((ks.drop (p + 1))[q]!).1) (((ks.drop (p + 1))[q]!).2.1) (((ks.drop (p + 1))[q]!).2.2) W).trans (by rw [decide_eq_false (fun h9 => he2 (Prod.ext h9.1 (Prod.ext h9.2.1 h9.2.2)))])) rfl ?_
            refine de (fs := (ktl [1, 0, 0, 0] (cq_9I A n c ks0 z4 p g w (z9, q, k, ks)) (ktl [1, 0, 0, 1, 0, 1, 0, 1, 0] (cq_4I A n c ks0 w (z4, p)) (kt (bdy Try.f40) [1, 1, 0, 1, 0] []))).tail) ?_
            refine st0 (fs := (ktl [1, 0, 0, 0] (cq_9I A n c ks0 z4 p g w (z9, q, k, ks)) (ktl [1, 0, 0, 1, 0, 1, 0, 1, 0] (cq_4I A n c ks0 w (z4, p)) (kt (bdy Try.f40) [1, 1, 0, 1, 0] []))).tail) ((cq_b38 A n c ks0 z4 p g z9 q k ks)) [] ?_
            refine ck 4 [] [] fun γ12 => ⟨⟨ktl [1, 0, 0, 1, 0, 0, 4] (cq_9I A n c ks0 z4 p g w (z9, q, k, ks)) (ktl [1, 0, 0, 1, 0, 1, 0, 1, 0] (cq_4I A n c ks0 w (z4, p)) (kt (bdy Try.f40) [1, 1, 0, 1, 0] [])), upv (cq_b38 A n c ks0 z4 p g z9 q k ks) [(45, .slice A n c), (46, .int .i64 ((k : Nat) : Int)), (47, .slice (cutp A (p + 1) c 3) (n - (p + 1)) (c - (p + 1))), (48, .int .i64 ((q + 1 : Nat) : Int))], []⟩, [], [], by kernel_rfl, .nil, ?_⟩
            refine ixr (n := (n - (p + 1))) (sz := 3) (j := ((q + 1 : Nat) : Int)) hcut (q + 1) (by omega) ?_
            refine ldr (n := 3) (row := true) [.int .i64 (((ks.drop (p + 1))[q + 1]!).1), .int .i64 (((ks.drop (p + 1))[q + 1]!).2.1), .int .i64 (((ks.drop (p + 1))[q + 1]!).2.2)] (fun W hW => (((Rd.atE (own_rdn encT71_len (l := ks) (by first | omega | (simp only [List.length_set]; omega) | simp) (hW.at 0 rfl)) hg (by omega)).drop (p + 1))).ld (i := q + 1) (by rw [List.length_drop]; omega) 0 [.int .i64 (((ks.drop (p + 1))[q + 1]!).1), .int .i64 (((ks.drop (p + 1))[q + 1]!).2.1), .int .i64 (((ks.drop (p + 1))[q + 1]!).2.2)] rfl) ?_
            refine ixr (n := n) (sz := 3) (j := ((k : Nat) : Int)) hg k (by omega) ?_
            refine sto 0 (off := 0 + k * 3) (xs := ks.flatMap encT71) (vs := [.int .i64 (((ks.drop (p + 1))[q + 1]!).1), .int .i64 (((ks.drop (p + 1))[q + 1]!).2.1), .int .i64 (((ks.drop (p + 1))[q + 1]!).2.2)]) hg rfl (by first | (simp only [List.length_cons, List.length_nil, flat_len encT71_len, List.length_set]; omega) | simp) ((ks.set k (((ks.drop (p + 1))[q + 1]!).1, ((ks.drop (p + 1))[q + 1]!).2.1, ((ks.drop (p + 1))[q + 1]!).2.2)).flatMap encT71) (by rw [Nat.zero_add]; exact flat_set encT71_len _ _ _ (by first | omega | simp)) ?_
            refine ck 6 [] [(1, .int .i64 ((k + 1 : Nat) : Int)), (4, .int .i64 ((q + 1 + 1 : Nat) : Int))] fun γ13 => ⟨⟨ktp (cq_9I A n c ks0 z4 p g w (z9, q, k, ks)) (ktl [1, 0, 0, 1, 0, 1, 0, 1, 0] (cq_4I A n c ks0 w (z4, p)) (kt (bdy Try.f40) [1, 1, 0, 1, 0] [])), (cq_b42 A n c ks0 z4 p g q k ks), []⟩, [], [Value.int .i64 (IntKind.wrap .i64 (((k : Nat) : Int) + 1)) = .int .i64 ((k + 1 : Nat) : Int), Value.int .i64 (IntKind.wrap .i64 (((q + 1 : Nat) : Int) + 1)) = .int .i64 ((q + 1 + 1 : Nat) : Int)], by kernel_rfl, (.cons (congrArg (Value.int .i64) (by rw [IntKind.wrap_i64]; omega)) (.cons (congrArg (Value.int .i64) (by rw [IntKind.wrap_i64]; omega)) .nil)), ?_⟩
            exact nx (st := cq_9s A n c ks0 z4 p g) (F' := cq_9F A n c ks0 z4 p g w) (ok := cq_9k A n c ks0 z4 p g) (μ := cq_9m A n c ks0 z4 p g) (x := (z9, q, k, ks)) (fun mm => ((cq_b42 A n c ks0 z4 p g q k ks)).getD mm zz, (q + 1), (k + 1), (ks.set k (((ks.drop (p + 1))[q + 1]!).1, ((ks.drop (p + 1))[q + 1]!).2.1, ((ks.drop (p + 1))[q + 1]!).2.2))) (show CI ks0 (ks.set k (((ks.drop (p + 1))[q + 1]!).1, ((ks.drop (p + 1))[q + 1]!).2.1, ((ks.drop (p + 1))[q + 1]!).2.2)) (p + 1) ((q + 1) + 1) (k + 1) ∧ (ks.set k (((ks.drop (p + 1))[q + 1]!).1, ((ks.drop (p + 1))[q + 1]!).2.1, ((ks.drop (p + 1))[q + 1]!).2.2)).length = n from ⟨hI.ne (by omega) he2, by simp only [List.length_set]; exact hkl⟩) (by show _ < _; simp only [cq_9m]; omega) 0 0 rfl
        · skip
          have hfin := hI.fin (by omega)
          have hkn : k < n := by have h9 := hfin.2.1; omega
          refine ck 6 [] [(3, .bool false)] fun γ14 => ⟨⟨ktl [1, 0, 0, 1, 0, 1, 1, 0, 2] (cq_4I A n c ks0 w (z4, p)) (kt (bdy Try.f40) [1, 1, 0, 1, 0] []), upv (cq_b24 A n c ks0 z4 p g z9 q k) [(29, .int .i64 ((q + 1 : Nat) : Int)), (30, .slice (cutp A (p + 1) c 3) (n - (p + 1)) (c - (p + 1))), (31, .int .i64 (((n - (p + 1)) : Nat) : Int)), (32, .bool false), (54, .slice A n c), (55, .int .i64 ((k : Nat) : Int))], []⟩, [], [Value.bool (decide ((((q + 1 : Nat) : Int) : Int) < (((n - (p + 1)) : Nat) : Int))) = .bool false], by kernel_rfl, (.cons (cbF (by omega)) .nil), ?_⟩
          refine sl (A := A) (n := n) (c := c) (sz := 3) (some (.int .i64 ((k : Nat) : Int))) none none k n c rfl rfl rfl rfl (by omega) (by omega) (by omega) ?_
          refine clr 0 (e := 71) (sz := 3) (n := n) (c := c) (A := A) (xs := ks.flatMap encT71) (z := [.int .i64 0, .int .i64 0, .int .i64 0]) k (n - k) rfl (by omega) (by omega) ((List.replicate (n - k) ((0, 0, 0) : P3)).flatMap encT71) (zeros_flat (enc := encT71) (0, 0, 0) _ rfl (by decide) (n - k)) (by rw [flat_len encT71_len, List.length_replicate]) ((cpd ks0).flatMap encT71) ?_ ?_ (h1 := zeros_cell (enc := encT71) encT71_cell _)
          · rw [← hfin.2.2, List.flatMap_append, flat_take encT71_len, hlen]
          refine ck 2 [] [] fun γ15 => ⟨⟨ktl [1, 0, 0, 1, 0, 1, 1, 1, 0, 2] (cq_4I A n c ks0 w (z4, p)) (kt (bdy Try.f40) [1, 1, 0, 1, 0] []), upv (cq_b24 A n c ks0 z4 p g z9 q k) [(29, .int .i64 ((q + 1 : Nat) : Int)), (30, .slice (cutp A (p + 1) c 3) (n - (p + 1)) (c - (p + 1))), (31, .int .i64 (((n - (p + 1)) : Nat) : Int)), (32, .bool false), (54, .slice A n c), (55, .int .i64 ((k : Nat) : Int)), (56, .slice (cutp A k c 3) (n - k) (c - k)), (57, .slice A n c), (58, .int .i64 ((k : Nat) : Int))], []⟩, [], [], by kernel_rfl, .nil, ?_⟩
          refine sl0 (A := A) (n := n) (c := c) (sz := 3) (some (.int .i64 ((k : Nat) : Int))) none k c rfl rfl rfl (by omega) (by omega) ?_ none rfl
          refine ck 1 [] [] fun γ16 => ⟨⟨ktl [1, 0, 0, 1, 0, 1, 1, 1, 1] (cq_4I A n c ks0 w (z4, p)) (kt (bdy Try.f40) [1, 1, 0, 1, 0] []), upv (cq_b24 A n c ks0 z4 p g z9 q k) [(2, .slice A k c), (29, .int .i64 ((q + 1 : Nat) : Int)), (30, .slice (cutp A (p + 1) c 3) (n - (p + 1)) (c - (p + 1))), (31, .int .i64 (((n - (p + 1)) : Nat) : Int)), (32, .bool false), (54, .slice A n c), (55, .int .i64 ((k : Nat) : Int)), (56, .slice (cutp A k c 3) (n - k) (c - k)), (57, .slice A n c), (58, .int .i64 ((k : Nat) : Int)), (59, .slice A k c)], []⟩, [], [], by kernel_rfl, .nil, ?_⟩
          refine rt (.slice A k c) [] [] (fun W hW => ?_)
          exact ⟨(), by rw [hfin.1], hW.at 1 rfl, hW.at 0 rfl⟩
      · skip
        refine dr [] [] .nil ?_
        refine df [0, 1, 4, 5, 6] [] [(6, .int .i64 ((p : Nat) : Int))] [] [Value.int .i64 (IntKind.wrap .i64 (((p + 1 : Nat) : Int) - 1)) = .int .i64 ((p : Nat) : Int)] (.cons (congrArg (Value.int .i64) (by rw [IntKind.wrap_i64]; omega)) .nil) ?_
        refine dixr 2 (n := n) (sz := 3) (j := ((p + 1 : Nat) : Int)) hg (p + 1) (by omega) ?_
        refine dldr 3 (n := 3) (row := true) [.int .i64 ((ks0[p + 1]!).1), .int .i64 ((ks0[p + 1]!).2.1), .int .i64 ((ks0[p + 1]!).2.2)] (fun W hW => ((Rd.atE (own_rdn encT71_len (l := ks0) (by first | omega | (simp only [List.length_set]; omega) | simp) (hW.at 0 rfl)) hg (by omega))).ld (i := p + 1) (by omega) 0 [.int .i64 ((ks0[p + 1]!).1), .int .i64 ((ks0[p + 1]!).2.1), .int .i64 ((ks0[p + 1]!).2.2)] rfl) ?_
        refine dixr 7 (n := n) (sz := 3) (j := ((p : Nat) : Int)) hg p (by omega) ?_
        refine dldr 8 (n := 3) (row := true) [.int .i64 ((ks0[p]!).1), .int .i64 ((ks0[p]!).2.1), .int .i64 ((ks0[p]!).2.2)] (fun W hW => ((Rd.atE (own_rdn encT71_len (l := ks0) (by first | omega | (simp only [List.length_set]; omega) | simp) (hW.at 0 rfl)) hg (by omega))).ld (i := p) (by omega) 0 [.int .i64 ((ks0[p]!).1), .int .i64 ((ks0[p]!).2.1), .int .i64 ((ks0[p]!).2.2)] rfl) ?_
        refine deqr 9 (pos := true) (r := false) false (fun W => (eq71 ((ks0[p + 1]!).1) ((ks0[p + 1]!).2.1) ((ks0[p + 1]!).2.2) ((ks0[p]!).1) ((ks0[p]!).2.1) ((ks0[p]!).2.2) W).trans (by rw [decide_eq_false (fun h9 => heq (Prod.ext h9.1 (Prod.ext h9.2.1 h9.2.2)))])) rfl ?_
        refine de (fs := (ktl [1, 0, 0, 0] (cq_4I A n c ks0 w (z4, p)) (kt (bdy Try.f40) [1, 1, 0, 1, 0] [])).tail) ?_
        refine st0 (fs := (ktl [1, 0, 0, 0] (cq_4I A n c ks0 w (z4, p)) (kt (bdy Try.f40) [1, 1, 0, 1, 0] [])).tail) ((cq_b44 A n c ks0 z4 p g)) [] ?_
        refine ck 3 [] [(1, .int .i64 ((p + 1 + 1 : Nat) : Int))] fun γ17 => ⟨⟨ktp (cq_4I A n c ks0 w (z4, p)) (kt (bdy Try.f40) [1, 1, 0, 1, 0] []), upv (cq_b44 A n c ks0 z4 p g) [(3, .int .i64 ((p + 1 + 1 : Nat) : Int)), (14, .int .i64 ((p + 1 : Nat) : Int)), (15, .int .i64 ((p + 1 + 1 : Nat) : Int))], []⟩, [], [Value.int .i64 (IntKind.wrap .i64 (((p + 1 : Nat) : Int) + 1)) = .int .i64 ((p + 1 + 1 : Nat) : Int)], by kernel_rfl, (.cons (congrArg (Value.int .i64) (by rw [IntKind.wrap_i64]; omega)) .nil), ?_⟩
        exact nx (st := cq_4s A n c ks0) (F' := cq_4F A n c ks0 w) (ok := cq_4k A n c ks0) (μ := cq_4m A n c ks0) (x := (z4, p)) (fun mm => (upv (cq_b44 A n c ks0 z4 p g) [(3, .int .i64 ((p + 1 + 1 : Nat) : Int)), (14, .int .i64 ((p + 1 : Nat) : Int)), (15, .int .i64 ((p + 1 + 1 : Nat) : Int))]).getD mm zz, (p + 1)) (show ddup (ks0.take ((p + 1) + 1)) = ks0.take ((p + 1) + 1) ∧ (p + 1) + 1 ≤ n from ⟨co_step hdd (by omega) heq, by omega⟩) (by show _ < _; simp only [cq_4m]; omega) 0 0 rfl
    · skip
      refine ck 6 [] [(3, .bool false)] fun γ18 => ⟨⟨kt (bdy Try.f40) [1, 1, 1, 1] [], upv (cq_b8 A n c z4 p) [(2, .slice A n c), (10, .int .i64 ((p + 1 : Nat) : Int)), (11, .slice A n c), (12, .int .i64 ((n : Nat) : Int)), (13, .bool false), (60, .slice A n c)], []⟩, [], [Value.bool (decide ((((p + 1 : Nat) : Int) : Int) < ((n : Nat) : Int))) = .bool false], by kernel_rfl, (.cons (cbF (by omega)) .nil), ?_⟩
      refine rt (.slice A n c) [] [] (fun W hW => ?_)
      have hid : ddup ks0 = ks0 := co_end hdd (by omega)
      have hrow := hW.at 0 rfl
      exact ⟨(), by rw [hid, hlen], hW.at 1 rfl, by rw [cpd_id hid]; exact hrow⟩
theorem compact_n {w : World} {A : Option Addr} {n c : Nat} {a ks0 : List P3} (hlen : ks0.length = n) (hn : n ≤ 1000) (h6 : ∀ z ∈ a, z.1 = 6) (hp : a.Perm ks0) (hs : ∀ p q, p < q → q < n → ltP ks0[q]! ks0[p]! = false) (hown : ownR w 71 3 (.slice A n c) n (ks0.flatMap encT71)) : Calls Try.prog 40 #[.slice A n c] w fun e w' => ∃ x : Unit, e = .returned (.slice A (nrmF a).length c) ∧ Turned (.slice A n c) w w' ∧ ownR w' 71 3 (.slice A n c) n ((nrmF a ++ List.replicate (n - (nrmF a).length) (0, 0, 0)).flatMap encT71) := by
  have e := nrm_uniq h6 hp (sorted_pw hlen hs)
  refine (compact_is hlen hn hown).mono fun e' w' h => ?_
  obtain ⟨x, h1, h2, h3⟩ := h
  unfold cpd at h3
  rw [e, hlen] at h3
  rw [e] at h1
  exact ⟨x, h1, h2, h3⟩
end Go.Proofs.Ythcmcekjgecnhab.Sr
