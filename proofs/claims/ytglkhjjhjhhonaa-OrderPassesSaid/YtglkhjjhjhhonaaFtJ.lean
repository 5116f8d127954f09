/- Sorting at most twelve places. No condition beside those that each theorem names. -/
import Derived.Test.YtglkhjjhjhhonaaFtI
namespace Go.Proofs.Ytglkhjjhjhhonaa.Sr
open Go.RowKit Go.Proofs.YtglkhjjhjhhonaaM.Mach
set_option linter.unusedVariables false
set_option linter.unusedSimpArgs false
def ln0_l0 : List Value := [.int .u64 0, zz, .int .i64 0, zz, zz, zz, .int .u64 0, zz]
def ln0_l1 : List Value := [.int .u64 0, zz, .int .i64 0, .int .u64 0, .bool false, zz, zz, .int .u64 0, .bool false, zz, zz, zz, zz, .int .u64 0, .bool false, zz]
def ln0_l2 : List Value := [zz, zz, zz, .int .i64 0, .int .u64 0, .int .u8 0, .int .u8 0, .int .i64 0, .int .i64 0]
def ln0_b3 : List Value := ln0_l1 ++ (ln0_l2)
def ln0_l4 : List Value := [.int .u64 0, zz, .int .i64 0, zz, zz, zz, .int .u64 0, .int .i64 0]
set_option maxHeartbeats 8000000 in
set_option maxRecDepth 100000 in
theorem len_0 (w : World) : Calls Try.prog 45 #[.int .u64 0] w fun e w' => e = .returned (.int .i64 0) ∧ Below w.heap.size w w' := by
  refine enter (args := [.int .u64 0]) (fn := Try.f45) rfl (c := bdy Try.f45) (by kernel_rfl) ?_
  refine ck 2 [] [] fun γ1 => ⟨⟨kt (bdy Try.f45) [1, 1, 0, 1] [], ln0_l0, []⟩, [], [], by kernel_rfl, .nil, ?_⟩
  refine ci (f := 62) (args := [.int .u64 0]) (fn := Try.f62) (c := bdy Try.f62) rfl (fun R2 hR2 => ?_)
  refine ck 14 [] [] fun γ3 => ⟨⟨kt (bdy Try.f62) [1, 1, 1, 1, 1] [], ln0_b3, []⟩, [], [], by kernel_rfl, .nil, ?_⟩
  refine crm hR2 (.int .i64 0) [] [] [] ?_
  refine ck 1 [] [] fun γ4 => ⟨⟨kt (bdy Try.f45) [1, 1, 1] [], ln0_l4, []⟩, [], [], by kernel_rfl, .nil, ?_⟩
  refine rt (.int .i64 0) [] [] (fun W hW => ?_)
  exact ⟨rfl, (hW.old 0 rfl)⟩
def ln1_l0 : List Value := [.int .u64 1, zz, .int .i64 0, zz, zz, zz, .int .u64 1, zz]
def ln1_l1 : List Value := [.int .u64 1, zz, .int .i64 1, .int .u64 1, .bool false, zz, zz, .int .u64 1, .bool false, zz, zz, zz, zz, .int .u64 1, .bool false, zz]
def ln1_l2 : List Value := [zz, zz, zz, .int .i64 0, .int .u64 1, .int .u8 1, .int .u8 1, .int .i64 1, .int .i64 1]
def ln1_b3 : List Value := ln1_l1 ++ (ln1_l2)
def ln1_l4 : List Value := [.int .u64 1, zz, .int .i64 1, zz, zz, zz, .int .u64 1, .int .i64 1]
set_option maxHeartbeats 8000000 in
set_option maxRecDepth 100000 in
theorem len_1 (w : World) : Calls Try.prog 45 #[.int .u64 1] w fun e w' => e = .returned (.int .i64 1) ∧ Below w.heap.size w w' := by
  refine enter (args := [.int .u64 1]) (fn := Try.f45) rfl (c := bdy Try.f45) (by kernel_rfl) ?_
  refine ck 2 [] [] fun γ1 => ⟨⟨kt (bdy Try.f45) [1, 1, 0, 1] [], ln1_l0, []⟩, [], [], by kernel_rfl, .nil, ?_⟩
  refine ci (f := 62) (args := [.int .u64 1]) (fn := Try.f62) (c := bdy Try.f62) rfl (fun R2 hR2 => ?_)
  refine ck 14 [] [] fun γ3 => ⟨⟨kt (bdy Try.f62) [1, 1, 1, 1, 1] [], ln1_b3, []⟩, [], [], by kernel_rfl, .nil, ?_⟩
  refine crm hR2 (.int .i64 1) [] [] [] ?_
  refine ck 1 [] [] fun γ4 => ⟨⟨kt (bdy Try.f45) [1, 1, 1] [], ln1_l4, []⟩, [], [], by kernel_rfl, .nil, ?_⟩
  refine rt (.int .i64 1) [] [] (fun W hW => ?_)
  exact ⟨rfl, (hW.old 0 rfl)⟩
def ln2_l0 : List Value := [.int .u64 2, zz, .int .i64 0, zz, zz, zz, .int .u64 2, zz]
def ln2_l1 : List Value := [.int .u64 2, zz, .int .i64 2, .int .u64 2, .bool false, zz, zz, .int .u64 2, .bool false, zz, zz, zz, zz, .int .u64 2, .bool false, zz]
def ln2_l2 : List Value := [zz, zz, zz, .int .i64 0, .int .u64 2, .int .u8 2, .int .u8 2, .int .i64 2, .int .i64 2]
def ln2_b3 : List Value := ln2_l1 ++ (ln2_l2)
def ln2_l4 : List Value := [.int .u64 2, zz, .int .i64 2, zz, zz, zz, .int .u64 2, .int .i64 2]
set_option maxHeartbeats 8000000 in
set_option maxRecDepth 100000 in
theorem len_2 (w : World) : Calls Try.prog 45 #[.int .u64 2] w fun e w' => e = .returned (.int .i64 2) ∧ Below w.heap.size w w' := by
  refine enter (args := [.int .u64 2]) (fn := Try.f45) rfl (c := bdy Try.f45) (by kernel_rfl) ?_
  refine ck 2 [] [] fun γ1 => ⟨⟨kt (bdy Try.f45) [1, 1, 0, 1] [], ln2_l0, []⟩, [], [], by kernel_rfl, .nil, ?_⟩
  refine ci (f := 62) (args := [.int .u64 2]) (fn := Try.f62) (c := bdy Try.f62) rfl (fun R2 hR2 => ?_)
  refine ck 14 [] [] fun γ3 => ⟨⟨kt (bdy Try.f62) [1, 1, 1, 1, 1] [], ln2_b3, []⟩, [], [], by kernel_rfl, .nil, ?_⟩
  refine crm hR2 (.int .i64 2) [] [] [] ?_
  refine ck 1 [] [] fun γ4 => ⟨⟨kt (bdy Try.f45) [1, 1, 1] [], ln2_l4, []⟩, [], [], by kernel_rfl, .nil, ?_⟩
  refine rt (.int .i64 2) [] [] (fun W hW => ?_)
  exact ⟨rfl, (hW.old 0 rfl)⟩
def ln3_l0 : List Value := [.int .u64 3, zz, .int .i64 0, zz, zz, zz, .int .u64 3, zz]
def ln3_l1 : List Value := [.int .u64 3, zz, .int .i64 2, .int .u64 3, .bool false, zz, zz, .int .u64 3, .bool false, zz, zz, zz, zz, .int .u64 3, .bool false, zz]
def ln3_l2 : List Value := [zz, zz, zz, .int .i64 0, .int .u64 3, .int .u8 3, .int .u8 2, .int .i64 2, .int .i64 2]
def ln3_b3 : List Value := ln3_l1 ++ (ln3_l2)
def ln3_l4 : List Value := [.int .u64 3, zz, .int .i64 2, zz, zz, zz, .int .u64 3, .int .i64 2]
set_option maxHeartbeats 8000000 in
set_option maxRecDepth 100000 in
theorem len_3 (w : World) : Calls Try.prog 45 #[.int .u64 3] w fun e w' => e = .returned (.int .i64 2) ∧ Below w.heap.size w w' := by
  refine enter (args := [.int .u64 3]) (fn := Try.f45) rfl (c := bdy Try.f45) (by kernel_rfl) ?_
  refine ck 2 [] [] fun γ1 => ⟨⟨kt (bdy Try.f45) [1, 1, 0, 1] [], ln3_l0, []⟩, [], [], by kernel_rfl, .nil, ?_⟩
  refine ci (f := 62) (args := [.int .u64 3]) (fn := Try.f62) (c := bdy Try.f62) rfl (fun R2 hR2 => ?_)
  refine ck 14 [] [] fun γ3 => ⟨⟨kt (bdy Try.f62) [1, 1, 1, 1, 1] [], ln3_b3, []⟩, [], [], by kernel_rfl, .nil, ?_⟩
  refine crm hR2 (.int .i64 2) [] [] [] ?_
  refine ck 1 [] [] fun γ4 => ⟨⟨kt (bdy Try.f45) [1, 1, 1] [], ln3_l4, []⟩, [], [], by kernel_rfl, .nil, ?_⟩
  refine rt (.int .i64 2) [] [] (fun W hW => ?_)
  exact ⟨rfl, (hW.old 0 rfl)⟩
def ln4_l0 : List Value := [.int .u64 4, zz, .int .i64 0, zz, zz, zz, .int .u64 4, zz]
def ln4_l1 : List Value := [.int .u64 4, zz, .int .i64 3, .int .u64 4, .bool false, zz, zz, .int .u64 4, .bool false, zz, zz, zz, zz, .int .u64 4, .bool false, zz]
def ln4_l2 : List Value := [zz, zz, zz, .int .i64 0, .int .u64 4, .int .u8 4, .int .u8 3, .int .i64 3, .int .i64 3]
def ln4_b3 : List Value := ln4_l1 ++ (ln4_l2)
def ln4_l4 : List Value := [.int .u64 4, zz, .int .i64 3, zz, zz, zz, .int .u64 4, .int .i64 3]
set_option maxHeartbeats 8000000 in
set_option maxRecDepth 100000 in
theorem len_4 (w : World) : Calls Try.prog 45 #[.int .u64 4] w fun e w' => e = .returned (.int .i64 3) ∧ Below w.heap.size w w' := by
  refine enter (args := [.int .u64 4]) (fn := Try.f45) rfl (c := bdy Try.f45) (by kernel_rfl) ?_
  refine ck 2 [] [] fun γ1 => ⟨⟨kt (bdy Try.f45) [1, 1, 0, 1] [], ln4_l0, []⟩, [], [], by kernel_rfl, .nil, ?_⟩
  refine ci (f := 62) (args := [.int .u64 4]) (fn := Try.f62) (c := bdy Try.f62) rfl (fun R2 hR2 => ?_)
  refine ck 14 [] [] fun γ3 => ⟨⟨kt (bdy Try.f62) [1, 1, 1, 1, 1] [], ln4_b3, []⟩, [], [], by kernel_rfl, .nil, ?_⟩
  refine crm hR2 (.int .i64 3) [] [] [] ?_
  refine ck 1 [] [] fun γ4 => ⟨⟨kt (bdy Try.f45) [1, 1, 1] [], ln4_l4, []⟩, [], [], by kernel_rfl, .nil, ?_⟩
  refine rt (.int .i64 3) [] [] (fun W hW => ?_)
  exact ⟨rfl, (hW.old 0 rfl)⟩
def ln5_l0 : List Value := [.int .u64 5, zz, .int .i64 0, zz, zz, zz, .int .u64 5, zz]
def ln5_l1 : List Value := [.int .u64 5, zz, .int .i64 3, .int .u64 5, .bool false, zz, zz, .int .u64 5, .bool false, zz, zz, zz, zz, .int .u64 5, .bool false, zz]
def ln5_l2 : List Value := [zz, zz, zz, .int .i64 0, .int .u64 5, .int .u8 5, .int .u8 3, .int .i64 3, .int .i64 3]
def ln5_b3 : List Value := ln5_l1 ++ (ln5_l2)
def ln5_l4 : List Value := [.int .u64 5, zz, .int .i64 3, zz, zz, zz, .int .u64 5, .int .i64 3]
set_option maxHeartbeats 8000000 in
set_option maxRecDepth 100000 in
theorem len_5 (w : World) : Calls Try.prog 45 #[.int .u64 5] w fun e w' => e = .returned (.int .i64 3) ∧ Below w.heap.size w w' := by
  refine enter (args := [.int .u64 5]) (fn := Try.f45) rfl (c := bdy Try.f45) (by kernel_rfl) ?_
  refine ck 2 [] [] fun γ1 => ⟨⟨kt (bdy Try.f45) [1, 1, 0, 1] [], ln5_l0, []⟩, [], [], by kernel_rfl, .nil, ?_⟩
  refine ci (f := 62) (args := [.int .u64 5]) (fn := Try.f62) (c := bdy Try.f62) rfl (fun R2 hR2 => ?_)
  refine ck 14 [] [] fun γ3 => ⟨⟨kt (bdy Try.f62) [1, 1, 1, 1, 1] [], ln5_b3, []⟩, [], [], by kernel_rfl, .nil, ?_⟩
  refine crm hR2 (.int .i64 3) [] [] [] ?_
  refine ck 1 [] [] fun γ4 => ⟨⟨kt (bdy Try.f45) [1, 1, 1] [], ln5_l4, []⟩, [], [], by kernel_rfl, .nil, ?_⟩
  refine rt (.int .i64 3) [] [] (fun W hW => ?_)
  exact ⟨rfl, (hW.old 0 rfl)⟩
def ln6_l0 : List Value := [.int .u64 6, zz, .int .i64 0, zz, zz, zz, .int .u64 6, zz]
def ln6_l1 : List Value := [.int .u64 6, zz, .int .i64 3, .int .u64 6, .bool false, zz, zz, .int .u64 6, .bool false, zz, zz, zz, zz, .int .u64 6, .bool false, zz]
def ln6_l2 : List Value := [zz, zz, zz, .int .i64 0, .int .u64 6, .int .u8 6, .int .u8 3, .int .i64 3, .int .i64 3]
def ln6_b3 : List Value := ln6_l1 ++ (ln6_l2)
def ln6_l4 : List Value := [.int .u64 6, zz, .int .i64 3, zz, zz, zz, .int .u64 6, .int .i64 3]
set_option maxHeartbeats 8000000 in
set_option maxRecDepth 100000 in
theorem len_6 (w : World) : Calls Try.prog 45 #[.int .u64 6] w fun e w' => e = .returned (.int .i64 3) ∧ Below w.heap.size w w' := by
  refine enter (args := [.int .u64 6]) (fn := Try.f45) rfl (c := bdy Try.f45) (by kernel_rfl) ?_
  refine ck 2 [] [] fun γ1 => ⟨⟨kt (bdy Try.f45) [1, 1, 0, 1] [], ln6_l0, []⟩, [], [], by kernel_rfl, .nil, ?_⟩
  refine ci (f := 62) (args := [.int .u64 6]) (fn := Try.f62) (c := bdy Try.f62) rfl (fun R2 hR2 => ?_)
  refine ck 14 [] [] fun γ3 => ⟨⟨kt (bdy Try.f62) [1, 1, 1, 1, 1] [], ln6_b3, []⟩, [], [], by kernel_rfl, .nil, ?_⟩
  refine crm hR2 (.int .i64 3) [] [] [] ?_
  refine ck 1 [] [] fun γ4 => ⟨⟨kt (bdy Try.f45) [1, 1, 1] [], ln6_l4, []⟩, [], [], by kernel_rfl, .nil, ?_⟩
  refine rt (.int .i64 3) [] [] (fun W hW => ?_)
  exact ⟨rfl, (hW.old 0 rfl)⟩
def ln7_l0 : List Value := [.int .u64 7, zz, .int .i64 0, zz, zz, zz, .int .u64 7, zz]
def ln7_l1 : List Value := [.int .u64 7, zz, .int .i64 3, .int .u64 7, .bool false, zz, zz, .int .u64 7, .bool false, zz, zz, zz, zz, .int .u64 7, .bool false, zz]
def ln7_l2 : List Value := [zz, zz, zz, .int .i64 0, .int .u64 7, .int .u8 7, .int .u8 3, .int .i64 3, .int .i64 3]
def ln7_b3 : List Value := ln7_l1 ++ (ln7_l2)
def ln7_l4 : List Value := [.int .u64 7, zz, .int .i64 3, zz, zz, zz, .int .u64 7, .int .i64 3]
set_option maxHeartbeats 8000000 in
set_option maxRecDepth 100000 in
theorem len_7 (w : World) : Calls Try.prog 45 #[.int .u64 7] w fun e w' => e = .returned (.int .i64 3) ∧ Below w.heap.size w w' := by
  refine enter (args := [.int .u64 7]) (fn := Try.f45) rfl (c := bdy Try.f45) (by kernel_rfl) ?_
  refine ck 2 [] [] fun γ1 => ⟨⟨kt (bdy Try.f45) [1, 1, 0, 1] [], ln7_l0, []⟩, [], [], by kernel_rfl, .nil, ?_⟩
  refine ci (f := 62) (args := [.int .u64 7]) (fn := Try.f62) (c := bdy Try.f62) rfl (fun R2 hR2 => ?_)
  refine ck 14 [] [] fun γ3 => ⟨⟨kt (bdy Try.f62) [1, 1, 1, 1, 1] [], ln7_b3, []⟩, [], [], by kernel_rfl, .nil, ?_⟩
  refine crm hR2 (.int .i64 3) [] [] [] ?_
  refine ck 1 [] [] fun γ4 => ⟨⟨kt (bdy Try.f45) [1, 1, 1] [], ln7_l4, []⟩, [], [], by kernel_rfl, .nil, ?_⟩
  refine rt (.int .i64 3) [] [] (fun W hW => ?_)
  exact ⟨rfl, (hW.old 0 rfl)⟩
def ln8_l0 : List Value := [.int .u64 8, zz, .int .i64 0, zz, zz, zz, .int .u64 8, zz]
def ln8_l1 : List Value := [.int .u64 8, zz, .int .i64 4, .int .u64 8, .bool false, zz, zz, .int .u64 8, .bool false, zz, zz, zz, zz, .int .u64 8, .bool false, zz]
def ln8_l2 : List Value := [zz, zz, zz, .int .i64 0, .int .u64 8, .int .u8 8, .int .u8 4, .int .i64 4, .int .i64 4]
def ln8_b3 : List Value := ln8_l1 ++ (ln8_l2)
def ln8_l4 : List Value := [.int .u64 8, zz, .int .i64 4, zz, zz, zz, .int .u64 8, .int .i64 4]
set_option maxHeartbeats 8000000 in
set_option maxRecDepth 100000 in
theorem len_8 (w : World) : Calls Try.prog 45 #[.int .u64 8] w fun e w' => e = .returned (.int .i64 4) ∧ Below w.heap.size w w' := by
  refine enter (args := [.int .u64 8]) (fn := Try.f45) rfl (c := bdy Try.f45) (by kernel_rfl) ?_
  refine ck 2 [] [] fun γ1 => ⟨⟨kt (bdy Try.f45) [1, 1, 0, 1] [], ln8_l0, []⟩, [], [], by kernel_rfl, .nil, ?_⟩
  refine ci (f := 62) (args := [.int .u64 8]) (fn := Try.f62) (c := bdy Try.f62) rfl (fun R2 hR2 => ?_)
  refine ck 14 [] [] fun γ3 => ⟨⟨kt (bdy Try.f62) [1, 1, 1, 1, 1] [], ln8_b3, []⟩, [], [], by kernel_rfl, .nil, ?_⟩
  refine crm hR2 (.int .i64 4) [] [] [] ?_
  refine ck 1 [] [] fun γ4 => ⟨⟨kt (bdy Try.f45) [1, 1, 1] [], ln8_l4, []⟩, [], [], by kernel_rfl, .nil, ?_⟩
  refine rt (.int .i64 4) [] [] (fun W hW => ?_)
  exact ⟨rfl, (hW.old 0 rfl)⟩
def ln9_l0 : List Value := [.int .u64 9, zz, .int .i64 0, zz, zz, zz, .int .u64 9, zz]
def ln9_l1 : List Value := [.int .u64 9, zz, .int .i64 4, .int .u64 9, .bool false, zz, zz, .int .u64 9, .bool false, zz, zz, zz, zz, .int .u64 9, .bool false, zz]
def ln9_l2 : List Value := [zz, zz, zz, .int .i64 0, .int .u64 9, .int .u8 9, .int .u8 4, .int .i64 4, .int .i64 4]
def ln9_b3 : List Value := ln9_l1 ++ (ln9_l2)
def ln9_l4 : List Value := [.int .u64 9, zz, .int .i64 4, zz, zz, zz, .int .u64 9, .int .i64 4]
set_option maxHeartbeats 8000000 in
set_option maxRecDepth 100000 in
theorem len_9 (w : World) : Calls Try.prog 45 #[.int .u64 9] w fun e w' => e = .returned (.int .i64 4) ∧ Below w.heap.size w w' := by
  refine enter (args := [.int .u64 9]) (fn := Try.f45) rfl (c := bdy Try.f45) (by kernel_rfl) ?_
  refine ck 2 [] [] fun γ1 => ⟨⟨kt (bdy Try.f45) [1, 1, 0, 1] [], ln9_l0, []⟩, [], [], by kernel_rfl, .nil, ?_⟩
  refine ci (f := 62) (args := [.int .u64 9]) (fn := Try.f62) (c := bdy Try.f62) rfl (fun R2 hR2 => ?_)
  refine ck 14 [] [] fun γ3 => ⟨⟨kt (bdy Try.f62) [1, 1, 1, 1, 1] [], ln9_b3, []⟩, [], [], by kernel_rfl, .nil, ?_⟩
  refine crm hR2 (.int .i64 4) [] [] [] ?_
  refine ck 1 [] [] fun γ4 => ⟨⟨kt (bdy Try.f45) [1, 1, 1] [], ln9_l4, []⟩, [], [], by kernel_rfl, .nil, ?_⟩
  refine rt (.int .i64 4) [] [] (fun W hW => ?_)
  exact ⟨rfl, (hW.old 0 rfl)⟩
def ln10_l0 : List Value := [.int .u64 10, zz, .int .i64 0, zz, zz, zz, .int .u64 10, zz]
def ln10_l1 : List Value := [.int .u64 10, zz, .int .i64 4, .int .u64 10, .bool false, zz, zz, .int .u64 10, .bool false, zz, zz, zz, zz, .int .u64 10, .bool false, zz]
def ln10_l2 : List Value := [zz, zz, zz, .int .i64 0, .int .u64 10, .int .u8 10, .int .u8 4, .int .i64 4, .int .i64 4]
def ln10_b3 : List Value := ln10_l1 ++ (ln10_l2)
def ln10_l4 : List Value := [.int .u64 10, zz, .int .i64 4, zz, zz, zz, .int .u64 10, .int .i64 4]
set_option maxHeartbeats 8000000 in
set_option maxRecDepth 100000 in
theorem len_10 (w : World) : Calls Try.prog 45 #[.int .u64 10] w fun e w' => e = .returned (.int .i64 4) ∧ Below w.heap.size w w' := by
  refine enter (args := [.int .u64 10]) (fn := Try.f45) rfl (c := bdy Try.f45) (by kernel_rfl) ?_
  refine ck 2 [] [] fun γ1 => ⟨⟨kt (bdy Try.f45) [1, 1, 0, 1] [], ln10_l0, []⟩, [], [], by kernel_rfl, .nil, ?_⟩
  refine ci (f := 62) (args := [.int .u64 10]) (fn := Try.f62) (c := bdy Try.f62) rfl (fun R2 hR2 => ?_)
  refine ck 14 [] [] fun γ3 => ⟨⟨kt (bdy Try.f62) [1, 1, 1, 1, 1] [], ln10_b3, []⟩, [], [], by kernel_rfl, .nil, ?_⟩
  refine crm hR2 (.int .i64 4) [] [] [] ?_
  refine ck 1 [] [] fun γ4 => ⟨⟨kt (bdy Try.f45) [1, 1, 1] [], ln10_l4, []⟩, [], [], by kernel_rfl, .nil, ?_⟩
  refine rt (.int .i64 4) [] [] (fun W hW => ?_)
  exact ⟨rfl, (hW.old 0 rfl)⟩
def ln11_l0 : List Value := [.int .u64 11, zz, .int .i64 0, zz, zz, zz, .int .u64 11, zz]
def ln11_l1 : List Value := [.int .u64 11, zz, .int .i64 4, .int .u64 11, .bool false, zz, zz, .int .u64 11, .bool false, zz, zz, zz, zz, .int .u64 11, .bool false, zz]
def ln11_l2 : List Value := [zz, zz, zz, .int .i64 0, .int .u64 11, .int .u8 11, .int .u8 4, .int .i64 4, .int .i64 4]
def ln11_b3 : List Value := ln11_l1 ++ (ln11_l2)
def ln11_l4 : List Value := [.int .u64 11, zz, .int .i64 4, zz, zz, zz, .int .u64 11, .int .i64 4]
set_option maxHeartbeats 8000000 in
set_option maxRecDepth 100000 in
theorem len_11 (w : World) : Calls Try.prog 45 #[.int .u64 11] w fun e w' => e = .returned (.int .i64 4) ∧ Below w.heap.size w w' := by
  refine enter (args := [.int .u64 11]) (fn := Try.f45) rfl (c := bdy Try.f45) (by kernel_rfl) ?_
  refine ck 2 [] [] fun γ1 => ⟨⟨kt (bdy Try.f45) [1, 1, 0, 1] [], ln11_l0, []⟩, [], [], by kernel_rfl, .nil, ?_⟩
  refine ci (f := 62) (args := [.int .u64 11]) (fn := Try.f62) (c := bdy Try.f62) rfl (fun R2 hR2 => ?_)
  refine ck 14 [] [] fun γ3 => ⟨⟨kt (bdy Try.f62) [1, 1, 1, 1, 1] [], ln11_b3, []⟩, [], [], by kernel_rfl, .nil, ?_⟩
  refine crm hR2 (.int .i64 4) [] [] [] ?_
  refine ck 1 [] [] fun γ4 => ⟨⟨kt (bdy Try.f45) [1, 1, 1] [], ln11_l4, []⟩, [], [], by kernel_rfl, .nil, ?_⟩
  refine rt (.int .i64 4) [] [] (fun W hW => ?_)
  exact ⟨rfl, (hW.old 0 rfl)⟩
def ln12_l0 : List Value := [.int .u64 12, zz, .int .i64 0, zz, zz, zz, .int .u64 12, zz]
def ln12_l1 : List Value := [.int .u64 12, zz, .int .i64 4, .int .u64 12, .bool false, zz, zz, .int .u64 12, .bool false, zz, zz, zz, zz, .int .u64 12, .bool false, zz]
def ln12_l2 : List Value := [zz, zz, zz, .int .i64 0, .int .u64 12, .int .u8 12, .int .u8 4, .int .i64 4, .int .i64 4]
def ln12_b3 : List Value := ln12_l1 ++ (ln12_l2)
def ln12_l4 : List Value := [.int .u64 12, zz, .int .i64 4, zz, zz, zz, .int .u64 12, .int .i64 4]
set_option maxHeartbeats 8000000 in
set_option maxRecDepth 100000 in
theorem len_12 (w : World) : Calls Try.prog 45 #[.int .u64 12] w fun e w' => e = .returned (.int .i64 4) ∧ Below w.heap.size w w' := by
  refine enter (args := [.int .u64 12]) (fn := Try.f45) rfl (c := bdy Try.f45) (by kernel_rfl) ?_
  refine ck 2 [] [] fun γ1 => ⟨⟨kt (bdy Try.f45) [1, 1, 0, 1] [], ln12_l0, []⟩, [], [], by kernel_rfl, .nil, ?_⟩
  refine ci (f := 62) (args := [.int .u64 12]) (fn := Try.f62) (c := bdy Try.f62) rfl (fun R2 hR2 => ?_)
  refine ck 14 [] [] fun γ3 => ⟨⟨kt (bdy Try.f62) [1, 1, 1, 1, 1] [], ln12_b3, []⟩, [], [], by kernel_rfl, .nil, ?_⟩
  refine crm hR2 (.int .i64 4) [] [] [] ?_
  refine ck 1 [] [] fun γ4 => ⟨⟨kt (bdy Try.f45) [1, 1, 1] [], ln12_l4, []⟩, [], [], by kernel_rfl, .nil, ?_⟩
  refine rt (.int .i64 4) [] [] (fun W hW => ?_)
  exact ⟨rfl, (hW.old 0 rfl)⟩
theorem len_ex : ∀ n : Nat, n ≤ 12 → ∃ r : Int, ∀ w : World, Calls Try.prog 45 #[.int .u64 ((n : Nat) : Int)] w fun e w' => e = .returned (.int .i64 r) ∧ Below w.heap.size w w'
  | 0, _ => ⟨_, len_0⟩
  | 1, _ => ⟨_, len_1⟩
  | 2, _ => ⟨_, len_2⟩
  | 3, _ => ⟨_, len_3⟩
  | 4, _ => ⟨_, len_4⟩
  | 5, _ => ⟨_, len_5⟩
  | 6, _ => ⟨_, len_6⟩
  | 7, _ => ⟨_, len_7⟩
  | 8, _ => ⟨_, len_8⟩
  | 9, _ => ⟨_, len_9⟩
  | 10, _ => ⟨_, len_10⟩
  | 11, _ => ⟨_, len_11⟩
  | 12, _ => ⟨_, len_12⟩
  | n + 13, h => by omega
def pdq_l0 (A : Option Addr) (n : Nat) (c : Nat) (r0 : Int) : List Value := [.slice A n c, .int .i64 0, .int .i64 ((n : Nat) : Int), .int .i64 r0, .func (.func 49) #[] #[], zz, zz, zz, zz, zz, .bool true, .bool true, zz, zz, zz, zz]
def pdq_l1 : List Value := [zz, zz, zz, zz, zz, zz, zz, zz, zz, zz, zz, zz, zz, zz, zz, zz]
def pdq_l2 : List Value := [zz, zz, zz, zz]
def pdq_b3 (A : Option Addr) (n : Nat) (c : Nat) (r0 : Int) : List Value := (pdq_l0 A n c r0) ++ (pdq_l1 ++ (pdq_l1 ++ (pdq_l1 ++ (pdq_l1 ++ (pdq_l1 ++ (pdq_l1 ++ (pdq_l1 ++ (pdq_l1 ++ (pdq_l2)))))))))
set_option maxHeartbeats 8000000 in
set_option maxRecDepth 100000 in
theorem pdq_is (r0 : Int) {w : World} {A : Option Addr} {n c : Nat} {ks0 : List P3} (hlen : ks0.length = n) (hn : n ≤ 12) (hown : ownR w 67 3 (.slice A n c) n (ks0.flatMap encT67)) : Calls Try.prog 67 #[.slice A n c, .int .i64 0, .int .i64 ((n : Nat) : Int), .int .i64 r0, .func (.func 49) #[] #[]] w fun e w' => ∃ x : {ks : List P3 // ks.length = n ∧ ks0.Perm ks ∧ ∀ p q, p < q → q < n → ltP ks[q]! ks[p]! = false}, e = .returned (.tuple #[]) ∧ Turned (.slice A n c) w w' ∧ ownR w' 67 3 (.slice A n c) n (x.1.flatMap encT67) := by
  refine enterX (args := [.slice A n c, .int .i64 0, .int .i64 ((n : Nat) : Int), .int .i64 r0, .func (.func 49) #[] #[]]) (fn := Try.f67) rfl (c := bdy Try.f67) (by kernel_rfl) hown ?_
  refine ck 2 [] [] fun γ1 => ⟨⟨kt (bdy Try.f67) [1, 1, 0] [], (pdq_b3 A n c r0), []⟩, [], [], by kernel_rfl, .nil, ?_⟩
  refine lu 2 (fun I2 hI2 => ?_)
  refine ck 10 [] [(2, .int .i64 ((n : Nat) : Int)), (5, .bool true)] fun γ3 => ⟨⟨ktl [0, 1, 0, 1, 0, 0, 4] (I2 2) (kt (bdy Try.f67) [1, 1, 0] []), upv (pdq_b3 A n c r0) [(12, .int .i64 ((n : Nat) : Int)), (21, .int .i64 ((n : Nat) : Int)), (22, .int .i64 0), (23, .int .i64 ((n : Nat) : Int)), (24, .int .i64 ((n : Nat) : Int)), (25, .bool true), (26, .slice A n c), (27, .int .i64 0), (28, .int .i64 ((n : Nat) : Int)), (29, .func (.func 49) #[] #[])], []⟩, [], [Value.int .i64 (IntKind.wrap .i64 (((n : Nat) : Int) - 0)) = .int .i64 ((n : Nat) : Int), Value.bool (decide ((((n : Nat) : Int) : Int) ≤ 12)) = .bool true], by kernel_rfl, (.cons (congrArg (Value.int .i64) (by rw [IntKind.wrap_i64]; omega)) (.cons (cbT (by omega)) .nil)), ?_⟩
  refine cm 0 rfl (fun W hW => isort_is hlen (by omega) (hW.at 0 rfl)) ?_
  rintro ⟨ks1, hl1, hp1, hs1⟩
  refine rt (.tuple #[]) [] [] (fun W hW => ?_)
  exact ⟨⟨ks1, hl1, hp1, hs1⟩, rfl, hW.at 1 rfl, hW.at 0 rfl⟩
def sor_l0 (A : Option Addr) (n : Nat) (c : Nat) : List Value := [.slice A n c, .func (.func 49) #[] #[], zz, zz, .int .i64 ((n : Nat) : Int), .slice A n c, .int .i64 ((n : Nat) : Int), .slice A n c, .int .i64 ((n : Nat) : Int), .int .i64 ((n : Nat) : Int), .int .u64 ((n : Nat) : Int), zz, zz, zz]
set_option maxHeartbeats 8000000 in
set_option maxRecDepth 100000 in
theorem sort_is {w : World} {A : Option Addr} {n c : Nat} {ks0 : List P3} (hlen : ks0.length = n) (hn : n ≤ 12) (hown : ownR w 67 3 (.slice A n c) n (ks0.flatMap encT67)) : Calls Try.prog 48 #[.slice A n c, .func (.func 49) #[] #[]] w fun e w' => ∃ x : {ks : List P3 // ks.length = n ∧ ks0.Perm ks ∧ ∀ p q, p < q → q < n → ltP ks[q]! ks[p]! = false}, e = .returned (.tuple #[]) ∧ Turned (.slice A n c) w w' ∧ ownR w' 67 3 (.slice A n c) n (x.1.flatMap encT67) := by
  obtain ⟨r0, hr0⟩ := len_ex n hn
  refine enterX (args := [.slice A n c, .func (.func 49) #[] #[]]) (fn := Try.f48) rfl (c := bdy Try.f48) (by kernel_rfl) hown ?_
  refine ck 7 [] [(6, .int .u64 ((n : Nat) : Int))] fun γ1 => ⟨⟨kt (bdy Try.f48) [1, 4] [], (sor_l0 A n c), []⟩, [], [Value.int .u64 (IntKind.wrap .u64 ((n : Nat) : Int)) = .int .u64 ((n : Nat) : Int)], by kernel_rfl, (.cons (congrArg (Value.int .u64) (by unfold IntKind.wrap; simp [IntKind.bits, IntKind.signed]; omega)) .nil), ?_⟩
  refine cp (fun W hW => hr0 W) ?_
  refine ck 1 [] [] fun γ2 => ⟨⟨kt (bdy Try.f48) [1, 6] [], upv (sor_l0 A n c) [(11, .int .i64 r0), (12, .func (.func 49) #[] #[])], []⟩, [], [], by kernel_rfl, .nil, ?_⟩
  refine cm 0 rfl (fun W hW => pdq_is r0 hlen (by omega) (hW.at 0 rfl)) ?_
  rintro ⟨ks1, hl1, hp1, hs1⟩
  refine rt (.tuple #[]) [] [] (fun W hW => ?_)
  exact ⟨⟨ks1, hl1, hp1, hs1⟩, rfl, hW.at 1 rfl, hW.at 0 rfl⟩
end Go.Proofs.Ytglkhjjhjhhonaa.Sr
