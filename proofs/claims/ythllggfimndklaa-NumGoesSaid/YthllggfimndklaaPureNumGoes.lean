/- Sums, differences and products of any two numbers of 64 bits go round as the page says. No condition. -/
import Derived.Test.YthllggfimndklaaPNumGoesx1
namespace Go.Proofs.Ythllggfimndklaa.Pure
open Go.RowKit Go.Proofs.Ythllggfimndklaa.PNumGoes Go.Proofs.YthllggfimndklaaW.PrintWords Go.Proofs.YthllggfimndklaaW.PrintLast

theorem goes_u64 (n : Int) : IntKind.u64.wrap n = n % 18446744073709551616 := by
  simp [IntKind.wrap, IntKind.bits, IntKind.signed]
theorem goes_wrap (n : Int) : wrap64 (n % 18446744073709551616) = wrap64 n := by
  unfold wrap64
  omega
theorem goes_alive : warrenerlaw01_alive.f = some true := by decide +kernel

theorem NumGoes : warrenerlaw01_NumGoes.Pure := by
  intro a b _ _
  have h1 : wrap64 (IntKind.u64.wrap ((IntKind.u64.wrap a) + (IntKind.u64.wrap b))) = wrap64 (a + b) := by
    simp only [goes_u64, goes_wrap, Int.emod_add_emod, Int.add_emod_emod]
  have h2 : wrap64 (IntKind.u64.wrap ((IntKind.u64.wrap a) - (IntKind.u64.wrap b))) = wrap64 (a - b) := by
    simp only [goes_u64, goes_wrap]
    unfold wrap64
    omega
  have h3 : wrap64 (IntKind.u64.wrap ((IntKind.u64.wrap a) * (IntKind.u64.wrap b))) = wrap64 (a * b) := by
    rw [goes_u64, goes_u64, goes_u64, ← Int.mul_emod, goes_wrap]
  unfold warrenerlaw01_NumGoes.f num_Add.f num_Sub.f num_Mul.f
  rw [goes_alive, h1, h2, h3]
  simp

end Go.Proofs.Ythllggfimndklaa.Pure
