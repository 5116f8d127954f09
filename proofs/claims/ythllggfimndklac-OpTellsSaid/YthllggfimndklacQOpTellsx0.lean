-- Written by print2.py (this session's driver of the kit's printer), hand-proved functions among the printed ones.
import Derived.Test.YthllggfimndklacProg
import Derived.Below
import Derived.Deep.Draws
import Derived.Deep.AppendLies
import Derived.Maps.AppendAt
import Derived.OwnWalk
import Derived.Laws.BytesArg
import Derived.Laws.MakeOwn
import Derived.Laws.OwnMore
import Derived.Deep.OwnRows
import Derived.Tactics
import Derived.Lib.ConvBytes
import Derived.Laws.Slices
import Derived.WalkKit
import Derived.KernelRfl
import Derived.RowKit3
import Derived.Deep.LoopGhost
import Derived.Deep.QuietTactic
import Derived.BigQuiet
import Derived.WideLaws
import Derived.Deep.DeepCutAuto
import Derived.Deep.CutBlock
import Derived.Deep.RegionHeld3
import Derived.Laws.Rows
import Derived.Lib.AppendStr
import Derived.ArgAppend
import Derived.Laws.IdiomCopy
import Derived.OrdersHeld
import Derived.Laws.BitsLemmas
import Derived.RowKit
import Derived.Test.YthllggfimndklacWWords
import Derived.Test.YthllggfimndklacWLast
import Derived.Test.YthllggfimndklacWTab
import Derived.Test.YthllggfimndklacWFour
import Derived.Test.YthllggfimndklacWQPut
import Derived.Test.YthllggfimndklacWApart
import Derived.Test.YthllggfimndklacWArr
import Derived.Test.YthllggfimndklacWZeros
import Derived.Test.YthllggfimndklacWFoot
import Derived.Test.YthllggfimndklacWKept
import Derived.Test.YthllggfimndklacWShare
import Derived.Test.YthllggfimndklacWN
import Derived.Test.YthllggfimndklacWFootNe
import Derived.Test.YthllggfimndklacWAt
import Derived.Test.YthllggfimndklacWEqStruct
import Derived.Test.YthllggfimndklacWRepsOne
import Derived.Test.YthllggfimndklacWInv
import Derived.Test.YthllggfimndklacWInvWords
import Derived.Test.YthllggfimndklacWGuard
import Derived.Test.YthllggfimndklacWNEv
import Derived.Test.YthllggfimndklacWMore
import Derived.Test.YthllggfimndklacHWords
import Derived.Deep.RegionLawGrows
namespace Go.Proofs.Ythllggfimndklac.QOpTells
open Go.RowKit Go.Proofs.YthllggfimndklacW.PrintWords Go.Proofs.YthllggfimndklacW.PrintLast Go.Proofs.YthllggfimndklacW.PrintMore
attribute [local go_sem] max2_int min2_int max_two min_two max_three min_three max_four min_four   -- for this text's walks alone
open Go.Proofs.YthllggfimndklacW.HWords
set_option linter.unusedVariables false
set_option linter.unusedSimpArgs false
@[reducible] def LONG0 : ByteArray := ⟨(([104, 97, 108, 116, 32, 45, 45, 45, 45, 32, 115, 101, 116, 32, 114, 45, 45, 110, 32, 99, 111, 112, 121, 32, 114, 114, 45, 45, 32, 97, 100, 100, 32, 114, 114, 114, 45, 32, 115, 117, 98, 32, 114, 114, 114, 45, 32, 109, 117, 108, 32, 114, 114, 114, 45, 32, 100, 105, 118, 32, 114, 114].append [114, 45, 32, 106, 117, 109, 112, 32, 45, 45, 45, 116, 32, 122, 101, 114, 111, 32, 114, 45, 45, 116, 32, 115, 97, 109, 101, 32, 114, 114, 45, 116, 32, 108, 111, 111, 107, 32, 114, 103, 45, 45, 32, 112, 117, 116, 32, 103, 114, 45, 45, 32, 115, 119, 97, 112, 32, 114, 114, 114, 103, 32, 108]).append ([111, 97, 100, 32, 114, 114, 45, 102, 32, 115, 116, 111, 114, 101, 32, 114, 114, 45, 102, 32, 99, 97, 115, 32, 114, 114, 114, 102, 32, 102, 101, 110, 99, 101, 32, 45, 45, 45, 45, 32, 110, 101, 119, 32, 114, 45, 45, 45, 32, 102, 114, 101, 101, 32, 114, 45, 45, 45, 32, 114, 101, 116].append [105, 114, 101, 32, 114, 45, 45, 45, 32, 103, 117, 97, 114, 100, 32, 114, 45, 45, 115, 32, 99, 108, 101, 97, 114, 32, 45, 45, 45, 115, 32, 101, 110, 116, 101, 114, 32, 45, 45, 45, 45, 32, 108, 101, 97, 118, 101, 32, 45, 45, 45, 45, 32, 113, 117, 105, 101, 116, 32, 45, 45, 45, 45])).toArray⟩



def errW : Option Int → Value
  | none => .nilIface
  | some c => .iface 0 (.int .i64 c)
theorem errW_none : errW none = .nilIface := rfl
theorem errW_some (c : Int) : errW (some c) = .iface 0 (.int .i64 c) := rfl

theorem info9 : (Try.prog.info? 9).map (fun i => (i.zero, i.size, i.bytes)) = some (some (.string ⟨#[]⟩), 1, 16) := by kernel_rfl
-- the values' own types
/-! #### struct type 66 -/
structure S66 where
  f0 : ByteArray
  f1 : ByteArray
def z66 : S66 := ⟨(⟨#[]⟩ : ByteArray), (⟨#[]⟩ : ByteArray)⟩
def k66 : Kd S66 := Kd.iso (Kd.pair Kd.string Kd.string) (fun x : S66 => (x.f0, x.f1))
theorem k66_open {w : World} {x : S66} {cs : List Value} (h : k66.K w x cs) : cs = [.string x.f0, .string x.f1] := by
  obtain ⟨_, _, rfl, rfl, rfl⟩ := h
  exact rfl
theorem k66_openM {w : World} {base : Nat} {ok : Nat → Prop} {x : S66} {cs : List Value} (h : k66.M w base ok x cs) : cs = [.string x.f0, .string x.f1] := by
  obtain ⟨_, _, rfl, rfl, rfl⟩ := h
  exact rfl
theorem k66_mk (w : World) (x : S66)  : k66.K w x [.string x.f0, .string x.f1] := ⟨[.string x.f0], [.string x.f1], rfl, rfl, rfl⟩
theorem k66_mkM (w : World) (base : Nat) (ok : Nat → Prop) (x : S66)  : k66.M w base ok x [.string x.f0, .string x.f1] := ⟨[.string x.f0], [.string x.f1], rfl, rfl, rfl⟩
def rd_T66 (xs : List S66) (i : Int) : S66 := xs.getD i.toNat z66
theorem at_T66 {w : World} {A : Option Addr} {n : Nat} {xs : List S66} (h : Kd.C k66 w A n xs) (i : Int) (h0 : 0 ≤ i) (h1 : i < n) : ∃ ad , A = some ad ∧ w.cell? (ad.add (i.toNat * 2)) = some (.string (rd_T66 xs i).f0) ∧ w.cell? ⟨(ad.add (i.toNat * 2)).block, (ad.add (i.toNat * 2)).off + 1, none⟩ = some (.string (rd_T66 xs i).f1) := by
  obtain ⟨ad, c, e, _, hK, hc0⟩ := Kd.C_get h z66 i h0 h1
  have hc : ∀ j u, c[j]? = some u → w.cell? (ad.add (i.toNat * 2 + j)) = some u := hc0
  obtain rfl := k66_open hK
  exact ⟨ad, e, hc 0 _ rfl, by rw [← add_field _ _ 1 (by omega)]; exact hc 1 _ rfl⟩

end Go.Proofs.Ythllggfimndklac.QOpTells
