-- Written by print2.py (this session's driver of the kit's printer), hand-proved functions among the printed ones.
import Derived.Test.YthllggfimndklacQOpTellsx0
namespace Go.Proofs.Ythllggfimndklac.QOpTells
open Go.RowKit Go.Proofs.YthllggfimndklacW.PrintWords Go.Proofs.YthllggfimndklacW.PrintLast Go.Proofs.YthllggfimndklacW.PrintMore
attribute [local go_sem] max2_int min2_int max_two min_two max_three min_three max_four min_four   -- for this text's walks alone
open Go.Proofs.YthllggfimndklacW.HWords
set_option linter.unusedVariables false
set_option linter.unusedSimpArgs false

-- NOT PRINTED: function 42 (op_kinds)

/-! ### op_of: function 37 (proved by hand) -/
def op_kinds.strs : List ByteArray := [⟨#[]⟩, ⟨#[]⟩, ⟨#[104, 97, 108, 116]⟩, ⟨#[45, 45, 45, 45]⟩, ⟨#[115, 101, 116]⟩, ⟨#[114, 45, 45, 110]⟩, ⟨#[99, 111, 112, 121]⟩, ⟨#[114, 114, 45, 45]⟩, ⟨#[97, 100, 100]⟩, ⟨#[114, 114, 114, 45]⟩, ⟨#[115, 117, 98]⟩, ⟨#[114, 114, 114, 45]⟩, ⟨#[109, 117, 108]⟩, ⟨#[114, 114, 114, 45]⟩, ⟨#[100, 105, 118]⟩, ⟨#[114, 114, 114, 45]⟩, ⟨#[106, 117, 109, 112]⟩, ⟨#[45, 45, 45, 116]⟩, ⟨#[122, 101, 114, 111]⟩, ⟨#[114, 45, 45, 116]⟩, ⟨#[115, 97, 109, 101]⟩, ⟨#[114, 114, 45, 116]⟩, ⟨#[108, 111, 111, 107]⟩, ⟨#[114, 103, 45, 45]⟩, ⟨#[112, 117, 116]⟩, ⟨#[103, 114, 45, 45]⟩, ⟨#[115, 119, 97, 112]⟩, ⟨#[114, 114, 114, 103]⟩, ⟨#[108, 111, 97, 100]⟩, ⟨#[114, 114, 45, 102]⟩, ⟨#[115, 116, 111, 114, 101]⟩, ⟨#[114, 114, 45, 102]⟩, ⟨#[99, 97, 115]⟩, ⟨#[114, 114, 114, 102]⟩, ⟨#[102, 101, 110, 99, 101]⟩, ⟨#[45, 45, 45, 45]⟩, ⟨#[110, 101, 119]⟩, ⟨#[114, 45, 45, 45]⟩, ⟨#[102, 114, 101, 101]⟩, ⟨#[114, 45, 45, 45]⟩, ⟨#[114, 101, 116, 105, 114, 101]⟩, ⟨#[114, 45, 45, 45]⟩, ⟨#[103, 117, 97, 114, 100]⟩, ⟨#[114, 45, 45, 115]⟩, ⟨#[99, 108, 101, 97, 114]⟩, ⟨#[45, 45, 45, 115]⟩, ⟨#[101, 110, 116, 101, 114]⟩, ⟨#[45, 45, 45, 45]⟩, ⟨#[108, 101, 97, 118, 101]⟩, ⟨#[45, 45, 45, 45]⟩, ⟨#[113, 117, 105, 101, 116]⟩, ⟨#[45, 45, 45, 45]⟩]
def op_kinds.cells : List Value := op_kinds.strs.map .string
def op_kinds.zero : List Value := List.replicate 52 (.string ⟨#[]⟩)
def op_kinds.a0 (b : Nat) : Act := ⟨#[.pointer (some ⟨b, 0, none⟩), undef, undef, undef, undef, undef, undef, undef, undef, undef, undef, undef, undef, undef, undef, undef, undef, undef, undef, undef, undef, undef, undef, undef, undef, undef, undef], []⟩
def op_kinds.a1 (b : Nat) : Act := ⟨#[.pointer (some ⟨b, 0, none⟩), .agg #[.string ⟨#[104, 97, 108, 116]⟩, .string ⟨#[45, 45, 45, 45]⟩], undef, undef, undef, undef, undef, undef, undef, undef, undef, undef, undef, undef, undef, undef, undef, undef, undef, undef, undef, undef, undef, undef, undef, undef, undef], []⟩
def op_kinds.a2 (b : Nat) : Act := ⟨#[.pointer (some ⟨b, 0, none⟩), .agg #[.string ⟨#[104, 97, 108, 116]⟩, .string ⟨#[45, 45, 45, 45]⟩], .agg #[.string ⟨#[115, 101, 116]⟩, .string ⟨#[114, 45, 45, 110]⟩], undef, undef, undef, undef, undef, undef, undef, undef, undef, undef, undef, undef, undef, undef, undef, undef, undef, undef, undef, undef, undef, undef, undef, undef], []⟩
def op_kinds.a3 (b : Nat) : Act := ⟨#[.pointer (some ⟨b, 0, none⟩), .agg #[.string ⟨#[104, 97, 108, 116]⟩, .string ⟨#[45, 45, 45, 45]⟩], .agg #[.string ⟨#[115, 101, 116]⟩, .string ⟨#[114, 45, 45, 110]⟩], .agg #[.string ⟨#[99, 111, 112, 121]⟩, .string ⟨#[114, 114, 45, 45]⟩], undef, undef, undef, undef, undef, undef, undef, undef, undef, undef, undef, undef, undef, undef, undef, undef, undef, undef, undef, undef, undef, undef, undef], []⟩
def op_kinds.a4 (b : Nat) : Act := ⟨#[.pointer (some ⟨b, 0, none⟩), .agg #[.string ⟨#[104, 97, 108, 116]⟩, .string ⟨#[45, 45, 45, 45]⟩], .agg #[.string ⟨#[115, 101, 116]⟩, .string ⟨#[114, 45, 45, 110]⟩], .agg #[.string ⟨#[99, 111, 112, 121]⟩, .string ⟨#[114, 114, 45, 45]⟩], .agg #[.string ⟨#[97, 100, 100]⟩, .string ⟨#[114, 114, 114, 45]⟩], undef, undef, undef, undef, undef, undef, undef, undef, undef, undef, undef, undef, undef, undef, undef, undef, undef, undef, undef, undef, undef, undef], []⟩
def op_kinds.a5 (b : Nat) : Act := ⟨#[.pointer (some ⟨b, 0, none⟩), .agg #[.string ⟨#[104, 97, 108, 116]⟩, .string ⟨#[45, 45, 45, 45]⟩], .agg #[.string ⟨#[115, 101, 116]⟩, .string ⟨#[114, 45, 45, 110]⟩], .agg #[.string ⟨#[99, 111, 112, 121]⟩, .string ⟨#[114, 114, 45, 45]⟩], .agg #[.string ⟨#[97, 100, 100]⟩, .string ⟨#[114, 114, 114, 45]⟩], .agg #[.string ⟨#[115, 117, 98]⟩, .string ⟨#[114, 114, 114, 45]⟩], undef, undef, undef, undef, undef, undef, undef, undef, undef, undef, undef, undef, undef, undef, undef, undef, undef, undef, undef, undef, undef], []⟩
def op_kinds.a6 (b : Nat) : Act := ⟨#[.pointer (some ⟨b, 0, none⟩), .agg #[.string ⟨#[104, 97, 108, 116]⟩, .string ⟨#[45, 45, 45, 45]⟩], .agg #[.string ⟨#[115, 101, 116]⟩, .string ⟨#[114, 45, 45, 110]⟩], .agg #[.string ⟨#[99, 111, 112, 121]⟩, .string ⟨#[114, 114, 45, 45]⟩], .agg #[.string ⟨#[97, 100, 100]⟩, .string ⟨#[114, 114, 114, 45]⟩], .agg #[.string ⟨#[115, 117, 98]⟩, .string ⟨#[114, 114, 114, 45]⟩], .agg #[.string ⟨#[109, 117, 108]⟩, .string ⟨#[114, 114, 114, 45]⟩], undef, undef, undef, undef, undef, undef, undef, undef, undef, undef, undef, undef, undef, undef, undef, undef, undef, undef, undef, undef], []⟩
def op_kinds.a7 (b : Nat) : Act := ⟨#[.pointer (some ⟨b, 0, none⟩), .agg #[.string ⟨#[104, 97, 108, 116]⟩, .string ⟨#[45, 45, 45, 45]⟩], .agg #[.string ⟨#[115, 101, 116]⟩, .string ⟨#[114, 45, 45, 110]⟩], .agg #[.string ⟨#[99, 111, 112, 121]⟩, .string ⟨#[114, 114, 45, 45]⟩], .agg #[.string ⟨#[97, 100, 100]⟩, .string ⟨#[114, 114, 114, 45]⟩], .agg #[.string ⟨#[115, 117, 98]⟩, .string ⟨#[114, 114, 114, 45]⟩], .agg #[.string ⟨#[109, 117, 108]⟩, .string ⟨#[114, 114, 114, 45]⟩], .agg #[.string ⟨#[100, 105, 118]⟩, .string ⟨#[114, 114, 114, 45]⟩], undef, undef, undef, undef, undef, undef, undef, undef, undef, undef, undef, undef, undef, undef, undef, undef, undef, undef, undef], []⟩
def op_kinds.a8 (b : Nat) : Act := ⟨#[.pointer (some ⟨b, 0, none⟩), .agg #[.string ⟨#[104, 97, 108, 116]⟩, .string ⟨#[45, 45, 45, 45]⟩], .agg #[.string ⟨#[115, 101, 116]⟩, .string ⟨#[114, 45, 45, 110]⟩], .agg #[.string ⟨#[99, 111, 112, 121]⟩, .string ⟨#[114, 114, 45, 45]⟩], .agg #[.string ⟨#[97, 100, 100]⟩, .string ⟨#[114, 114, 114, 45]⟩], .agg #[.string ⟨#[115, 117, 98]⟩, .string ⟨#[114, 114, 114, 45]⟩], .agg #[.string ⟨#[109, 117, 108]⟩, .string ⟨#[114, 114, 114, 45]⟩], .agg #[.string ⟨#[100, 105, 118]⟩, .string ⟨#[114, 114, 114, 45]⟩], .agg #[.string ⟨#[106, 117, 109, 112]⟩, .string ⟨#[45, 45, 45, 116]⟩], undef, undef, undef, undef, undef, undef, undef, undef, undef, undef, undef, undef, undef, undef, undef, undef, undef, undef], []⟩
def op_kinds.a9 (b : Nat) : Act := ⟨#[.pointer (some ⟨b, 0, none⟩), .agg #[.string ⟨#[104, 97, 108, 116]⟩, .string ⟨#[45, 45, 45, 45]⟩], .agg #[.string ⟨#[115, 101, 116]⟩, .string ⟨#[114, 45, 45, 110]⟩], .agg #[.string ⟨#[99, 111, 112, 121]⟩, .string ⟨#[114, 114, 45, 45]⟩], .agg #[.string ⟨#[97, 100, 100]⟩, .string ⟨#[114, 114, 114, 45]⟩], .agg #[.string ⟨#[115, 117, 98]⟩, .string ⟨#[114, 114, 114, 45]⟩], .agg #[.string ⟨#[109, 117, 108]⟩, .string ⟨#[114, 114, 114, 45]⟩], .agg #[.string ⟨#[100, 105, 118]⟩, .string ⟨#[114, 114, 114, 45]⟩], .agg #[.string ⟨#[106, 117, 109, 112]⟩, .string ⟨#[45, 45, 45, 116]⟩], .agg #[.string ⟨#[122, 101, 114, 111]⟩, .string ⟨#[114, 45, 45, 116]⟩], undef, undef, undef, undef, undef, undef, undef, undef, undef, undef, undef, undef, undef, undef, undef, undef, undef], []⟩
def op_kinds.a10 (b : Nat) : Act := ⟨#[.pointer (some ⟨b, 0, none⟩), .agg #[.string ⟨#[104, 97, 108, 116]⟩, .string ⟨#[45, 45, 45, 45]⟩], .agg #[.string ⟨#[115, 101, 116]⟩, .string ⟨#[114, 45, 45, 110]⟩], .agg #[.string ⟨#[99, 111, 112, 121]⟩, .string ⟨#[114, 114, 45, 45]⟩], .agg #[.string ⟨#[97, 100, 100]⟩, .string ⟨#[114, 114, 114, 45]⟩], .agg #[.string ⟨#[115, 117, 98]⟩, .string ⟨#[114, 114, 114, 45]⟩], .agg #[.string ⟨#[109, 117, 108]⟩, .string ⟨#[114, 114, 114, 45]⟩], .agg #[.string ⟨#[100, 105, 118]⟩, .string ⟨#[114, 114, 114, 45]⟩], .agg #[.string ⟨#[106, 117, 109, 112]⟩, .string ⟨#[45, 45, 45, 116]⟩], .agg #[.string ⟨#[122, 101, 114, 111]⟩, .string ⟨#[114, 45, 45, 116]⟩], .agg #[.string ⟨#[115, 97, 109, 101]⟩, .string ⟨#[114, 114, 45, 116]⟩], undef, undef, undef, undef, undef, undef, undef, undef, undef, undef, undef, undef, undef, undef, undef, undef], []⟩
def op_kinds.a11 (b : Nat) : Act := ⟨#[.pointer (some ⟨b, 0, none⟩), .agg #[.string ⟨#[104, 97, 108, 116]⟩, .string ⟨#[45, 45, 45, 45]⟩], .agg #[.string ⟨#[115, 101, 116]⟩, .string ⟨#[114, 45, 45, 110]⟩], .agg #[.string ⟨#[99, 111, 112, 121]⟩, .string ⟨#[114, 114, 45, 45]⟩], .agg #[.string ⟨#[97, 100, 100]⟩, .string ⟨#[114, 114, 114, 45]⟩], .agg #[.string ⟨#[115, 117, 98]⟩, .string ⟨#[114, 114, 114, 45]⟩], .agg #[.string ⟨#[109, 117, 108]⟩, .string ⟨#[114, 114, 114, 45]⟩], .agg #[.string ⟨#[100, 105, 118]⟩, .string ⟨#[114, 114, 114, 45]⟩], .agg #[.string ⟨#[106, 117, 109, 112]⟩, .string ⟨#[45, 45, 45, 116]⟩], .agg #[.string ⟨#[122, 101, 114, 111]⟩, .string ⟨#[114, 45, 45, 116]⟩], .agg #[.string ⟨#[115, 97, 109, 101]⟩, .string ⟨#[114, 114, 45, 116]⟩], .agg #[.string ⟨#[108, 111, 111, 107]⟩, .string ⟨#[114, 103, 45, 45]⟩], undef, undef, undef, undef, undef, undef, undef, undef, undef, undef, undef, undef, undef, undef, undef], []⟩
def op_kinds.a12 (b : Nat) : Act := ⟨#[.pointer (some ⟨b, 0, none⟩), .agg #[.string ⟨#[104, 97, 108, 116]⟩, .string ⟨#[45, 45, 45, 45]⟩], .agg #[.string ⟨#[115, 101, 116]⟩, .string ⟨#[114, 45, 45, 110]⟩], .agg #[.string ⟨#[99, 111, 112, 121]⟩, .string ⟨#[114, 114, 45, 45]⟩], .agg #[.string ⟨#[97, 100, 100]⟩, .string ⟨#[114, 114, 114, 45]⟩], .agg #[.string ⟨#[115, 117, 98]⟩, .string ⟨#[114, 114, 114, 45]⟩], .agg #[.string ⟨#[109, 117, 108]⟩, .string ⟨#[114, 114, 114, 45]⟩], .agg #[.string ⟨#[100, 105, 118]⟩, .string ⟨#[114, 114, 114, 45]⟩], .agg #[.string ⟨#[106, 117, 109, 112]⟩, .string ⟨#[45, 45, 45, 116]⟩], .agg #[.string ⟨#[122, 101, 114, 111]⟩, .string ⟨#[114, 45, 45, 116]⟩], .agg #[.string ⟨#[115, 97, 109, 101]⟩, .string ⟨#[114, 114, 45, 116]⟩], .agg #[.string ⟨#[108, 111, 111, 107]⟩, .string ⟨#[114, 103, 45, 45]⟩], .agg #[.string ⟨#[112, 117, 116]⟩, .string ⟨#[103, 114, 45, 45]⟩], undef, undef, undef, undef, undef, undef, undef, undef, undef, undef, undef, undef, undef, undef], []⟩
def op_kinds.a13 (b : Nat) : Act := ⟨#[.pointer (some ⟨b, 0, none⟩), .agg #[.string ⟨#[104, 97, 108, 116]⟩, .string ⟨#[45, 45, 45, 45]⟩], .agg #[.string ⟨#[115, 101, 116]⟩, .string ⟨#[114, 45, 45, 110]⟩], .agg #[.string ⟨#[99, 111, 112, 121]⟩, .string ⟨#[114, 114, 45, 45]⟩], .agg #[.string ⟨#[97, 100, 100]⟩, .string ⟨#[114, 114, 114, 45]⟩], .agg #[.string ⟨#[115, 117, 98]⟩, .string ⟨#[114, 114, 114, 45]⟩], .agg #[.string ⟨#[109, 117, 108]⟩, .string ⟨#[114, 114, 114, 45]⟩], .agg #[.string ⟨#[100, 105, 118]⟩, .string ⟨#[114, 114, 114, 45]⟩], .agg #[.string ⟨#[106, 117, 109, 112]⟩, .string ⟨#[45, 45, 45, 116]⟩], .agg #[.string ⟨#[122, 101, 114, 111]⟩, .string ⟨#[114, 45, 45, 116]⟩], .agg #[.string ⟨#[115, 97, 109, 101]⟩, .string ⟨#[114, 114, 45, 116]⟩], .agg #[.string ⟨#[108, 111, 111, 107]⟩, .string ⟨#[114, 103, 45, 45]⟩], .agg #[.string ⟨#[112, 117, 116]⟩, .string ⟨#[103, 114, 45, 45]⟩], .agg #[.string ⟨#[115, 119, 97, 112]⟩, .string ⟨#[114, 114, 114, 103]⟩], undef, undef, undef, undef, undef, undef, undef, undef, undef, undef, undef, undef, undef], []⟩
def op_kinds.a14 (b : Nat) : Act := ⟨#[.pointer (some ⟨b, 0, none⟩), .agg #[.string ⟨#[104, 97, 108, 116]⟩, .string ⟨#[45, 45, 45, 45]⟩], .agg #[.string ⟨#[115, 101, 116]⟩, .string ⟨#[114, 45, 45, 110]⟩], .agg #[.string ⟨#[99, 111, 112, 121]⟩, .string ⟨#[114, 114, 45, 45]⟩], .agg #[.string ⟨#[97, 100, 100]⟩, .string ⟨#[114, 114, 114, 45]⟩], .agg #[.string ⟨#[115, 117, 98]⟩, .string ⟨#[114, 114, 114, 45]⟩], .agg #[.string ⟨#[109, 117, 108]⟩, .string ⟨#[114, 114, 114, 45]⟩], .agg #[.string ⟨#[100, 105, 118]⟩, .string ⟨#[114, 114, 114, 45]⟩], .agg #[.string ⟨#[106, 117, 109, 112]⟩, .string ⟨#[45, 45, 45, 116]⟩], .agg #[.string ⟨#[122, 101, 114, 111]⟩, .string ⟨#[114, 45, 45, 116]⟩], .agg #[.string ⟨#[115, 97, 109, 101]⟩, .string ⟨#[114, 114, 45, 116]⟩], .agg #[.string ⟨#[108, 111, 111, 107]⟩, .string ⟨#[114, 103, 45, 45]⟩], .agg #[.string ⟨#[112, 117, 116]⟩, .string ⟨#[103, 114, 45, 45]⟩], .agg #[.string ⟨#[115, 119, 97, 112]⟩, .string ⟨#[114, 114, 114, 103]⟩], .agg #[.string ⟨#[108, 111, 97, 100]⟩, .string ⟨#[114, 114, 45, 102]⟩], undef, undef, undef, undef, undef, undef, undef, undef, undef, undef, undef, undef], []⟩
def op_kinds.a15 (b : Nat) : Act := ⟨#[.pointer (some ⟨b, 0, none⟩), .agg #[.string ⟨#[104, 97, 108, 116]⟩, .string ⟨#[45, 45, 45, 45]⟩], .agg #[.string ⟨#[115, 101, 116]⟩, .string ⟨#[114, 45, 45, 110]⟩], .agg #[.string ⟨#[99, 111, 112, 121]⟩, .string ⟨#[114, 114, 45, 45]⟩], .agg #[.string ⟨#[97, 100, 100]⟩, .string ⟨#[114, 114, 114, 45]⟩], .agg #[.string ⟨#[115, 117, 98]⟩, .string ⟨#[114, 114, 114, 45]⟩], .agg #[.string ⟨#[109, 117, 108]⟩, .string ⟨#[114, 114, 114, 45]⟩], .agg #[.string ⟨#[100, 105, 118]⟩, .string ⟨#[114, 114, 114, 45]⟩], .agg #[.string ⟨#[106, 117, 109, 112]⟩, .string ⟨#[45, 45, 45, 116]⟩], .agg #[.string ⟨#[122, 101, 114, 111]⟩, .string ⟨#[114, 45, 45, 116]⟩], .agg #[.string ⟨#[115, 97, 109, 101]⟩, .string ⟨#[114, 114, 45, 116]⟩], .agg #[.string ⟨#[108, 111, 111, 107]⟩, .string ⟨#[114, 103, 45, 45]⟩], .agg #[.string ⟨#[112, 117, 116]⟩, .string ⟨#[103, 114, 45, 45]⟩], .agg #[.string ⟨#[115, 119, 97, 112]⟩, .string ⟨#[114, 114, 114, 103]⟩], .agg #[.string ⟨#[108, 111, 97, 100]⟩, .string ⟨#[114, 114, 45, 102]⟩], .agg #[.string ⟨#[115, 116, 111, 114, 101]⟩, .string ⟨#[114, 114, 45, 102]⟩], undef, undef, undef, undef, undef, undef, undef, undef, undef, undef, undef], []⟩
def op_kinds.a16 (b : Nat) : Act := ⟨#[.pointer (some ⟨b, 0, none⟩), .agg #[.string ⟨#[104, 97, 108, 116]⟩, .string ⟨#[45, 45, 45, 45]⟩], .agg #[.string ⟨#[115, 101, 116]⟩, .string ⟨#[114, 45, 45, 110]⟩], .agg #[.string ⟨#[99, 111, 112, 121]⟩, .string ⟨#[114, 114, 45, 45]⟩], .agg #[.string ⟨#[97, 100, 100]⟩, .string ⟨#[114, 114, 114, 45]⟩], .agg #[.string ⟨#[115, 117, 98]⟩, .string ⟨#[114, 114, 114, 45]⟩], .agg #[.string ⟨#[109, 117, 108]⟩, .string ⟨#[114, 114, 114, 45]⟩], .agg #[.string ⟨#[100, 105, 118]⟩, .string ⟨#[114, 114, 114, 45]⟩], .agg #[.string ⟨#[106, 117, 109, 112]⟩, .string ⟨#[45, 45, 45, 116]⟩], .agg #[.string ⟨#[122, 101, 114, 111]⟩, .string ⟨#[114, 45, 45, 116]⟩], .agg #[.string ⟨#[115, 97, 109, 101]⟩, .string ⟨#[114, 114, 45, 116]⟩], .agg #[.string ⟨#[108, 111, 111, 107]⟩, .string ⟨#[114, 103, 45, 45]⟩], .agg #[.string ⟨#[112, 117, 116]⟩, .string ⟨#[103, 114, 45, 45]⟩], .agg #[.string ⟨#[115, 119, 97, 112]⟩, .string ⟨#[114, 114, 114, 103]⟩], .agg #[.string ⟨#[108, 111, 97, 100]⟩, .string ⟨#[114, 114, 45, 102]⟩], .agg #[.string ⟨#[115, 116, 111, 114, 101]⟩, .string ⟨#[114, 114, 45, 102]⟩], .agg #[.string ⟨#[99, 97, 115]⟩, .string ⟨#[114, 114, 114, 102]⟩], undef, undef, undef, undef, undef, undef, undef, undef, undef, undef], []⟩
def op_kinds.a17 (b : Nat) : Act := ⟨#[.pointer (some ⟨b, 0, none⟩), .agg #[.string ⟨#[104, 97, 108, 116]⟩, .string ⟨#[45, 45, 45, 45]⟩], .agg #[.string ⟨#[115, 101, 116]⟩, .string ⟨#[114, 45, 45, 110]⟩], .agg #[.string ⟨#[99, 111, 112, 121]⟩, .string ⟨#[114, 114, 45, 45]⟩], .agg #[.string ⟨#[97, 100, 100]⟩, .string ⟨#[114, 114, 114, 45]⟩], .agg #[.string ⟨#[115, 117, 98]⟩, .string ⟨#[114, 114, 114, 45]⟩], .agg #[.string ⟨#[109, 117, 108]⟩, .string ⟨#[114, 114, 114, 45]⟩], .agg #[.string ⟨#[100, 105, 118]⟩, .string ⟨#[114, 114, 114, 45]⟩], .agg #[.string ⟨#[106, 117, 109, 112]⟩, .string ⟨#[45, 45, 45, 116]⟩], .agg #[.string ⟨#[122, 101, 114, 111]⟩, .string ⟨#[114, 45, 45, 116]⟩], .agg #[.string ⟨#[115, 97, 109, 101]⟩, .string ⟨#[114, 114, 45, 116]⟩], .agg #[.string ⟨#[108, 111, 111, 107]⟩, .string ⟨#[114, 103, 45, 45]⟩], .agg #[.string ⟨#[112, 117, 116]⟩, .string ⟨#[103, 114, 45, 45]⟩], .agg #[.string ⟨#[115, 119, 97, 112]⟩, .string ⟨#[114, 114, 114, 103]⟩], .agg #[.string ⟨#[108, 111, 97, 100]⟩, .string ⟨#[114, 114, 45, 102]⟩], .agg #[.string ⟨#[115, 116, 111, 114, 101]⟩, .string ⟨#[114, 114, 45, 102]⟩], .agg #[.string ⟨#[99, 97, 115]⟩, .string ⟨#[114, 114, 114, 102]⟩], .agg #[.string ⟨#[102, 101, 110, 99, 101]⟩, .string ⟨#[45, 45, 45, 45]⟩], undef, undef, undef, undef, undef, undef, undef, undef, undef], []⟩
def op_kinds.a18 (b : Nat) : Act := ⟨#[.pointer (some ⟨b, 0, none⟩), .agg #[.string ⟨#[104, 97, 108, 116]⟩, .string ⟨#[45, 45, 45, 45]⟩], .agg #[.string ⟨#[115, 101, 116]⟩, .string ⟨#[114, 45, 45, 110]⟩], .agg #[.string ⟨#[99, 111, 112, 121]⟩, .string ⟨#[114, 114, 45, 45]⟩], .agg #[.string ⟨#[97, 100, 100]⟩, .string ⟨#[114, 114, 114, 45]⟩], .agg #[.string ⟨#[115, 117, 98]⟩, .string ⟨#[114, 114, 114, 45]⟩], .agg #[.string ⟨#[109, 117, 108]⟩, .string ⟨#[114, 114, 114, 45]⟩], .agg #[.string ⟨#[100, 105, 118]⟩, .string ⟨#[114, 114, 114, 45]⟩], .agg #[.string ⟨#[106, 117, 109, 112]⟩, .string ⟨#[45, 45, 45, 116]⟩], .agg #[.string ⟨#[122, 101, 114, 111]⟩, .string ⟨#[114, 45, 45, 116]⟩], .agg #[.string ⟨#[115, 97, 109, 101]⟩, .string ⟨#[114, 114, 45, 116]⟩], .agg #[.string ⟨#[108, 111, 111, 107]⟩, .string ⟨#[114, 103, 45, 45]⟩], .agg #[.string ⟨#[112, 117, 116]⟩, .string ⟨#[103, 114, 45, 45]⟩], .agg #[.string ⟨#[115, 119, 97, 112]⟩, .string ⟨#[114, 114, 114, 103]⟩], .agg #[.string ⟨#[108, 111, 97, 100]⟩, .string ⟨#[114, 114, 45, 102]⟩], .agg #[.string ⟨#[115, 116, 111, 114, 101]⟩, .string ⟨#[114, 114, 45, 102]⟩], .agg #[.string ⟨#[99, 97, 115]⟩, .string ⟨#[114, 114, 114, 102]⟩], .agg #[.string ⟨#[102, 101, 110, 99, 101]⟩, .string ⟨#[45, 45, 45, 45]⟩], .agg #[.string ⟨#[110, 101, 119]⟩, .string ⟨#[114, 45, 45, 45]⟩], undef, undef, undef, undef, undef, undef, undef, undef], []⟩
def op_kinds.a19 (b : Nat) : Act := ⟨#[.pointer (some ⟨b, 0, none⟩), .agg #[.string ⟨#[104, 97, 108, 116]⟩, .string ⟨#[45, 45, 45, 45]⟩], .agg #[.string ⟨#[115, 101, 116]⟩, .string ⟨#[114, 45, 45, 110]⟩], .agg #[.string ⟨#[99, 111, 112, 121]⟩, .string ⟨#[114, 114, 45, 45]⟩], .agg #[.string ⟨#[97, 100, 100]⟩, .string ⟨#[114, 114, 114, 45]⟩], .agg #[.string ⟨#[115, 117, 98]⟩, .string ⟨#[114, 114, 114, 45]⟩], .agg #[.string ⟨#[109, 117, 108]⟩, .string ⟨#[114, 114, 114, 45]⟩], .agg #[.string ⟨#[100, 105, 118]⟩, .string ⟨#[114, 114, 114, 45]⟩], .agg #[.string ⟨#[106, 117, 109, 112]⟩, .string ⟨#[45, 45, 45, 116]⟩], .agg #[.string ⟨#[122, 101, 114, 111]⟩, .string ⟨#[114, 45, 45, 116]⟩], .agg #[.string ⟨#[115, 97, 109, 101]⟩, .string ⟨#[114, 114, 45, 116]⟩], .agg #[.string ⟨#[108, 111, 111, 107]⟩, .string ⟨#[114, 103, 45, 45]⟩], .agg #[.string ⟨#[112, 117, 116]⟩, .string ⟨#[103, 114, 45, 45]⟩], .agg #[.string ⟨#[115, 119, 97, 112]⟩, .string ⟨#[114, 114, 114, 103]⟩], .agg #[.string ⟨#[108, 111, 97, 100]⟩, .string ⟨#[114, 114, 45, 102]⟩], .agg #[.string ⟨#[115, 116, 111, 114, 101]⟩, .string ⟨#[114, 114, 45, 102]⟩], .agg #[.string ⟨#[99, 97, 115]⟩, .string ⟨#[114, 114, 114, 102]⟩], .agg #[.string ⟨#[102, 101, 110, 99, 101]⟩, .string ⟨#[45, 45, 45, 45]⟩], .agg #[.string ⟨#[110, 101, 119]⟩, .string ⟨#[114, 45, 45, 45]⟩], .agg #[.string ⟨#[102, 114, 101, 101]⟩, .string ⟨#[114, 45, 45, 45]⟩], undef, undef, undef, undef, undef, undef, undef], []⟩
def op_kinds.a20 (b : Nat) : Act := ⟨#[.pointer (some ⟨b, 0, none⟩), .agg #[.string ⟨#[104, 97, 108, 116]⟩, .string ⟨#[45, 45, 45, 45]⟩], .agg #[.string ⟨#[115, 101, 116]⟩, .string ⟨#[114, 45, 45, 110]⟩], .agg #[.string ⟨#[99, 111, 112, 121]⟩, .string ⟨#[114, 114, 45, 45]⟩], .agg #[.string ⟨#[97, 100, 100]⟩, .string ⟨#[114, 114, 114, 45]⟩], .agg #[.string ⟨#[115, 117, 98]⟩, .string ⟨#[114, 114, 114, 45]⟩], .agg #[.string ⟨#[109, 117, 108]⟩, .string ⟨#[114, 114, 114, 45]⟩], .agg #[.string ⟨#[100, 105, 118]⟩, .string ⟨#[114, 114, 114, 45]⟩], .agg #[.string ⟨#[106, 117, 109, 112]⟩, .string ⟨#[45, 45, 45, 116]⟩], .agg #[.string ⟨#[122, 101, 114, 111]⟩, .string ⟨#[114, 45, 45, 116]⟩], .agg #[.string ⟨#[115, 97, 109, 101]⟩, .string ⟨#[114, 114, 45, 116]⟩], .agg #[.string ⟨#[108, 111, 111, 107]⟩, .string ⟨#[114, 103, 45, 45]⟩], .agg #[.string ⟨#[112, 117, 116]⟩, .string ⟨#[103, 114, 45, 45]⟩], .agg #[.string ⟨#[115, 119, 97, 112]⟩, .string ⟨#[114, 114, 114, 103]⟩], .agg #[.string ⟨#[108, 111, 97, 100]⟩, .string ⟨#[114, 114, 45, 102]⟩], .agg #[.string ⟨#[115, 116, 111, 114, 101]⟩, .string ⟨#[114, 114, 45, 102]⟩], .agg #[.string ⟨#[99, 97, 115]⟩, .string ⟨#[114, 114, 114, 102]⟩], .agg #[.string ⟨#[102, 101, 110, 99, 101]⟩, .string ⟨#[45, 45, 45, 45]⟩], .agg #[.string ⟨#[110, 101, 119]⟩, .string ⟨#[114, 45, 45, 45]⟩], .agg #[.string ⟨#[102, 114, 101, 101]⟩, .string ⟨#[114, 45, 45, 45]⟩], .agg #[.string ⟨#[114, 101, 116, 105, 114, 101]⟩, .string ⟨#[114, 45, 45, 45]⟩], undef, undef, undef, undef, undef, undef], []⟩
def op_kinds.a21 (b : Nat) : Act := ⟨#[.pointer (some ⟨b, 0, none⟩), .agg #[.string ⟨#[104, 97, 108, 116]⟩, .string ⟨#[45, 45, 45, 45]⟩], .agg #[.string ⟨#[115, 101, 116]⟩, .string ⟨#[114, 45, 45, 110]⟩], .agg #[.string ⟨#[99, 111, 112, 121]⟩, .string ⟨#[114, 114, 45, 45]⟩], .agg #[.string ⟨#[97, 100, 100]⟩, .string ⟨#[114, 114, 114, 45]⟩], .agg #[.string ⟨#[115, 117, 98]⟩, .string ⟨#[114, 114, 114, 45]⟩], .agg #[.string ⟨#[109, 117, 108]⟩, .string ⟨#[114, 114, 114, 45]⟩], .agg #[.string ⟨#[100, 105, 118]⟩, .string ⟨#[114, 114, 114, 45]⟩], .agg #[.string ⟨#[106, 117, 109, 112]⟩, .string ⟨#[45, 45, 45, 116]⟩], .agg #[.string ⟨#[122, 101, 114, 111]⟩, .string ⟨#[114, 45, 45, 116]⟩], .agg #[.string ⟨#[115, 97, 109, 101]⟩, .string ⟨#[114, 114, 45, 116]⟩], .agg #[.string ⟨#[108, 111, 111, 107]⟩, .string ⟨#[114, 103, 45, 45]⟩], .agg #[.string ⟨#[112, 117, 116]⟩, .string ⟨#[103, 114, 45, 45]⟩], .agg #[.string ⟨#[115, 119, 97, 112]⟩, .string ⟨#[114, 114, 114, 103]⟩], .agg #[.string ⟨#[108, 111, 97, 100]⟩, .string ⟨#[114, 114, 45, 102]⟩], .agg #[.string ⟨#[115, 116, 111, 114, 101]⟩, .string ⟨#[114, 114, 45, 102]⟩], .agg #[.string ⟨#[99, 97, 115]⟩, .string ⟨#[114, 114, 114, 102]⟩], .agg #[.string ⟨#[102, 101, 110, 99, 101]⟩, .string ⟨#[45, 45, 45, 45]⟩], .agg #[.string ⟨#[110, 101, 119]⟩, .string ⟨#[114, 45, 45, 45]⟩], .agg #[.string ⟨#[102, 114, 101, 101]⟩, .string ⟨#[114, 45, 45, 45]⟩], .agg #[.string ⟨#[114, 101, 116, 105, 114, 101]⟩, .string ⟨#[114, 45, 45, 45]⟩], .agg #[.string ⟨#[103, 117, 97, 114, 100]⟩, .string ⟨#[114, 45, 45, 115]⟩], undef, undef, undef, undef, undef], []⟩
def op_kinds.a22 (b : Nat) : Act := ⟨#[.pointer (some ⟨b, 0, none⟩), .agg #[.string ⟨#[104, 97, 108, 116]⟩, .string ⟨#[45, 45, 45, 45]⟩], .agg #[.string ⟨#[115, 101, 116]⟩, .string ⟨#[114, 45, 45, 110]⟩], .agg #[.string ⟨#[99, 111, 112, 121]⟩, .string ⟨#[114, 114, 45, 45]⟩], .agg #[.string ⟨#[97, 100, 100]⟩, .string ⟨#[114, 114, 114, 45]⟩], .agg #[.string ⟨#[115, 117, 98]⟩, .string ⟨#[114, 114, 114, 45]⟩], .agg #[.string ⟨#[109, 117, 108]⟩, .string ⟨#[114, 114, 114, 45]⟩], .agg #[.string ⟨#[100, 105, 118]⟩, .string ⟨#[114, 114, 114, 45]⟩], .agg #[.string ⟨#[106, 117, 109, 112]⟩, .string ⟨#[45, 45, 45, 116]⟩], .agg #[.string ⟨#[122, 101, 114, 111]⟩, .string ⟨#[114, 45, 45, 116]⟩], .agg #[.string ⟨#[115, 97, 109, 101]⟩, .string ⟨#[114, 114, 45, 116]⟩], .agg #[.string ⟨#[108, 111, 111, 107]⟩, .string ⟨#[114, 103, 45, 45]⟩], .agg #[.string ⟨#[112, 117, 116]⟩, .string ⟨#[103, 114, 45, 45]⟩], .agg #[.string ⟨#[115, 119, 97, 112]⟩, .string ⟨#[114, 114, 114, 103]⟩], .agg #[.string ⟨#[108, 111, 97, 100]⟩, .string ⟨#[114, 114, 45, 102]⟩], .agg #[.string ⟨#[115, 116, 111, 114, 101]⟩, .string ⟨#[114, 114, 45, 102]⟩], .agg #[.string ⟨#[99, 97, 115]⟩, .string ⟨#[114, 114, 114, 102]⟩], .agg #[.string ⟨#[102, 101, 110, 99, 101]⟩, .string ⟨#[45, 45, 45, 45]⟩], .agg #[.string ⟨#[110, 101, 119]⟩, .string ⟨#[114, 45, 45, 45]⟩], .agg #[.string ⟨#[102, 114, 101, 101]⟩, .string ⟨#[114, 45, 45, 45]⟩], .agg #[.string ⟨#[114, 101, 116, 105, 114, 101]⟩, .string ⟨#[114, 45, 45, 45]⟩], .agg #[.string ⟨#[103, 117, 97, 114, 100]⟩, .string ⟨#[114, 45, 45, 115]⟩], .agg #[.string ⟨#[99, 108, 101, 97, 114]⟩, .string ⟨#[45, 45, 45, 115]⟩], undef, undef, undef, undef], []⟩
def op_kinds.a23 (b : Nat) : Act := ⟨#[.pointer (some ⟨b, 0, none⟩), .agg #[.string ⟨#[104, 97, 108, 116]⟩, .string ⟨#[45, 45, 45, 45]⟩], .agg #[.string ⟨#[115, 101, 116]⟩, .string ⟨#[114, 45, 45, 110]⟩], .agg #[.string ⟨#[99, 111, 112, 121]⟩, .string ⟨#[114, 114, 45, 45]⟩], .agg #[.string ⟨#[97, 100, 100]⟩, .string ⟨#[114, 114, 114, 45]⟩], .agg #[.string ⟨#[115, 117, 98]⟩, .string ⟨#[114, 114, 114, 45]⟩], .agg #[.string ⟨#[109, 117, 108]⟩, .string ⟨#[114, 114, 114, 45]⟩], .agg #[.string ⟨#[100, 105, 118]⟩, .string ⟨#[114, 114, 114, 45]⟩], .agg #[.string ⟨#[106, 117, 109, 112]⟩, .string ⟨#[45, 45, 45, 116]⟩], .agg #[.string ⟨#[122, 101, 114, 111]⟩, .string ⟨#[114, 45, 45, 116]⟩], .agg #[.string ⟨#[115, 97, 109, 101]⟩, .string ⟨#[114, 114, 45, 116]⟩], .agg #[.string ⟨#[108, 111, 111, 107]⟩, .string ⟨#[114, 103, 45, 45]⟩], .agg #[.string ⟨#[112, 117, 116]⟩, .string ⟨#[103, 114, 45, 45]⟩], .agg #[.string ⟨#[115, 119, 97, 112]⟩, .string ⟨#[114, 114, 114, 103]⟩], .agg #[.string ⟨#[108, 111, 97, 100]⟩, .string ⟨#[114, 114, 45, 102]⟩], .agg #[.string ⟨#[115, 116, 111, 114, 101]⟩, .string ⟨#[114, 114, 45, 102]⟩], .agg #[.string ⟨#[99, 97, 115]⟩, .string ⟨#[114, 114, 114, 102]⟩], .agg #[.string ⟨#[102, 101, 110, 99, 101]⟩, .string ⟨#[45, 45, 45, 45]⟩], .agg #[.string ⟨#[110, 101, 119]⟩, .string ⟨#[114, 45, 45, 45]⟩], .agg #[.string ⟨#[102, 114, 101, 101]⟩, .string ⟨#[114, 45, 45, 45]⟩], .agg #[.string ⟨#[114, 101, 116, 105, 114, 101]⟩, .string ⟨#[114, 45, 45, 45]⟩], .agg #[.string ⟨#[103, 117, 97, 114, 100]⟩, .string ⟨#[114, 45, 45, 115]⟩], .agg #[.string ⟨#[99, 108, 101, 97, 114]⟩, .string ⟨#[45, 45, 45, 115]⟩], .agg #[.string ⟨#[101, 110, 116, 101, 114]⟩, .string ⟨#[45, 45, 45, 45]⟩], undef, undef, undef], []⟩
def op_kinds.a24 (b : Nat) : Act := ⟨#[.pointer (some ⟨b, 0, none⟩), .agg #[.string ⟨#[104, 97, 108, 116]⟩, .string ⟨#[45, 45, 45, 45]⟩], .agg #[.string ⟨#[115, 101, 116]⟩, .string ⟨#[114, 45, 45, 110]⟩], .agg #[.string ⟨#[99, 111, 112, 121]⟩, .string ⟨#[114, 114, 45, 45]⟩], .agg #[.string ⟨#[97, 100, 100]⟩, .string ⟨#[114, 114, 114, 45]⟩], .agg #[.string ⟨#[115, 117, 98]⟩, .string ⟨#[114, 114, 114, 45]⟩], .agg #[.string ⟨#[109, 117, 108]⟩, .string ⟨#[114, 114, 114, 45]⟩], .agg #[.string ⟨#[100, 105, 118]⟩, .string ⟨#[114, 114, 114, 45]⟩], .agg #[.string ⟨#[106, 117, 109, 112]⟩, .string ⟨#[45, 45, 45, 116]⟩], .agg #[.string ⟨#[122, 101, 114, 111]⟩, .string ⟨#[114, 45, 45, 116]⟩], .agg #[.string ⟨#[115, 97, 109, 101]⟩, .string ⟨#[114, 114, 45, 116]⟩], .agg #[.string ⟨#[108, 111, 111, 107]⟩, .string ⟨#[114, 103, 45, 45]⟩], .agg #[.string ⟨#[112, 117, 116]⟩, .string ⟨#[103, 114, 45, 45]⟩], .agg #[.string ⟨#[115, 119, 97, 112]⟩, .string ⟨#[114, 114, 114, 103]⟩], .agg #[.string ⟨#[108, 111, 97, 100]⟩, .string ⟨#[114, 114, 45, 102]⟩], .agg #[.string ⟨#[115, 116, 111, 114, 101]⟩, .string ⟨#[114, 114, 45, 102]⟩], .agg #[.string ⟨#[99, 97, 115]⟩, .string ⟨#[114, 114, 114, 102]⟩], .agg #[.string ⟨#[102, 101, 110, 99, 101]⟩, .string ⟨#[45, 45, 45, 45]⟩], .agg #[.string ⟨#[110, 101, 119]⟩, .string ⟨#[114, 45, 45, 45]⟩], .agg #[.string ⟨#[102, 114, 101, 101]⟩, .string ⟨#[114, 45, 45, 45]⟩], .agg #[.string ⟨#[114, 101, 116, 105, 114, 101]⟩, .string ⟨#[114, 45, 45, 45]⟩], .agg #[.string ⟨#[103, 117, 97, 114, 100]⟩, .string ⟨#[114, 45, 45, 115]⟩], .agg #[.string ⟨#[99, 108, 101, 97, 114]⟩, .string ⟨#[45, 45, 45, 115]⟩], .agg #[.string ⟨#[101, 110, 116, 101, 114]⟩, .string ⟨#[45, 45, 45, 45]⟩], .agg #[.string ⟨#[108, 101, 97, 118, 101]⟩, .string ⟨#[45, 45, 45, 45]⟩], undef, undef], []⟩
def op_kinds.a25 (b : Nat) : Act := ⟨#[.pointer (some ⟨b, 0, none⟩), .agg #[.string ⟨#[104, 97, 108, 116]⟩, .string ⟨#[45, 45, 45, 45]⟩], .agg #[.string ⟨#[115, 101, 116]⟩, .string ⟨#[114, 45, 45, 110]⟩], .agg #[.string ⟨#[99, 111, 112, 121]⟩, .string ⟨#[114, 114, 45, 45]⟩], .agg #[.string ⟨#[97, 100, 100]⟩, .string ⟨#[114, 114, 114, 45]⟩], .agg #[.string ⟨#[115, 117, 98]⟩, .string ⟨#[114, 114, 114, 45]⟩], .agg #[.string ⟨#[109, 117, 108]⟩, .string ⟨#[114, 114, 114, 45]⟩], .agg #[.string ⟨#[100, 105, 118]⟩, .string ⟨#[114, 114, 114, 45]⟩], .agg #[.string ⟨#[106, 117, 109, 112]⟩, .string ⟨#[45, 45, 45, 116]⟩], .agg #[.string ⟨#[122, 101, 114, 111]⟩, .string ⟨#[114, 45, 45, 116]⟩], .agg #[.string ⟨#[115, 97, 109, 101]⟩, .string ⟨#[114, 114, 45, 116]⟩], .agg #[.string ⟨#[108, 111, 111, 107]⟩, .string ⟨#[114, 103, 45, 45]⟩], .agg #[.string ⟨#[112, 117, 116]⟩, .string ⟨#[103, 114, 45, 45]⟩], .agg #[.string ⟨#[115, 119, 97, 112]⟩, .string ⟨#[114, 114, 114, 103]⟩], .agg #[.string ⟨#[108, 111, 97, 100]⟩, .string ⟨#[114, 114, 45, 102]⟩], .agg #[.string ⟨#[115, 116, 111, 114, 101]⟩, .string ⟨#[114, 114, 45, 102]⟩], .agg #[.string ⟨#[99, 97, 115]⟩, .string ⟨#[114, 114, 114, 102]⟩], .agg #[.string ⟨#[102, 101, 110, 99, 101]⟩, .string ⟨#[45, 45, 45, 45]⟩], .agg #[.string ⟨#[110, 101, 119]⟩, .string ⟨#[114, 45, 45, 45]⟩], .agg #[.string ⟨#[102, 114, 101, 101]⟩, .string ⟨#[114, 45, 45, 45]⟩], .agg #[.string ⟨#[114, 101, 116, 105, 114, 101]⟩, .string ⟨#[114, 45, 45, 45]⟩], .agg #[.string ⟨#[103, 117, 97, 114, 100]⟩, .string ⟨#[114, 45, 45, 115]⟩], .agg #[.string ⟨#[99, 108, 101, 97, 114]⟩, .string ⟨#[45, 45, 45, 115]⟩], .agg #[.string ⟨#[101, 110, 116, 101, 114]⟩, .string ⟨#[45, 45, 45, 45]⟩], .agg #[.string ⟨#[108, 101, 97, 118, 101]⟩, .string ⟨#[45, 45, 45, 45]⟩], .agg #[.string ⟨#[113, 117, 105, 101, 116]⟩, .string ⟨#[45, 45, 45, 45]⟩], undef], []⟩
def op_kinds.a26 (b : Nat) : Act := ⟨#[.pointer (some ⟨b, 0, none⟩), .agg #[.string ⟨#[104, 97, 108, 116]⟩, .string ⟨#[45, 45, 45, 45]⟩], .agg #[.string ⟨#[115, 101, 116]⟩, .string ⟨#[114, 45, 45, 110]⟩], .agg #[.string ⟨#[99, 111, 112, 121]⟩, .string ⟨#[114, 114, 45, 45]⟩], .agg #[.string ⟨#[97, 100, 100]⟩, .string ⟨#[114, 114, 114, 45]⟩], .agg #[.string ⟨#[115, 117, 98]⟩, .string ⟨#[114, 114, 114, 45]⟩], .agg #[.string ⟨#[109, 117, 108]⟩, .string ⟨#[114, 114, 114, 45]⟩], .agg #[.string ⟨#[100, 105, 118]⟩, .string ⟨#[114, 114, 114, 45]⟩], .agg #[.string ⟨#[106, 117, 109, 112]⟩, .string ⟨#[45, 45, 45, 116]⟩], .agg #[.string ⟨#[122, 101, 114, 111]⟩, .string ⟨#[114, 45, 45, 116]⟩], .agg #[.string ⟨#[115, 97, 109, 101]⟩, .string ⟨#[114, 114, 45, 116]⟩], .agg #[.string ⟨#[108, 111, 111, 107]⟩, .string ⟨#[114, 103, 45, 45]⟩], .agg #[.string ⟨#[112, 117, 116]⟩, .string ⟨#[103, 114, 45, 45]⟩], .agg #[.string ⟨#[115, 119, 97, 112]⟩, .string ⟨#[114, 114, 114, 103]⟩], .agg #[.string ⟨#[108, 111, 97, 100]⟩, .string ⟨#[114, 114, 45, 102]⟩], .agg #[.string ⟨#[115, 116, 111, 114, 101]⟩, .string ⟨#[114, 114, 45, 102]⟩], .agg #[.string ⟨#[99, 97, 115]⟩, .string ⟨#[114, 114, 114, 102]⟩], .agg #[.string ⟨#[102, 101, 110, 99, 101]⟩, .string ⟨#[45, 45, 45, 45]⟩], .agg #[.string ⟨#[110, 101, 119]⟩, .string ⟨#[114, 45, 45, 45]⟩], .agg #[.string ⟨#[102, 114, 101, 101]⟩, .string ⟨#[114, 45, 45, 45]⟩], .agg #[.string ⟨#[114, 101, 116, 105, 114, 101]⟩, .string ⟨#[114, 45, 45, 45]⟩], .agg #[.string ⟨#[103, 117, 97, 114, 100]⟩, .string ⟨#[114, 45, 45, 115]⟩], .agg #[.string ⟨#[99, 108, 101, 97, 114]⟩, .string ⟨#[45, 45, 45, 115]⟩], .agg #[.string ⟨#[101, 110, 116, 101, 114]⟩, .string ⟨#[45, 45, 45, 45]⟩], .agg #[.string ⟨#[108, 101, 97, 118, 101]⟩, .string ⟨#[45, 45, 45, 45]⟩], .agg #[.string ⟨#[113, 117, 105, 101, 116]⟩, .string ⟨#[45, 45, 45, 45]⟩], .agg op_kinds.cells.toArray], []⟩
theorem op_kinds.one {P : Program} {ops : Array Oper} {rest : List Oper} {o : Oper} {a a' : Act} {w w' : World} {Q : Exit → Act → World → Prop} (v : Value) (hg : o.guard = none)
    (hv : (execOp a.eval o).run P w = .ok (.value v) w') (ha : a.put o.dst v = a') (h : wpList P ops Q rest a' w') : wpList P ops Q (o :: rest) a w := by
  subst ha
  refine wpList_plain hg fun K hK => ?_
  unfold Oper.wp
  rw [hv, Oper.upon_value]
  exact hK _ _ h
theorem op_kinds.there {w : World} {g : Nat} {t : TypeId} {cs : Array Value} (h : w.heap[g]? = some (.cells cs t (0, 0))) : w.there g 0 cs.size := fun j hj => by
  have h1 := blk_cell h (0 + j)
  have h2 := blk_frozen h (0 + j)
  refine ⟨?_, h2⟩
  rw [h1, Nat.zero_add]
  simp [hj]
theorem op_kinds.row {w : World} {g : Nat} {t : TypeId} {cs : Array Value} (vs : List Value) (h : w.heap[g]? = some (.cells cs t (0, 0))) (hl : vs.length = cs.size) : (w.setCells g 0 vs).heap[g]? = some (.cells vs.toArray t (0, 0)) := by
  obtain ⟨cur', h1, _, h3⟩ := setCells_row vs 0 w cs h (by omega)
  rw [h1]
  have : cur' = vs.toArray := by
    apply Array.toList_inj.1
    rw [h3]
    simp only [List.take_zero, List.nil_append, Nat.zero_add]
    rw [List.drop_of_length_le (by simp; omega)]
    simp
  rw [this]
theorem op_kinds.far {w w1 : World} {g : Nat} (vs : List Value) (h : Below w.heap.size w w1) (hg : w.heap.size ≤ g) : Below w.heap.size w (w1.setCells g 0 vs) := by
  obtain ⟨s1, s2, s3, s4⟩ := setCells_same g vs 0 w1
  exact ⟨s1.trans h.os, s2.trans h.tape, s3.trans h.output, by rw [s4]; exact h.size, fun k hk => (setCells_far vs 0 k (by omega)).trans (h.block k hk)⟩
theorem op_kinds.len : op_kinds.cells.length = 52 := by decide +kernel
theorem op_kinds.zlen : op_kinds.zero.length = 52 := by decide +kernel
def op_kinds.f : Option Unit := some ()
set_option maxHeartbeats 8000000 in
set_option maxRecDepth 100000 in
theorem op_kinds.calls (w : World) : Calls Try.prog 42 #[] w fun e w' => e = .returned (.agg op_kinds.cells.toArray) ∧ Below w.heap.size w w' := by
  have hu := Try.underlying72
  go_enter Try.func42, Try.ntmps42
  generalize hb : w.heap.size = b
  refine wp_seq (wp_region_list ?_)
  refine op_kinds.one (w' := w.alloc (.cells op_kinds.zero.toArray 72)) (a' := op_kinds.a0 b) (.pointer (some ⟨b, 0, none⟩)) rfl (by subst hb; kernel_rfl) (by kernel_rfl) ?_
  have hN : (w.alloc (.cells op_kinds.zero.toArray 72)).heap[b]? = some (.cells op_kinds.zero.toArray 72 (0, 0)) := by subst hb; exact blk_new _ _
  have hB : Below w.heap.size w (w.alloc (.cells op_kinds.zero.toArray 72)) := below_alloc (Below.refl _ _) _
  generalize w.alloc (.cells op_kinds.zero.toArray 72) = w1 at hN hB ⊢
  refine wpList_nil ?_
  refine wp_seq (wp_region_list ?_)
  refine op_kinds.one (w' := w1) (a' := op_kinds.a1 b) (.agg #[.string ⟨#[104, 97, 108, 116]⟩, .string ⟨#[45, 45, 45, 45]⟩]) rfl (by kernel_rfl) (by kernel_rfl) ?_
  refine op_kinds.one (w' := w1) (a' := op_kinds.a2 b) (.agg #[.string ⟨#[115, 101, 116]⟩, .string ⟨#[114, 45, 45, 110]⟩]) rfl (by kernel_rfl) (by kernel_rfl) ?_
  refine op_kinds.one (w' := w1) (a' := op_kinds.a3 b) (.agg #[.string ⟨#[99, 111, 112, 121]⟩, .string ⟨#[114, 114, 45, 45]⟩]) rfl (by kernel_rfl) (by kernel_rfl) ?_
  refine op_kinds.one (w' := w1) (a' := op_kinds.a4 b) (.agg #[.string ⟨#[97, 100, 100]⟩, .string ⟨#[114, 114, 114, 45]⟩]) rfl (by kernel_rfl) (by kernel_rfl) ?_
  refine op_kinds.one (w' := w1) (a' := op_kinds.a5 b) (.agg #[.string ⟨#[115, 117, 98]⟩, .string ⟨#[114, 114, 114, 45]⟩]) rfl (by kernel_rfl) (by kernel_rfl) ?_
  refine op_kinds.one (w' := w1) (a' := op_kinds.a6 b) (.agg #[.string ⟨#[109, 117, 108]⟩, .string ⟨#[114, 114, 114, 45]⟩]) rfl (by kernel_rfl) (by kernel_rfl) ?_
  refine op_kinds.one (w' := w1) (a' := op_kinds.a7 b) (.agg #[.string ⟨#[100, 105, 118]⟩, .string ⟨#[114, 114, 114, 45]⟩]) rfl (by kernel_rfl) (by kernel_rfl) ?_
  refine op_kinds.one (w' := w1) (a' := op_kinds.a8 b) (.agg #[.string ⟨#[106, 117, 109, 112]⟩, .string ⟨#[45, 45, 45, 116]⟩]) rfl (by kernel_rfl) (by kernel_rfl) ?_
  refine op_kinds.one (w' := w1) (a' := op_kinds.a9 b) (.agg #[.string ⟨#[122, 101, 114, 111]⟩, .string ⟨#[114, 45, 45, 116]⟩]) rfl (by kernel_rfl) (by kernel_rfl) ?_
  refine op_kinds.one (w' := w1) (a' := op_kinds.a10 b) (.agg #[.string ⟨#[115, 97, 109, 101]⟩, .string ⟨#[114, 114, 45, 116]⟩]) rfl (by kernel_rfl) (by kernel_rfl) ?_
  refine op_kinds.one (w' := w1) (a' := op_kinds.a11 b) (.agg #[.string ⟨#[108, 111, 111, 107]⟩, .string ⟨#[114, 103, 45, 45]⟩]) rfl (by kernel_rfl) (by kernel_rfl) ?_
  refine op_kinds.one (w' := w1) (a' := op_kinds.a12 b) (.agg #[.string ⟨#[112, 117, 116]⟩, .string ⟨#[103, 114, 45, 45]⟩]) rfl (by kernel_rfl) (by kernel_rfl) ?_
  refine op_kinds.one (w' := w1) (a' := op_kinds.a13 b) (.agg #[.string ⟨#[115, 119, 97, 112]⟩, .string ⟨#[114, 114, 114, 103]⟩]) rfl (by kernel_rfl) (by kernel_rfl) ?_
  refine op_kinds.one (w' := w1) (a' := op_kinds.a14 b) (.agg #[.string ⟨#[108, 111, 97, 100]⟩, .string ⟨#[114, 114, 45, 102]⟩]) rfl (by kernel_rfl) (by kernel_rfl) ?_
  refine op_kinds.one (w' := w1) (a' := op_kinds.a15 b) (.agg #[.string ⟨#[115, 116, 111, 114, 101]⟩, .string ⟨#[114, 114, 45, 102]⟩]) rfl (by kernel_rfl) (by kernel_rfl) ?_
  refine op_kinds.one (w' := w1) (a' := op_kinds.a16 b) (.agg #[.string ⟨#[99, 97, 115]⟩, .string ⟨#[114, 114, 114, 102]⟩]) rfl (by kernel_rfl) (by kernel_rfl) ?_
  refine op_kinds.one (w' := w1) (a' := op_kinds.a17 b) (.agg #[.string ⟨#[102, 101, 110, 99, 101]⟩, .string ⟨#[45, 45, 45, 45]⟩]) rfl (by kernel_rfl) (by kernel_rfl) ?_
  refine op_kinds.one (w' := w1) (a' := op_kinds.a18 b) (.agg #[.string ⟨#[110, 101, 119]⟩, .string ⟨#[114, 45, 45, 45]⟩]) rfl (by kernel_rfl) (by kernel_rfl) ?_
  refine op_kinds.one (w' := w1) (a' := op_kinds.a19 b) (.agg #[.string ⟨#[102, 114, 101, 101]⟩, .string ⟨#[114, 45, 45, 45]⟩]) rfl (by kernel_rfl) (by kernel_rfl) ?_
  refine op_kinds.one (w' := w1) (a' := op_kinds.a20 b) (.agg #[.string ⟨#[114, 101, 116, 105, 114, 101]⟩, .string ⟨#[114, 45, 45, 45]⟩]) rfl (by kernel_rfl) (by kernel_rfl) ?_
  refine op_kinds.one (w' := w1) (a' := op_kinds.a21 b) (.agg #[.string ⟨#[103, 117, 97, 114, 100]⟩, .string ⟨#[114, 45, 45, 115]⟩]) rfl (by kernel_rfl) (by kernel_rfl) ?_
  refine op_kinds.one (w' := w1) (a' := op_kinds.a22 b) (.agg #[.string ⟨#[99, 108, 101, 97, 114]⟩, .string ⟨#[45, 45, 45, 115]⟩]) rfl (by kernel_rfl) (by kernel_rfl) ?_
  refine op_kinds.one (w' := w1) (a' := op_kinds.a23 b) (.agg #[.string ⟨#[101, 110, 116, 101, 114]⟩, .string ⟨#[45, 45, 45, 45]⟩]) rfl (by kernel_rfl) (by kernel_rfl) ?_
  refine op_kinds.one (w' := w1) (a' := op_kinds.a24 b) (.agg #[.string ⟨#[108, 101, 97, 118, 101]⟩, .string ⟨#[45, 45, 45, 45]⟩]) rfl (by kernel_rfl) (by kernel_rfl) ?_
  refine op_kinds.one (w' := w1) (a' := op_kinds.a25 b) (.agg #[.string ⟨#[113, 117, 105, 101, 116]⟩, .string ⟨#[45, 45, 45, 45]⟩]) rfl (by kernel_rfl) (by kernel_rfl) ?_
  refine op_kinds.one (w' := w1) (a' := op_kinds.a26 b) (.agg op_kinds.cells.toArray) rfl (by kernel_rfl) (by kernel_rfl) ?_
  refine wpList_store_mid rfl 72 (.tmp 0) (.tmp 26) rfl b 0 op_kinds.cells.toArray rfl rfl ?_ (by kernel_rfl) (by decide +kernel) ?_
  · have := op_kinds.there hN
    rw [List.size_toArray, op_kinds.zlen] at this
    rw [List.size_toArray, op_kinds.len]
    exact this
  refine wpList_nil ?_
  refine wp_ret ?_
  refine bodyPost_ret (results_single rfl (.cell b 72 op_kinds.cells.toArray (0, 0) _ rfl ?_ hu rfl (by kernel_rfl) .nil)) rfl ?_
  · exact op_kinds.row _ hN (by rw [List.size_toArray, op_kinds.zlen]; exact op_kinds.len)
  · subst hb; exact ⟨rfl, op_kinds.far _ hB (Nat.le_refl _)⟩
theorem op_of.call {P : Program} {ops : Array Oper} {rest : List Oper} {o : Oper} {a : Act} {w : World} {Q : Exit → Act → World → Prop} {f : FuncId} {args : Array Value} {R : Ending → World → Prop} (hc : Calls P f args w R) (hg : o.guard = none)
    (hv : (execOp a.eval o).run P w = .ok (.enter f args) w) (h : ∀ e w', R e w' → ∃ v, e = .returned v ∧ wpList P ops Q rest (a.put o.dst v) w') : wpList P ops Q (o :: rest) a w := by
  refine wpList_plain hg fun K hK => ?_
  unfold Oper.wp
  rw [hv, Oper.upon_enter]
  refine hc.mono ?_
  intro e w' hR
  obtain ⟨v, rfl, hw⟩ := h e w' hR
  exact hK _ _ hw
def op_of.a0 (x : Int) (g : Nat) : Act := ⟨#[.int .i64 x, undef, .pointer (some ⟨g, 0, none⟩), undef, undef, undef, undef, undef, undef, undef, undef, undef, undef, undef, undef], []⟩
def op_of.a1 (x : Int) (g : Nat) : Act := ⟨#[.int .i64 x, undef, .pointer (some ⟨g, 0, none⟩), undef, .agg op_kinds.cells.toArray, undef, undef, undef, undef, undef, undef, undef, undef, undef, undef], []⟩
def op_of.a2 (x : Int) (g g3 : Nat) : Act := ⟨#[.int .i64 x, undef, .pointer (some ⟨g, 0, none⟩), .pointer (some ⟨g3, 0, none⟩), .agg op_kinds.cells.toArray, undef, undef, undef, undef, undef, undef, undef, undef, undef, undef], []⟩
theorem op_of.toList : op_kinds.cells.toArray.toList = op_kinds.cells := rfl
def op_of.f (a0 : Int) : Option (ByteArray × ByteArray) := some (if 0 ≤ a0 ∧ a0 < 26 then (op_kinds.strs.getD (a0.toNat * 2) ⟨#[]⟩, op_kinds.strs.getD (a0.toNat * 2 + 1) ⟨#[]⟩) else (⟨#[]⟩, ⟨#[]⟩))
theorem op_of.cell (i : Nat) (h : i < 52) : op_kinds.cells.toArray[i]? = some (.string (op_kinds.strs.getD i ⟨#[]⟩)) := by
  have hl : op_kinds.strs.length = 52 := by decide +kernel
  unfold op_kinds.cells
  rw [List.getElem?_toArray, List.getElem?_map, List.getD_eq_getElem?_getD, List.getElem?_eq_getElem (by omega)]
  rfl
set_option maxHeartbeats 8000000 in
set_option maxRecDepth 100000 in
theorem op_of.calls (a0 : Int) (r1 r2 : ByteArray) (w : World) (h : op_of.f a0 = some (r1, r2)) : Calls Try.prog 37 #[.int .i64 a0] w fun e w' => e = .returned (.agg #[.string r1, .string r2]) ∧ Below w.heap.size w w' := by
  have hu := Try.underlying66
  have hu72 := Try.underlying72
  go_enter Try.func37, Try.ntmps37
  have hB0 := below_alloc (Below.refl w.heap.size w) (.cells #[.string ⟨#[]⟩, .string ⟨#[]⟩] 66)
  have hN0 := blk_new w (.cells #[.string ⟨#[]⟩, .string ⟨#[]⟩] 66)
  generalize hb : w.heap.size = g at hN0
  refine wp_seq (wp_region_list ?_)
  refine op_kinds.one (w' := w.alloc (.cells #[.string ⟨#[]⟩, .string ⟨#[]⟩] 66)) (a' := op_of.a0 a0 g) (.pointer (some ⟨g, 0, none⟩)) rfl (by subst hb; kernel_rfl) (by kernel_rfl) ?_
  generalize w.alloc (.cells #[.string ⟨#[]⟩, .string ⟨#[]⟩] 66) = w1 at hB0 hN0 ⊢
  refine wpList_nil ?_
  refine wp_seq (wp_region_list ?_)
  refine op_of.call (op_kinds.calls w1) rfl (by kernel_rfl) ?_
  rintro e w2 ⟨rfl, hb2⟩
  refine ⟨_, rfl, ?_⟩
  have hB2 := below_step hB0 hb2
  have hN2 := (hb2.block g (blk_lt hN0)).trans hN0
  have hB3 := below_alloc hB2 (.cells op_kinds.zero.toArray 72)
  have hN3 := blk_alloc hN2 (.cells op_kinds.zero.toArray 72)
  have hM3 := blk_new w2 (.cells op_kinds.zero.toArray 72)
  have hg3 : g < w2.heap.size := blk_lt hN2
  generalize hb3 : w2.heap.size = g3 at hM3 hg3
  refine op_kinds.one (w' := w2.alloc (.cells op_kinds.zero.toArray 72)) (a' := op_of.a2 a0 g g3) (.pointer (some ⟨g3, 0, none⟩)) rfl (by subst hb3; kernel_rfl) (by kernel_rfl) ?_
  generalize w2.alloc (.cells op_kinds.zero.toArray 72) = w3 at hB3 hN3 hM3 ⊢
  refine wpList_store_mid rfl 72 (.tmp 3) (.tmp 4) rfl g3 0 op_kinds.cells.toArray rfl rfl ?_ (by kernel_rfl) (by decide +kernel) ?_
  · have := op_kinds.there hM3
    rw [List.size_toArray, op_kinds.zlen] at this
    rw [List.size_toArray, op_kinds.len]
    exact this
  refine wpList_nil ?_
  have hM4 := op_kinds.row op_kinds.cells.toArray.toList hM3 (by rw [List.size_toArray, op_kinds.zlen]; exact op_kinds.len)
  have hN4 : (w3.setCells g3 0 op_kinds.cells.toArray.toList).heap[g]? = some (.cells #[.string ⟨#[]⟩, .string ⟨#[]⟩] 66 (0, 0)) := (setCells_far _ 0 g (by omega)).trans hN3
  have hB4 : Below w.heap.size w (w3.setCells g3 0 op_kinds.cells.toArray.toList) := op_kinds.far _ hB3 (by have := hB2.size; omega)
  generalize w3.setCells g3 0 op_kinds.cells.toArray.toList = w4 at hM4 hN4 hB4 ⊢
  rw [op_of.toList] at hM4
  clear hB0 hN0 hb2 hB2 hN2 hB3 hN3 hM3
  have c0 := blk_cell hN4 0
  have c1 := blk_cell hN4 1
  have f0 := blk_frozen hN4 0
  have f1 := blk_frozen hN4 1
  simp only [List.getElem?_toArray, List.getElem?_cons_zero, List.getElem?_cons_succ] at c0 c1
  show Code.wp _ _ _ (Act.put (op_of.a2 a0 g g3) none undef) w4
  simp only [Act.put, op_of.a2]
  have hlim : a0.toNat * 2 + 1 < 52 ∨ ¬ (0 ≤ a0 ∧ a0 < 26) := by omega
  by_cases hr : 0 ≤ a0 ∧ a0 < 26
  · have h1 : ¬ a0 < 0 := by omega
    have h2 : ¬ a0 ≥ 26 := by omega
    have hr0 := hr.1
    have hr1 := hr.2
    have d0 := (blk_cell hM4 (a0.toNat * 2)).trans (op_of.cell _ (by omega))
    have d1 := (blk_cell hM4 (a0.toNat * 2 + 1)).trans (op_of.cell _ (by omega))
    unfold op_of.f at h
    rw [if_pos hr] at h
    generalize op_kinds.strs.getD (a0.toNat * 2) ⟨#[]⟩ = s1 at d0 h
    generalize op_kinds.strs.getD (a0.toNat * 2 + 1) ⟨#[]⟩ = s2 at d1 h
    obtain ⟨rfl, rfl⟩ : s1 = r1 ∧ s2 = r2 := by simpa using h
    generalize op_kinds.cells.toArray = V at hM4 ⊢
    clear h hr hM4 hlim
    go_wp2
    refine bodyPost_ret (results_single rfl (.cell g 66 #[.string s1, .string s2] (0, 0) _ rfl (blk_set (blk_set hN4 0 _) 1 _) hu rfl (by kernel_rfl) .nil)) rfl ?_
    rw [hb] at hB4
    exact ⟨rfl, below_far (below_far hB4 (Nat.le_refl _) _) (Nat.le_refl _) _⟩
  · unfold op_of.f at h
    rw [if_neg hr] at h
    obtain ⟨rfl, rfl⟩ : (⟨#[]⟩ : ByteArray) = r1 ∧ (⟨#[]⟩ : ByteArray) = r2 := by simpa using h
    generalize op_kinds.cells.toArray = V at hM4 ⊢
    clear h hM4 hlim
    by_cases h1 : a0 < 0
    · go_wp2
      refine bodyPost_ret (results_single rfl (.cell g 66 #[.string ⟨#[]⟩, .string ⟨#[]⟩] (0, 0) _ rfl (blk_set (blk_set hN4 0 _) 1 _) hu rfl (by kernel_rfl) .nil)) rfl ?_
      rw [hb] at hB4
      exact ⟨rfl, below_far (below_far hB4 (Nat.le_refl _) _) (Nat.le_refl _) _⟩
    · have h2 : a0 ≥ 26 := by omega
      go_wp2
      refine bodyPost_ret (results_single rfl (.cell g 66 #[.string ⟨#[]⟩, .string ⟨#[]⟩] (0, 0) _ rfl (blk_set (blk_set hN4 0 _) 1 _) hu rfl (by kernel_rfl) .nil)) rfl ?_
      rw [hb] at hB4
      exact ⟨rfl, below_far (below_far hB4 (Nat.le_refl _) _) (Nat.le_refl _) _⟩

/-! ### op_Name: function 26 (proved by hand) -/
def op_Name.f (a0 : Int) : Option ByteArray := (op_of.f a0).bind fun x => some x.1
set_option maxHeartbeats 8000000 in
set_option maxRecDepth 100000 in
theorem op_Name.calls (a0 : Int) (r : ByteArray) (w : World) (h : op_Name.f a0 = some r) : Calls Try.prog 26 #[.int .i64 a0] w fun e w' => e = .returned (.string r) ∧ Below w.heap.size w w' := by
  have hu := Try.underlying66
  obtain ⟨r1, r2, h0⟩ : ∃ r1 r2, op_of.f a0 = some (r1, r2) := ⟨_, _, rfl⟩
  have hf : ∀ W : World, (Instr.field 66 (.agg #[.string r1, .string r2]) 0).run Try.prog W = .ok (.string r1) W := fun W => by kernel_rfl
  have hr : r1 = r := by simpa [op_Name.f, h0] using h
  subst hr
  clear h
  have H := Aside0.mk h0
  clear h0
  have HB := Aside0.mk (Below.refl w.heap.size w)
  go_enter Try.func26, Try.ntmps26
  go_wp2_with (go_at_call 37; refine (op_of.calls a0 r1 r2 _ H.out).mono ?_; rintro e w1 ⟨rfl, hb⟩; have HB1 := Aside0.mk (below_step HB.out hb); clear hb HB)
  go_ret
  exact ⟨rfl, HB1.out⟩

/-! ### op_Shape: function 28 (proved by hand) -/
def op_Shape.f (a0 : Int) : Option ByteArray := (op_of.f a0).bind fun x => some x.2
set_option maxHeartbeats 8000000 in
set_option maxRecDepth 100000 in
theorem op_Shape.calls (a0 : Int) (r : ByteArray) (w : World) (h : op_Shape.f a0 = some r) : Calls Try.prog 28 #[.int .i64 a0] w fun e w' => e = .returned (.string r) ∧ Below w.heap.size w w' := by
  have hu := Try.underlying66
  obtain ⟨r1, r2, h0⟩ : ∃ r1 r2, op_of.f a0 = some (r1, r2) := ⟨_, _, rfl⟩
  have hf : ∀ W : World, (Instr.field 66 (.agg #[.string r1, .string r2]) 1).run Try.prog W = .ok (.string r2) W := fun W => by kernel_rfl
  have hr : r2 = r := by simpa [op_Shape.f, h0] using h
  subst hr
  clear h
  have H := Aside0.mk h0
  clear h0
  have HB := Aside0.mk (Below.refl w.heap.size w)
  go_enter Try.func28, Try.ntmps28
  go_wp2_with (go_at_call 37; refine (op_of.calls a0 r1 r2 _ H.out).mono ?_; rintro e w1 ⟨rfl, hb⟩; have HB1 := Aside0.mk (below_step HB.out hb); clear hb HB)
  go_ret
  exact ⟨rfl, HB1.out⟩

/-! ### op_Shares: function 30 -/
def op_Shares.f (a0 : Int) : Option (Bool) := if 11 ≤ a0 then (if a0 ≤ 16 then (some true) else (if 18 ≤ a0 then (some (decide (a0 ≤ 25))) else (some false))) else (if 18 ≤ a0 then (some (decide (a0 ≤ 25))) else (some false))
set_option maxHeartbeats 8000000 in
set_option maxRecDepth 100000 in
theorem op_Shares.calls (a0 : Int) (r : Bool) (w : World) (h : op_Shares.f a0 = some r) :
    Calls Try.prog 30 #[.int .i64 a0] w fun e w' => e = .returned (.bool r) ∧ Drawn0 w w' := by
  have H : (if 11 ≤ a0 then (if a0 ≤ 16 then (some true) else (if 18 ≤ a0 then (some (decide (a0 ≤ 25))) else (some false))) else (if 18 ≤ a0 then (some (decide (a0 ≤ 25))) else (some false))) = some r := h
  clear h
  by_cases c2 : 11 ≤ a0
  · rw [if_pos c2] at H
    have c2b0 : decide (11 ≤ a0) = true := decide_eq_true c2
    clear c2
    by_cases c3 : a0 ≤ 16
    · rw [if_pos c3] at H
      have c3b0 : decide (a0 ≤ 16) = true := decide_eq_true c3
      clear c3
      obtain rfl := Option.some.inj H
      go_enter Try.func30, Try.ntmps30
      go_wp2
      go_ret
      exact ⟨by first | rfl | (simp; done) | (simp [*]; done), by repeat (first | exact Drawn0.refl _ | apply Drawn0.step)⟩
    · rw [if_neg c3] at H
      have c3b0 : decide (a0 ≤ 16) = false := decide_eq_false c3
      clear c3
      by_cases c4 : 18 ≤ a0
      · rw [if_pos c4] at H
        have c4b0 : decide (18 ≤ a0) = true := decide_eq_true c4
        clear c4
        obtain rfl := Option.some.inj H
        go_enter Try.func30, Try.ntmps30
        go_wp2
        go_ret
        exact ⟨by first | rfl | (simp; done) | (simp [*]; done), by repeat (first | exact Drawn0.refl _ | apply Drawn0.step)⟩
      · rw [if_neg c4] at H
        have c4b0 : decide (18 ≤ a0) = false := decide_eq_false c4
        clear c4
        obtain rfl := Option.some.inj H
        go_enter Try.func30, Try.ntmps30
        go_wp2
        go_ret
        exact ⟨by first | rfl | (simp; done) | (simp [*]; done), by repeat (first | exact Drawn0.refl _ | apply Drawn0.step)⟩
  · rw [if_neg c2] at H
    have c2b0 : decide (11 ≤ a0) = false := decide_eq_false c2
    clear c2
    by_cases c5 : 18 ≤ a0
    · rw [if_pos c5] at H
      have c5b0 : decide (18 ≤ a0) = true := decide_eq_true c5
      clear c5
      obtain rfl := Option.some.inj H
      go_enter Try.func30, Try.ntmps30
      go_wp2
      go_ret
      exact ⟨by first | rfl | (simp; done) | (simp [*]; done), by repeat (first | exact Drawn0.refl _ | apply Drawn0.step)⟩
    · rw [if_neg c5] at H
      have c5b0 : decide (18 ≤ a0) = false := decide_eq_false c5
      clear c5
      obtain rfl := Option.some.inj H
      go_enter Try.func30, Try.ntmps30
      go_wp2
      go_ret
      exact ⟨by first | rfl | (simp; done) | (simp [*]; done), by repeat (first | exact Drawn0.refl _ | apply Drawn0.step)⟩

/-! ### op_Op: function 36 (proved by hand) -/
theorem op_Op.idx (k : Nat) (h : k < 26) (W : World) : (Instr.index 72 (.agg op_kinds.cells.toArray) (.int .i64 k)).run Try.prog W = .ok (.agg #[.string (op_kinds.strs.getD (k * 2) ⟨#[]⟩), .string (op_kinds.strs.getD (k * 2 + 1) ⟨#[]⟩)]) W := by
  have : k = 0 ∨ k = 1 ∨ k = 2 ∨ k = 3 ∨ k = 4 ∨ k = 5 ∨ k = 6 ∨ k = 7 ∨ k = 8 ∨ k = 9 ∨ k = 10 ∨ k = 11 ∨ k = 12 ∨ k = 13 ∨ k = 14 ∨ k = 15 ∨ k = 16 ∨ k = 17 ∨ k = 18 ∨ k = 19 ∨ k = 20 ∨ k = 21 ∨ k = 22 ∨ k = 23 ∨ k = 24 ∨ k = 25 := by omega
  rcases this with rfl | rfl | rfl | rfl | rfl | rfl | rfl | rfl | rfl | rfl | rfl | rfl | rfl | rfl | rfl | rfl | rfl | rfl | rfl | rfl | rfl | rfl | rfl | rfl | rfl | rfl <;> (show _ = _; kernel_rfl)
def op_Op.find (a0 : ByteArray) : Nat → Nat → Int
  | _, 0 => 0
  | i, n + 1 => if 0 < i ∧ ((op_kinds.strs.getD (i * 2) ⟨#[]⟩).toList == a0.toList) = true then i else op_Op.find a0 (i + 1) n
def op_Op.f (a0 : ByteArray) : Option Int := some (op_Op.find a0 0 26)
set_option maxHeartbeats 8000000 in
set_option maxRecDepth 100000 in
theorem op_Op.calls (a0 : ByteArray) (r : Int) (w : World) (h : op_Op.f a0 = some r) : Calls Try.prog 36 #[.string a0] w fun e w' => e = .returned (.int .i64 r) ∧ Below w.heap.size w w' := by
  have hu := Try.underlying66
  have H0 : op_Op.find a0 0 26 = r := by simpa [op_Op.f] using h
  have H := Aside0.mk H0
  clear h H0
  have HB := Aside0.mk (Below.refl w.heap.size w)
  have HI : Aside0 (∀ k : Nat, k < 26 → ∀ W : World, (Instr.index 72 (.agg op_kinds.cells.toArray) (.int .i64 k)).run Try.prog W = .ok (.agg #[.string (op_kinds.strs.getD (k * 2) ⟨#[]⟩), .string (op_kinds.strs.getD (k * 2 + 1) ⟨#[]⟩)]) W) := ⟨op_Op.idx⟩
  go_enter Try.func36, Try.ntmps36
  go_wp2_with (go_at_call 42; refine (op_kinds.calls _).mono ?_; rintro e w1 ⟨rfl, hb⟩; have HB1 := Aside0.mk (below_step HB.out hb); clear hb HB; generalize op_kinds.cells.toArray = V at HI ⊢)
  go_loopw [6] (fun v6 wr => ∃ k : Nat, k ≤ 26 ∧ v6 = .int .i64 k ∧ Aside0 (op_Op.find a0 k (26 - k) = r) ∧ Aside0 (Below w.heap.size w wr)) (fun i _ => 26 - (intOf i).toNat)
  case atStart => exact ⟨0, by omega, rfl, H, HB1⟩
  case round =>
    obtain ⟨k, hk, rfl, HF, HB2⟩ := hrel
    clear HB1 H
    by_cases hlt : k < 26
    · have hidx := HI.out k hlt
      have HF2 : Aside0 ((if 0 < k ∧ ((op_kinds.strs.getD (k * 2) ⟨#[]⟩).toList == a0.toList) = true then (k : Int) else op_Op.find a0 (k + 1) (25 - k)) = r) := ⟨by
        have := HF.out
        rw [show 26 - k = (25 - k) + 1 by omega] at this
        simpa only [op_Op.find] using this⟩
      clear HF
      generalize op_kinds.strs.getD (k * 2) ⟨#[]⟩ = s1 at hidx HF2
      generalize op_kinds.strs.getD (k * 2 + 1) ⟨#[]⟩ = s2 at hidx
      have hlt2 : (k : Int) < 26 := by omega
      by_cases h0 : (k : Int) > 0
      · by_cases he : (s1.toList == a0.toList) = true
        · have hr : (k : Int) = r := by
            have := HF2.out
            rw [if_pos ⟨by omega, he⟩] at this
            exact this
          subst hr
          go_wp2
          go_ret
          exact ⟨rfl, below_alloc HB2.out _⟩
        · have he2 : (s1.toList == a0.toList) = false := by simpa using he
          have hr : op_Op.find a0 (k + 1) (25 - k) = r := by
            have := HF2.out
            rw [if_neg (fun hh => he hh.2)] at this
            exact this
          clear he
          go_wp2
          refine ⟨⟨k + 1, by omega, by go_num, ⟨?_⟩, ⟨below_alloc HB2.out _⟩⟩, by simp [intOf]; omega⟩
          rw [show 26 - (k + 1) = 25 - k by omega]
          exact hr
      · have hr : op_Op.find a0 (k + 1) (25 - k) = r := by
          have := HF2.out
          rw [if_neg (fun hh => h0 (by omega))] at this
          exact this
        go_wp2
        refine ⟨⟨k + 1, by omega, by go_num, ⟨?_⟩, ⟨below_alloc HB2.out _⟩⟩, by simp [intOf]; omega⟩
        rw [show 26 - (k + 1) = 25 - k by omega]
        exact hr
    · have hr : (0 : Int) = r := by
        have := HF.out
        rw [show 26 - k = 0 by omega] at this
        simpa only [op_Op.find] using this
      have hlt2 : ¬ (k : Int) < 26 := by omega
      subst hr
      go_wp2
      go_ret
      exact ⟨rfl, HB2.out⟩

/-! ### warrenerlaw09_alive: function 25 -/
def warrenerlaw09_alive.f  : Option (Bool) := (op_Op.f (⟨#[99, 97, 115]⟩ : ByteArray)).bind fun t101 => (if t101 = 16 then ((op_Name.f 16).bind fun t102 => (if t102.toList = ([99, 97, 115] : List UInt8) then ((op_Shape.f 16).bind fun t103 => (if t103.toList = ([114, 114, 114, 102] : List UInt8) then ((op_Shares.f 16).bind fun t104 => (some t104)) else (some false))) else (some false))) else (some false))
set_option maxHeartbeats 8000000 in
set_option maxRecDepth 100000 in
theorem warrenerlaw09_alive.calls  (r : Bool) (w : World) (h : warrenerlaw09_alive.f  = some r) :
    Calls Try.prog 25 #[] w fun e w' => e = .returned (.bool r) ∧ Below w.heap.size w w' := by
  have HB := Aside0.mk (Below.refl w.heap.size w)
  have H : ((op_Op.f (⟨#[99, 97, 115]⟩ : ByteArray)).bind fun t101 => (if t101 = 16 then ((op_Name.f 16).bind fun t102 => (if t102.toList = ([99, 97, 115] : List UInt8) then ((op_Shape.f 16).bind fun t103 => (if t103.toList = ([114, 114, 114, 102] : List UInt8) then ((op_Shares.f 16).bind fun t104 => (some t104)) else (some false))) else (some false))) else (some false))) = some r := h
  clear h
  replace H := Option.bind_eq_some_iff.mp H
  obtain ⟨t101, A10, H⟩ := H
  replace H : (if t101 = 16 then ((op_Name.f 16).bind fun t102 => (if t102.toList = ([99, 97, 115] : List UInt8) then ((op_Shape.f 16).bind fun t103 => (if t103.toList = ([114, 114, 114, 102] : List UInt8) then ((op_Shares.f 16).bind fun t104 => (some t104)) else (some false))) else (some false))) else (some false)) = some r := H
  have A1 := Aside0.mk A10
  clear A10
  by_cases c2 : t101 = 16
  · rw [if_pos c2] at H
    have c2b0 : (t101 == 16) = true := beq_iff_eq.mpr c2
    have c2b1 : (t101 != 16) = false := bne_eq_false_iff_eq.mpr c2
    clear c2
    replace H := Option.bind_eq_some_iff.mp H
    obtain ⟨t102, A30, H⟩ := H
    replace H : (if t102.toList = ([99, 97, 115] : List UInt8) then ((op_Shape.f 16).bind fun t103 => (if t103.toList = ([114, 114, 114, 102] : List UInt8) then ((op_Shares.f 16).bind fun t104 => (some t104)) else (some false))) else (some false)) = some r := H
    have A3 := Aside0.mk A30
    clear A30
    by_cases c4 : t102.toList = ([99, 97, 115] : List UInt8)
    · rw [if_pos c4] at H
      have c4b0 : (t102.toList == ([99, 97, 115] : List UInt8)) = true := beq_iff_eq.mpr c4
      have c4b1 : (t102.toList != ([99, 97, 115] : List UInt8)) = false := bne_eq_false_iff_eq.mpr c4
      clear c4
      replace H := Option.bind_eq_some_iff.mp H
      obtain ⟨t103, A50, H⟩ := H
      replace H : (if t103.toList = ([114, 114, 114, 102] : List UInt8) then ((op_Shares.f 16).bind fun t104 => (some t104)) else (some false)) = some r := H
      have A5 := Aside0.mk A50
      clear A50
      by_cases c6 : t103.toList = ([114, 114, 114, 102] : List UInt8)
      · rw [if_pos c6] at H
        have c6b0 : (t103.toList == ([114, 114, 114, 102] : List UInt8)) = true := beq_iff_eq.mpr c6
        have c6b1 : (t103.toList != ([114, 114, 114, 102] : List UInt8)) = false := bne_eq_false_iff_eq.mpr c6
        clear c6
        replace H := Option.bind_eq_some_iff.mp H
        obtain ⟨t104, A70, H⟩ := H
        replace H : (some t104) = some r := H
        have A7 := Aside0.mk A70
        clear A70
        obtain rfl := Option.some.inj H
        go_enter Try.func25, Try.ntmps25
        go_wp2_with (first | ((with_reducible refine gate_callee (f := 36) rfl ?_); refine goesL_ (some 1) rfl rfl Try.func36 (by kernel_rfl) rfl #[.string (⟨#[99, 97, 115]⟩ : ByteArray)] rfl (by (try simp only [List.map_toArray, List.map_cons, List.map_nil]); first | done | rfl | (simp only [List.length_drop, List.length_take]; rfl)) ?_; (with_reducible refine (op_Op.calls (⟨#[99, 97, 115]⟩ : ByteArray) t101 _ A1.out).mono ?_); rintro e w8 ⟨rfl, hb⟩; (try clear A1); refine ⟨_, rfl, ?_⟩; have n0_ := Aside0.mk (below_step (by repeat (first | (with_reducible first | exact HB.out | apply below_alloc | apply pw_below_drewN | apply below_drew1) | exact HB.out)) hb); clear HB; have HB := n0_; clear n0_; (try clear hb); (try clear hb2); (try clear hk); (try clear hi)) | (go_at_call 26; (with_reducible refine (op_Name.calls 16 t102 _ A3.out).mono ?_); rintro e w9 ⟨rfl, hb⟩; (try clear A3); have n0_ := Aside0.mk (below_step (by repeat (first | (with_reducible first | exact HB.out | apply below_alloc | apply pw_below_drewN | apply below_drew1) | exact HB.out)) hb); clear HB; have HB := n0_; clear n0_; (try clear hb); (try clear hb2); (try clear hk); (try clear hi)) | (go_at_call 28; (with_reducible refine (op_Shape.calls 16 t103 _ A5.out).mono ?_); rintro e w10 ⟨rfl, hb⟩; (try clear A5); have n0_ := Aside0.mk (below_step (by repeat (first | (with_reducible first | exact HB.out | apply below_alloc | apply pw_below_drewN | apply below_drew1) | exact HB.out)) hb); clear HB; have HB := n0_; clear n0_; (try clear hb); (try clear hb2); (try clear hk); (try clear hi)) | (go_at_call 30; (with_reducible refine (op_Shares.calls 16 t104 _ A7.out).mono ?_); rintro e w' ⟨rfl, ⟨nd, rfl⟩⟩; (try clear A7)))
        go_ret
        exact ⟨by first | rfl | (simp [errW_none, errW_some] <;> rfl) | (simp [*, errW_none, errW_some] <;> rfl), by repeat (first | (with_reducible first | exact HB.out | apply below_alloc | apply pw_below_drewN | apply below_drew1) | exact HB.out)⟩
      · rw [if_neg c6] at H
        have c6b0 : (t103.toList == ([114, 114, 114, 102] : List UInt8)) = false := beq_eq_false_iff_ne.mpr c6
        have c6b1 : (t103.toList != ([114, 114, 114, 102] : List UInt8)) = true := bne_iff_ne.mpr c6
        obtain rfl := Option.some.inj H
        go_enter Try.func25, Try.ntmps25
        go_wp2_with (first | ((with_reducible refine gate_callee (f := 36) rfl ?_); refine goesL_ (some 1) rfl rfl Try.func36 (by kernel_rfl) rfl #[.string (⟨#[99, 97, 115]⟩ : ByteArray)] rfl (by (try simp only [List.map_toArray, List.map_cons, List.map_nil]); first | done | rfl | (simp only [List.length_drop, List.length_take]; rfl)) ?_; (with_reducible refine (op_Op.calls (⟨#[99, 97, 115]⟩ : ByteArray) t101 _ A1.out).mono ?_); rintro e w11 ⟨rfl, hb⟩; (try clear A1); refine ⟨_, rfl, ?_⟩; have n0_ := Aside0.mk (below_step (by repeat (first | (with_reducible first | exact HB.out | apply below_alloc | apply pw_below_drewN | apply below_drew1) | exact HB.out)) hb); clear HB; have HB := n0_; clear n0_; (try clear hb); (try clear hb2); (try clear hk); (try clear hi)) | (go_at_call 26; (with_reducible refine (op_Name.calls 16 t102 _ A3.out).mono ?_); rintro e w12 ⟨rfl, hb⟩; (try clear A3); have n0_ := Aside0.mk (below_step (by repeat (first | (with_reducible first | exact HB.out | apply below_alloc | apply pw_below_drewN | apply below_drew1) | exact HB.out)) hb); clear HB; have HB := n0_; clear n0_; (try clear hb); (try clear hb2); (try clear hk); (try clear hi)) | (go_at_call 28; (with_reducible refine (op_Shape.calls 16 t103 _ A5.out).mono ?_); rintro e w13 ⟨rfl, hb⟩; (try clear A5); have n0_ := Aside0.mk (below_step (by repeat (first | (with_reducible first | exact HB.out | apply below_alloc | apply pw_below_drewN | apply below_drew1) | exact HB.out)) hb); clear HB; have HB := n0_; clear n0_; (try clear hb); (try clear hb2); (try clear hk); (try clear hi)))
        go_ret
        exact ⟨by first | rfl | (simp [errW_none, errW_some] <;> rfl) | (simp [*, errW_none, errW_some] <;> rfl), by repeat (first | (with_reducible first | exact HB.out | apply below_alloc | apply pw_below_drewN | apply below_drew1) | exact HB.out)⟩
    · rw [if_neg c4] at H
      have c4b0 : (t102.toList == ([99, 97, 115] : List UInt8)) = false := beq_eq_false_iff_ne.mpr c4
      have c4b1 : (t102.toList != ([99, 97, 115] : List UInt8)) = true := bne_iff_ne.mpr c4
      obtain rfl := Option.some.inj H
      go_enter Try.func25, Try.ntmps25
      go_wp2_with (first | ((with_reducible refine gate_callee (f := 36) rfl ?_); refine goesL_ (some 1) rfl rfl Try.func36 (by kernel_rfl) rfl #[.string (⟨#[99, 97, 115]⟩ : ByteArray)] rfl (by (try simp only [List.map_toArray, List.map_cons, List.map_nil]); first | done | rfl | (simp only [List.length_drop, List.length_take]; rfl)) ?_; (with_reducible refine (op_Op.calls (⟨#[99, 97, 115]⟩ : ByteArray) t101 _ A1.out).mono ?_); rintro e w14 ⟨rfl, hb⟩; (try clear A1); refine ⟨_, rfl, ?_⟩; have n0_ := Aside0.mk (below_step (by repeat (first | (with_reducible first | exact HB.out | apply below_alloc | apply pw_below_drewN | apply below_drew1) | exact HB.out)) hb); clear HB; have HB := n0_; clear n0_; (try clear hb); (try clear hb2); (try clear hk); (try clear hi)) | (go_at_call 26; (with_reducible refine (op_Name.calls 16 t102 _ A3.out).mono ?_); rintro e w15 ⟨rfl, hb⟩; (try clear A3); have n0_ := Aside0.mk (below_step (by repeat (first | (with_reducible first | exact HB.out | apply below_alloc | apply pw_below_drewN | apply below_drew1) | exact HB.out)) hb); clear HB; have HB := n0_; clear n0_; (try clear hb); (try clear hb2); (try clear hk); (try clear hi)))
      go_ret
      exact ⟨by first | rfl | (simp [errW_none, errW_some] <;> rfl) | (simp [*, errW_none, errW_some] <;> rfl), by repeat (first | (with_reducible first | exact HB.out | apply below_alloc | apply pw_below_drewN | apply below_drew1) | exact HB.out)⟩
  · rw [if_neg c2] at H
    have c2b0 : (t101 == 16) = false := beq_eq_false_iff_ne.mpr c2
    have c2b1 : (t101 != 16) = true := bne_iff_ne.mpr c2
    obtain rfl := Option.some.inj H
    go_enter Try.func25, Try.ntmps25
    go_wp2_with (first | ((with_reducible refine gate_callee (f := 36) rfl ?_); refine goesL_ (some 1) rfl rfl Try.func36 (by kernel_rfl) rfl #[.string (⟨#[99, 97, 115]⟩ : ByteArray)] rfl (by (try simp only [List.map_toArray, List.map_cons, List.map_nil]); first | done | rfl | (simp only [List.length_drop, List.length_take]; rfl)) ?_; (with_reducible refine (op_Op.calls (⟨#[99, 97, 115]⟩ : ByteArray) t101 _ A1.out).mono ?_); rintro e w16 ⟨rfl, hb⟩; (try clear A1); refine ⟨_, rfl, ?_⟩; have n0_ := Aside0.mk (below_step (by repeat (first | (with_reducible first | exact HB.out | apply below_alloc | apply pw_below_drewN | apply below_drew1) | exact HB.out)) hb); clear HB; have HB := n0_; clear n0_; (try clear hb); (try clear hb2); (try clear hk); (try clear hi)))
    go_ret
    exact ⟨by first | rfl | (simp [errW_none, errW_some] <;> rfl) | (simp [*, errW_none, errW_some] <;> rfl), by repeat (first | (with_reducible first | exact HB.out | apply below_alloc | apply pw_below_drewN | apply below_drew1) | exact HB.out)⟩

/-! ### warrenerref08_Words: function 38 -/
mutual
def warrenerref08_Words.l0 : Nat → ByteArray → List ByteArray → Int → Int → Option (List ByteArray)
  | 0, _, _, _, _ => none
  | k + 1, x0, x3, x4, x5 => if x5 ≤ (x0.size : Int) then (if x5 < (x0.size : Int) then (if 0 ≤ x5 then (warrenerref08_Words.j1 k x0 x3 x4 x5 ((bt x0 x5) != 32)) else (none)) else (warrenerref08_Words.j1 k x0 x3 x4 x5 false)) else (some x3)
def warrenerref08_Words.j1 : Nat → ByteArray → List ByteArray → Int → Int → Bool → Option (List ByteArray)
  | 0, _, _, _, _, _ => none
  | k + 1, x0, x3, x4, x5, x21 => if x21 = true then (warrenerref08_Words.l0 k x0 x3 x4 (wrap64 (x5 + 1))) else (if x5 > x4 then (if 0 ≤ x4 then (if x4 ≤ x5 then (if x5 ≤ (x0.size : Int) then (if x3.length < 8796093022208 then (warrenerref08_Words.l0 k x0 (x3 ++ [x0.extract (x4 : Int).toNat (x5 : Int).toNat]) (wrap64 (x5 + 1)) (wrap64 (x5 + 1))) else (none)) else (none)) else (none)) else (none)) else (warrenerref08_Words.l0 k x0 x3 (wrap64 (x5 + 1)) (wrap64 (x5 + 1))))
end
def warrenerref08_Words.f (k : Nat) (a0 : ByteArray) : Option (List ByteArray) := warrenerref08_Words.l0 k a0 ([] : List ByteArray) 0 0
theorem warrenerref08_Words.mono_l : ∀ k, (∀ y0 y1 y2 y3, LeO (warrenerref08_Words.l0 k y0 y1 y2 y3) (warrenerref08_Words.l0 (k + 1) y0 y1 y2 y3)) ∧ (∀ y0 y1 y2 y3 y4, LeO (warrenerref08_Words.j1 k y0 y1 y2 y3 y4) (warrenerref08_Words.j1 (k + 1) y0 y1 y2 y3 y4))
  | 0 => ⟨fun _ _ _ _ r h => by simp [warrenerref08_Words.l0] at h, fun _ _ _ _ _ r h => by simp [warrenerref08_Words.j1] at h⟩
  | k + 1 => by
    obtain ⟨ih0, ih1⟩ := warrenerref08_Words.mono_l k
    refine ⟨?_, ?_⟩
    · intro y0 y1 y2 y3
      unfold warrenerref08_Words.l0
      repeat' first
      | (with_reducible exact ih0 _ _ _ _)
      | (with_reducible exact ih1 _ _ _ _ _)
      | (with_reducible exact LeO.refl _)
      | (with_reducible exact LeO.none _)
      | (with_reducible refine LeO.ite ?_ ?_)
      | (with_reducible refine LeO.bind ?_ (fun _ => ?_))
      | exact ih0 _ _ _ _
      | exact ih1 _ _ _ _ _
      | exact LeO.none _
      | refine LeO.ite ?_ ?_
      | refine LeO.bind ?_ (fun _ => ?_)
    · intro y0 y1 y2 y3 y4
      unfold warrenerref08_Words.j1
      repeat' first
      | (with_reducible exact ih0 _ _ _ _)
      | (with_reducible exact ih1 _ _ _ _ _)
      | (with_reducible exact LeO.refl _)
      | (with_reducible exact LeO.none _)
      | (with_reducible refine LeO.ite ?_ ?_)
      | (with_reducible refine LeO.bind ?_ (fun _ => ?_))
      | exact ih0 _ _ _ _
      | exact ih1 _ _ _ _ _
      | exact LeO.none _
      | refine LeO.ite ?_ ?_
      | refine LeO.bind ?_ (fun _ => ?_)
theorem warrenerref08_Words.mono : ∀ a0 k, LeO (warrenerref08_Words.f k a0) (warrenerref08_Words.f (k + 1) a0) := by
  intro a0 k
  obtain ⟨ih0, ih1⟩ := warrenerref08_Words.mono_l k
  unfold warrenerref08_Words.f
  repeat' first
      | (with_reducible exact ih0 _ _ _ _)
      | (with_reducible exact ih1 _ _ _ _ _)
      | (with_reducible exact LeO.refl _)
      | (with_reducible exact LeO.none _)
      | (with_reducible refine LeO.ite ?_ ?_)
      | (with_reducible refine LeO.bind ?_ (fun _ => ?_))
      | exact ih0 _ _ _ _
      | exact ih1 _ _ _ _ _
      | exact LeO.none _
      | refine LeO.ite ?_ ?_
      | refine LeO.bind ?_ (fun _ => ?_)
set_option maxHeartbeats 8000000 in
set_option maxRecDepth 100000 in
theorem warrenerref08_Words.calls (k : Nat) (a0 : ByteArray) (r : List ByteArray) (w : World) (h : warrenerref08_Words.f k a0 = some r) :
    Calls Try.prog 38 #[.string a0] w fun e w' => ∃ v0_ : Value, e = .returned (v0_) ∧ Kd.R Kd.string 9 w' w.heap.size (fun _ => True) v0_ r ∧ Below w.heap.size w w' := by
  have HB := Aside0.mk (Below.refl w.heap.size w)
  have H : (warrenerref08_Words.l0 k a0 ([] : List ByteArray) 0 0) = some r := h
  clear h
  have H' := Aside0.mk H
  clear H
  go_enter Try.func38, Try.ntmps38
  go_wp2
  go_loopg [3, 4, 5] k (fun kq v3 v4 v5 w' => ∃ (x3_1 : List ByteArray) (x4_1 : Int) (x5_1 : Int), v4 = .int .i64 x4_1 ∧ v5 = .int .i64 x5_1 ∧ Aside0 (warrenerref08_Words.l0 kq a0 x3_1 x4_1 x5_1 = some r) ∧ Aside0 (kq ≤ k) ∧ Aside0 (Kd.R Kd.string 9 w' w.heap.size (fun _ => True) v3 x3_1) ∧ Aside0 (Below w.heap.size w w'))
  case atStart => exact ⟨(([] : List ByteArray)), (0), (0), (by first | rfl | (simp; done) | (simp [*]; done)), (by first | rfl | (simp; done) | (simp [*]; done)), H', ⟨Nat.le_refl _⟩, ⟨by first | exact Kd.R_nil _ _ _ _ _ | exact Kd.N_nil _ _ _ _ _ | exact Kd.V_nil _ _ _ _ _ | exact Kd.Q_nil _ _ _ _ _ | exact Kd.S_nil _ _ _ _ _⟩, ⟨by repeat (first | (with_reducible first | exact HB.out | apply below_alloc | apply pw_below_drewN | apply below_drew1) | exact HB.out)⟩⟩
  case round =>
    clear H'
    obtain ⟨x3_1, x4_1, x5_1, rfl, rfl, HA, HK1, HO_3, HB⟩ := hrel
    cases gk with
    | zero => exact absurd HA.out (by simp [warrenerref08_Words.l0])
    | succ k1 =>
      have H := HA.out
      clear HA
      simp only [warrenerref08_Words.l0] at H
      by_cases c2 : x5_1 ≤ (a0.size : Int)
      · rw [if_pos c2] at H
        have c2b0 : decide (x5_1 ≤ (a0.size : Int)) = true := decide_eq_true c2
        clear c2
        have HC3 := Aside0.mk H
        clear H
        go_upto_region 6 with (fail)
        go_cut [21] (fun v21 wc => ∃ (kq : Nat) (x21_2 : Bool), v21 = .bool x21_2 ∧ Aside0 (warrenerref08_Words.j1 kq a0 x3_1 x4_1 x5_1 x21_2 = some r) ∧ Aside0 (kq ≤ k1) ∧ Aside0 (Kd.R Kd.string 9 wc w.heap.size (fun _ => True) u3 x3_1) ∧ Aside0 (Below w.heap.size w wc))
        case first =>
          have H := HC3.out
          clear HC3
          by_cases c4 : x5_1 < (a0.size : Int)
          · rw [if_pos c4] at H
            have c4b0 : decide (x5_1 < (a0.size : Int)) = true := decide_eq_true c4
            clear c4
            (first | rw [c4b0] | (simp only [i64_w, i32_w]; rw [c4b0]) | skip)
            by_cases c5 : 0 ≤ x5_1
            · rw [if_pos c5] at H
              have c5b0 : decide (0 ≤ x5_1) = true := decide_eq_true c5
              clear c5
              have H' := Aside0.mk H
              clear H
              have p6 : 0 ≤ (x5_1 : Int) := of_decide_eq_true (by first | (with_reducible assumption) | assumption)
              have q6 : x5_1 < (a0.size : Int) := of_decide_eq_true (by first | (with_reducible assumption) | assumption)
              have hx6 := bt_at a0 x5_1
              replace p6 := eq_true p6
              replace q6 := eq_true q6
              go_wp2
              go_meet
              case rel => exact ⟨_, (((bt a0 x5_1) != 32)), (by first | rfl | (simp; done) | (simp [*]; done)), H', ⟨by have := HK1.out; first | omega | exact Nat.le_refl _⟩, ⟨by (with_reducible repeat (first | apply Kd.R_alloc | apply Kd.R_drewN | apply Kd.R_drew)); exact HO_3.out⟩, ⟨by repeat (first | (with_reducible first | exact HB.out | apply below_alloc | apply pw_below_drewN | apply below_drew1) | exact HB.out)⟩⟩
            · rw [if_neg c5] at H
              exact absurd H (by simp)
          · rw [if_neg c4] at H
            have c4b0 : decide (x5_1 < (a0.size : Int)) = false := decide_eq_false c4
            clear c4
            (first | rw [c4b0] | (simp only [i64_w, i32_w]; rw [c4b0]) | skip)
            have H' := Aside0.mk H
            clear H
            go_wp2
            go_meet
            case rel => exact ⟨_, (false), (by first | rfl | (simp; done) | (simp [*]; done)), H', ⟨by have := HK1.out; first | omega | exact Nat.le_refl _⟩, ⟨by (with_reducible repeat (first | apply Kd.R_alloc | apply Kd.R_drewN | apply Kd.R_drew)); exact HO_3.out⟩, ⟨by repeat (first | (with_reducible first | exact HB.out | apply below_alloc | apply pw_below_drewN | apply below_drew1) | exact HB.out)⟩⟩
        case rest =>
          clear HC3
          try clear c2
          try clear c2b0
          try clear p2
          try clear c3
          try clear c4
          try clear c4b0
          try clear c5
          try clear c5b0
          try clear p6
          try clear q6
          try clear hx6
          try clear p6
          try clear q6
          obtain ⟨kq, x21_2, rfl, HA, HJ2, HO_3, HB⟩ := hcut
          cases kq with
          | zero => exact absurd HA.out (by simp [warrenerref08_Words.j1])
          | succ kj2 =>
            have H := HA.out
            clear HA
            simp only [warrenerref08_Words.j1] at H
            by_cases c7 : x21_2 = true
            · subst c7
              have H1 : (warrenerref08_Words.l0 kj2 a0 x3_1 x4_1 (wrap64 (x5_1 + 1))) = some r := by rw [if_pos rfl] at H; exact H
              clear H
              have H := H1
              clear H1
              have H' := Aside0.mk H
              clear H
              go_wp2
              go_roundg kj2
              case measure => have := HK1.out; have := HJ2.out; omega
              case rel => exact ⟨(x3_1), (x4_1), (wrap64 (x5_1 + 1)), (by first | rfl | (simp; done) | (simp [*]; done)), (by first | rfl | (simp; done) | (simp [*]; done)), H', ⟨by have := HK1.out; have := HJ2.out; omega⟩, ⟨by (with_reducible repeat (first | apply Kd.R_alloc | apply Kd.R_drewN | apply Kd.R_drew)); exact HO_3.out⟩, ⟨by repeat (first | (with_reducible first | exact HB.out | apply below_alloc | apply pw_below_drewN | apply below_drew1) | exact HB.out)⟩⟩
            · replace c7 := Bool.eq_false_iff.mpr c7
              subst c7
              have H1 : (if x5_1 > x4_1 then (if 0 ≤ x4_1 then (if x4_1 ≤ x5_1 then (if x5_1 ≤ (a0.size : Int) then (if x3_1.length < 8796093022208 then (warrenerref08_Words.l0 kj2 a0 (x3_1 ++ [a0.extract (x4_1 : Int).toNat (x5_1 : Int).toNat]) (wrap64 (x5_1 + 1)) (wrap64 (x5_1 + 1))) else (none)) else (none)) else (none)) else (none)) else (warrenerref08_Words.l0 kj2 a0 x3_1 (wrap64 (x5_1 + 1)) (wrap64 (x5_1 + 1)))) = some r := by rw [if_neg (show ¬ (false = true) by decide)] at H; exact H
              clear H
              have H := H1
              clear H1
              by_cases c8 : x5_1 > x4_1
              · rw [if_pos c8] at H
                have c8b0 : decide (x4_1 < x5_1) = true := decide_eq_true c8
                clear c8
                by_cases c9 : 0 ≤ x4_1
                · rw [if_pos c9] at H
                  have c9b0 := eq_true c9
                  have c9b1 : decide (0 ≤ x4_1) = true := decide_eq_true c9
                  clear c9
                  by_cases c10 : x4_1 ≤ x5_1
                  · rw [if_pos c10] at H
                    have c10b0 := eq_true c10
                    have c10b1 : decide (x4_1 ≤ x5_1) = true := decide_eq_true c10
                    clear c10
                    by_cases c11 : x5_1 ≤ (a0.size : Int)
                    · rw [if_pos c11] at H
                      have c11b0 := eq_true c11
                      have c11b1 : decide (x5_1 ≤ (a0.size : Int)) = true := decide_eq_true c11
                      clear c11
                      by_cases c12 : x3_1.length < 8796093022208
                      · rw [if_pos c12] at H
                        have LMc12 := Aside0.mk c12
                        clear c12
                        obtain ⟨y105, hy105⟩ : ∃ y_ : List ByteArray, y_ = (x3_1 ++ [a0.extract (x4_1 : Int).toNat (x5_1 : Int).toNat]) := ⟨_, rfl⟩
                        replace H : (warrenerref08_Words.l0 kj2 a0 y105 (wrap64 (x5_1 + 1)) (wrap64 (x5_1 + 1))) = some r := by first | (rw [hy105]; with_reducible exact H) | (have H2_ := (Option.bind_some _ _).symm.trans H; rw [hy105]; with_reducible exact H2_) | (have H2_ := (Option.bind_some _ _).symm.trans H; with_reducible exact H2_) | with_reducible exact H | (rw [hy105]; exact H) | exact H
                        have Ny105 := Aside0.mk hy105
                        clear hy105
                        have H' := Aside0.mk H
                        clear H
                        go_wp2_with (first | ((with_reducible refine gate_builtin (b := .append) (xs := #[.tmp 25, .tmp 30]) rfl ?_); at_builtin; refine Kd.R_append Kd.string (w0 := w) w.heap.size rfl (.tmp 25) (.tmp 30) 68 9 (.string ⟨#[]⟩) 16 rfl Try.underlying68 info9 rfl (by decide) (by omega) u3 x3_1 (a0.extract (x4_1 : Int).toNat (x5_1 : Int).toNat) [.string (a0.extract (x4_1 : Int).toNat (x5_1 : Int).toNat)] (fun _ => True) (fun _ => False) rfl rfl ?aP (fun _ hk => hk.elim) ?aF ?aO ?aB ?aS ?aL ?_; (case aP => exact rfl); (case aB => exact (by repeat (first | (with_reducible first | exact HB.out | apply below_alloc | apply pw_below_drewN | apply below_drew1) | exact HB.out))); (case aF => exact (fun _ _ => trivial)); (case aO => exact (by (with_reducible repeat (first | apply Kd.R_alloc | apply Kd.R_drewN | apply Kd.R_drew)); exact HO_3.out)); (case aS => exact (below_size (by repeat (first | (with_reducible first | exact HB.out | apply below_alloc | apply pw_below_drewN | apply below_drew1) | exact HB.out)))); (case aL => have := LMc12.out; omega); intro v106 w13 ho hb hg hat; rw [← Ny105.out] at ho; have n0_ := Aside0.mk (hb); have n1_ := Aside0.mk (ho); clear HB; clear HO_3; have HB := n0_; have HO107 := n1_; clear n0_ n1_; clear ho hb hg hat))
                        go_roundg kj2
                        case measure => have := HK1.out; have := HJ2.out; omega
                        case rel => exact ⟨(y105), (wrap64 (x5_1 + 1)), (wrap64 (x5_1 + 1)), (by first | rfl | (simp; done) | (simp [*]; done)), (by first | rfl | (simp; done) | (simp [*]; done)), H', ⟨by have := HK1.out; have := HJ2.out; omega⟩, ⟨by (with_reducible repeat (first | apply Kd.R_alloc | apply Kd.R_drewN | apply Kd.R_drew)); exact HO107.out⟩, ⟨by repeat (first | (with_reducible first | exact HB.out | apply below_alloc | apply pw_below_drewN | apply below_drew1) | exact HB.out)⟩⟩
                      · rw [if_neg c12] at H
                        exact absurd H (by simp)
                    · rw [if_neg c11] at H
                      exact absurd H (by simp)
                  · rw [if_neg c10] at H
                    exact absurd H (by simp)
                · rw [if_neg c9] at H
                  exact absurd H (by simp)
              · rw [if_neg c8] at H
                have c8b0 : decide (x4_1 < x5_1) = false := decide_eq_false c8
                clear c8
                have H' := Aside0.mk H
                clear H
                go_wp2
                go_roundg kj2
                case measure => have := HK1.out; have := HJ2.out; omega
                case rel => exact ⟨(x3_1), (wrap64 (x5_1 + 1)), (wrap64 (x5_1 + 1)), (by first | rfl | (simp; done) | (simp [*]; done)), (by first | rfl | (simp; done) | (simp [*]; done)), H', ⟨by have := HK1.out; have := HJ2.out; omega⟩, ⟨by (with_reducible repeat (first | apply Kd.R_alloc | apply Kd.R_drewN | apply Kd.R_drew)); exact HO_3.out⟩, ⟨by repeat (first | (with_reducible first | exact HB.out | apply below_alloc | apply pw_below_drewN | apply below_drew1) | exact HB.out)⟩⟩
      · rw [if_neg c2] at H
        have c2b0 : decide (x5_1 ≤ (a0.size : Int)) = false := decide_eq_false c2
        clear c2
        obtain rfl := Option.some.inj H
        go_wp2
        go_ret
        exact ⟨_, by first | rfl | (simp [errW_none, errW_some] <;> rfl) | (simp [*, errW_none, errW_some] <;> rfl), by (with_reducible repeat (first | apply Kd.R_alloc | apply Kd.R_drewN | apply Kd.R_drew)); exact HO_3.out, by repeat (first | (with_reducible first | exact HB.out | apply below_alloc | apply pw_below_drewN | apply below_drew1) | exact HB.out)⟩

/-! ### warrenerref09_Name: function 27 -/
def warrenerref09_Name.f (k : Nat) (a0 : Int) : Option (ByteArray) := if a0 < 1 then (some (⟨#[]⟩ : ByteArray)) else (if a0 > 25 then (some (⟨#[]⟩ : ByteArray)) else ((warrenerref08_Words.f k LONG0).bind fun t108 => (if 0 ≤ (wrap64 ((wrap64 (2 * a0)) - 2)) then (if (wrap64 ((wrap64 (2 * a0)) - 2)) < (t108.length : Int) then (some (rdOf ByteArray.empty t108 (wrap64 ((wrap64 (2 * a0)) - 2)))) else (none)) else (none))))
theorem warrenerref09_Name.mono : ∀ a0 k, LeO (warrenerref09_Name.f k a0) (warrenerref09_Name.f (k + 1) a0) := by
  intro a0 k
  unfold warrenerref09_Name.f
  repeat' first
      | (with_reducible exact warrenerref08_Words.mono _ _)
      | (with_reducible exact LeO.refl _)
      | (with_reducible exact LeO.none _)
      | (with_reducible refine LeO.ite ?_ ?_)
      | (with_reducible refine LeO.bind ?_ (fun _ => ?_))
      | exact warrenerref08_Words.mono _ _
      | exact LeO.none _
      | refine LeO.ite ?_ ?_
      | refine LeO.bind ?_ (fun _ => ?_)
set_option maxHeartbeats 8000000 in
set_option maxRecDepth 100000 in
theorem warrenerref09_Name.calls (k : Nat) (a0 : Int) (r : ByteArray) (w : World) (h : warrenerref09_Name.f k a0 = some r) :
    Calls Try.prog 27 #[.int .i64 a0] w fun e w' => e = .returned (.string r) ∧ Below w.heap.size w w' := by
  have HB := Aside0.mk (Below.refl w.heap.size w)
  have H : (if a0 < 1 then (some (⟨#[]⟩ : ByteArray)) else (if a0 > 25 then (some (⟨#[]⟩ : ByteArray)) else ((warrenerref08_Words.f k LONG0).bind fun t108 => (if 0 ≤ (wrap64 ((wrap64 (2 * a0)) - 2)) then (if (wrap64 ((wrap64 (2 * a0)) - 2)) < (t108.length : Int) then (some (rdOf ByteArray.empty t108 (wrap64 ((wrap64 (2 * a0)) - 2)))) else (none)) else (none))))) = some r := h
  clear h
  by_cases c2 : a0 < 1
  · rw [if_pos c2] at H
    have c2b0 : decide (a0 < 1) = true := decide_eq_true c2
    clear c2
    obtain rfl := Option.some.inj H
    go_enter Try.func27, Try.ntmps27
    go_wp2
    go_ret
    exact ⟨by first | rfl | (simp [errW_none, errW_some] <;> rfl) | (simp [*, errW_none, errW_some] <;> rfl), by repeat (first | (with_reducible first | exact HB.out | apply below_alloc | apply pw_below_drewN | apply below_drew1) | exact HB.out)⟩
  · rw [if_neg c2] at H
    have c2b0 : decide (a0 < 1) = false := decide_eq_false c2
    clear c2
    by_cases c3 : a0 > 25
    · rw [if_pos c3] at H
      have c3b0 : decide (25 < a0) = true := decide_eq_true c3
      clear c3
      obtain rfl := Option.some.inj H
      go_enter Try.func27, Try.ntmps27
      go_wp2
      go_ret
      exact ⟨by first | rfl | (simp [errW_none, errW_some] <;> rfl) | (simp [*, errW_none, errW_some] <;> rfl), by repeat (first | (with_reducible first | exact HB.out | apply below_alloc | apply pw_below_drewN | apply below_drew1) | exact HB.out)⟩
    · rw [if_neg c3] at H
      have c3b0 : decide (25 < a0) = false := decide_eq_false c3
      clear c3
      replace H := Option.bind_eq_some_iff.mp H
      obtain ⟨t108, A40, H⟩ := H
      replace H : (if 0 ≤ (wrap64 ((wrap64 (2 * a0)) - 2)) then (if (wrap64 ((wrap64 (2 * a0)) - 2)) < (t108.length : Int) then (some (rdOf ByteArray.empty t108 (wrap64 ((wrap64 (2 * a0)) - 2)))) else (none)) else (none)) = some r := H
      have A4 := Aside0.mk A40
      clear A40
      obtain ⟨ji5, hji5⟩ : ∃ j_ : Int, (wrap64 ((wrap64 (2 * a0)) - 2)) = j_ := ⟨_, rfl⟩
      replace H : (if 0 ≤ (ji5) then (if (ji5) < (t108.length : Int) then (some (rdOf ByteArray.empty t108 (ji5))) else (none)) else (none)) = some r := by first | (rw [hji5] at H; exact H) | (simp only [hji5] at H ⊢; exact H)
      (try rw [hji5] at A4)
      have hji5w : (IntKind.i64.wrap ((wrap64 (2 * a0)) - 2)) = ji5 := (i64_w _).trans hji5
      by_cases c6 : 0 ≤ (ji5)
      · rw [if_pos c6] at H
        have c6b0 : decide (0 ≤ (ji5)) = true := decide_eq_true c6
        clear c6
        by_cases c7 : (ji5) < (t108.length : Int)
        · rw [if_pos c7] at H
          have c7b0 : decide ((ji5) < (t108.length : Int)) = true := decide_eq_true c7
          clear c7
          obtain rfl := Option.some.inj H
          go_enter Try.func27, Try.ntmps27
          go_wp2_with (first | ((with_reducible refine gate_callee (f := 38) rfl ?_); refine goesL_ (some 9) rfl rfl Try.func38 (by kernel_rfl) rfl #[.string LONG0] rfl (by (try simp only [List.map_toArray, List.map_cons, List.map_nil]); first | done | rfl | (simp only [List.length_drop, List.length_take]; rfl)) ?_; (with_reducible refine (warrenerref08_Words.calls k LONG0 t108 _ A4.out).mono ?_); rintro e w8 ⟨v109, rfl, ho0, hb⟩; (try clear A4); refine ⟨_, rfl, ?_⟩; have n0_ := Aside0.mk (Kd.R_lower ho0 (below_size (by repeat (first | (with_reducible first | exact HB.out | apply below_alloc | apply pw_below_drewN | apply below_drew1) | exact HB.out)))); have n1_ := Aside0.mk (below_step (by repeat (first | (with_reducible first | exact HB.out | apply below_alloc | apply pw_below_drewN | apply below_drew1) | exact HB.out)) hb); clear HB; have HO110 := n0_; have HB := n1_; clear n0_ n1_; (try clear hb); (try clear hb2); (try clear hk); (try clear hi); (try clear ho0); obtain ⟨Ao9, co9, eo9⟩ := Kd.R_slice HO110.out; subst eo9; have p111 : 0 ≤ ((ji5) : Int) := of_decide_eq_true (by first | (with_reducible assumption) | assumption); have q111 : (ji5) < (t108.length : Int) := of_decide_eq_true (by first | (with_reducible assumption) | assumption); obtain ⟨ad111, e111, hx111_0⟩ := Kd.at_string (Kd.R_reads' HO110.out).2.2 (ji5) p111 q111; cases e111; replace p111 := eq_true p111; replace q111 := eq_true q111))
          go_ret
          exact ⟨by first | rfl | (simp [errW_none, errW_some] <;> rfl) | (simp only [← hji5]; first | rfl | (simp [errW_none, errW_some] <;> rfl)) | (simp [*, errW_none, errW_some] <;> rfl), by repeat (first | (with_reducible first | exact HB.out | apply below_alloc | apply pw_below_drewN | apply below_drew1) | exact HB.out)⟩
        · rw [if_neg c7] at H
          exact absurd H (by simp)
      · rw [if_neg c6] at H
        exact absurd H (by simp)

/-! ### warrenerref09_Shape: function 29 -/
def warrenerref09_Shape.f (k : Nat) (a0 : Int) : Option (ByteArray) := if a0 < 1 then (some (⟨#[]⟩ : ByteArray)) else (if a0 > 25 then (some (⟨#[]⟩ : ByteArray)) else ((warrenerref08_Words.f k LONG0).bind fun t112 => (if 0 ≤ (wrap64 ((wrap64 (2 * a0)) - 1)) then (if (wrap64 ((wrap64 (2 * a0)) - 1)) < (t112.length : Int) then (some (rdOf ByteArray.empty t112 (wrap64 ((wrap64 (2 * a0)) - 1)))) else (none)) else (none))))
theorem warrenerref09_Shape.mono : ∀ a0 k, LeO (warrenerref09_Shape.f k a0) (warrenerref09_Shape.f (k + 1) a0) := by
  intro a0 k
  unfold warrenerref09_Shape.f
  repeat' first
      | (with_reducible exact warrenerref08_Words.mono _ _)
      | (with_reducible exact LeO.refl _)
      | (with_reducible exact LeO.none _)
      | (with_reducible refine LeO.ite ?_ ?_)
      | (with_reducible refine LeO.bind ?_ (fun _ => ?_))
      | exact warrenerref08_Words.mono _ _
      | exact LeO.none _
      | refine LeO.ite ?_ ?_
      | refine LeO.bind ?_ (fun _ => ?_)
set_option maxHeartbeats 8000000 in
set_option maxRecDepth 100000 in
theorem warrenerref09_Shape.calls (k : Nat) (a0 : Int) (r : ByteArray) (w : World) (h : warrenerref09_Shape.f k a0 = some r) :
    Calls Try.prog 29 #[.int .i64 a0] w fun e w' => e = .returned (.string r) ∧ Below w.heap.size w w' := by
  have HB := Aside0.mk (Below.refl w.heap.size w)
  have H : (if a0 < 1 then (some (⟨#[]⟩ : ByteArray)) else (if a0 > 25 then (some (⟨#[]⟩ : ByteArray)) else ((warrenerref08_Words.f k LONG0).bind fun t112 => (if 0 ≤ (wrap64 ((wrap64 (2 * a0)) - 1)) then (if (wrap64 ((wrap64 (2 * a0)) - 1)) < (t112.length : Int) then (some (rdOf ByteArray.empty t112 (wrap64 ((wrap64 (2 * a0)) - 1)))) else (none)) else (none))))) = some r := h
  clear h
  by_cases c2 : a0 < 1
  · rw [if_pos c2] at H
    have c2b0 : decide (a0 < 1) = true := decide_eq_true c2
    clear c2
    obtain rfl := Option.some.inj H
    go_enter Try.func29, Try.ntmps29
    go_wp2
    go_ret
    exact ⟨by first | rfl | (simp [errW_none, errW_some] <;> rfl) | (simp [*, errW_none, errW_some] <;> rfl), by repeat (first | (with_reducible first | exact HB.out | apply below_alloc | apply pw_below_drewN | apply below_drew1) | exact HB.out)⟩
  · rw [if_neg c2] at H
    have c2b0 : decide (a0 < 1) = false := decide_eq_false c2
    clear c2
    by_cases c3 : a0 > 25
    · rw [if_pos c3] at H
      have c3b0 : decide (25 < a0) = true := decide_eq_true c3
      clear c3
      obtain rfl := Option.some.inj H
      go_enter Try.func29, Try.ntmps29
      go_wp2
      go_ret
      exact ⟨by first | rfl | (simp [errW_none, errW_some] <;> rfl) | (simp [*, errW_none, errW_some] <;> rfl), by repeat (first | (with_reducible first | exact HB.out | apply below_alloc | apply pw_below_drewN | apply below_drew1) | exact HB.out)⟩
    · rw [if_neg c3] at H
      have c3b0 : decide (25 < a0) = false := decide_eq_false c3
      clear c3
      replace H := Option.bind_eq_some_iff.mp H
      obtain ⟨t112, A40, H⟩ := H
      replace H : (if 0 ≤ (wrap64 ((wrap64 (2 * a0)) - 1)) then (if (wrap64 ((wrap64 (2 * a0)) - 1)) < (t112.length : Int) then (some (rdOf ByteArray.empty t112 (wrap64 ((wrap64 (2 * a0)) - 1)))) else (none)) else (none)) = some r := H
      have A4 := Aside0.mk A40
      clear A40
      obtain ⟨ji5, hji5⟩ : ∃ j_ : Int, (wrap64 ((wrap64 (2 * a0)) - 1)) = j_ := ⟨_, rfl⟩
      replace H : (if 0 ≤ (ji5) then (if (ji5) < (t112.length : Int) then (some (rdOf ByteArray.empty t112 (ji5))) else (none)) else (none)) = some r := by first | (rw [hji5] at H; exact H) | (simp only [hji5] at H ⊢; exact H)
      (try rw [hji5] at A4)
      have hji5w : (IntKind.i64.wrap ((wrap64 (2 * a0)) - 1)) = ji5 := (i64_w _).trans hji5
      by_cases c6 : 0 ≤ (ji5)
      · rw [if_pos c6] at H
        have c6b0 : decide (0 ≤ (ji5)) = true := decide_eq_true c6
        clear c6
        by_cases c7 : (ji5) < (t112.length : Int)
        · rw [if_pos c7] at H
          have c7b0 : decide ((ji5) < (t112.length : Int)) = true := decide_eq_true c7
          clear c7
          obtain rfl := Option.some.inj H
          go_enter Try.func29, Try.ntmps29
          go_wp2_with (first | ((with_reducible refine gate_callee (f := 38) rfl ?_); refine goesL_ (some 9) rfl rfl Try.func38 (by kernel_rfl) rfl #[.string LONG0] rfl (by (try simp only [List.map_toArray, List.map_cons, List.map_nil]); first | done | rfl | (simp only [List.length_drop, List.length_take]; rfl)) ?_; (with_reducible refine (warrenerref08_Words.calls k LONG0 t112 _ A4.out).mono ?_); rintro e w8 ⟨v113, rfl, ho0, hb⟩; (try clear A4); refine ⟨_, rfl, ?_⟩; have n0_ := Aside0.mk (Kd.R_lower ho0 (below_size (by repeat (first | (with_reducible first | exact HB.out | apply below_alloc | apply pw_below_drewN | apply below_drew1) | exact HB.out)))); have n1_ := Aside0.mk (below_step (by repeat (first | (with_reducible first | exact HB.out | apply below_alloc | apply pw_below_drewN | apply below_drew1) | exact HB.out)) hb); clear HB; have HO114 := n0_; have HB := n1_; clear n0_ n1_; (try clear hb); (try clear hb2); (try clear hk); (try clear hi); (try clear ho0); obtain ⟨Ao9, co9, eo9⟩ := Kd.R_slice HO114.out; subst eo9; have p115 : 0 ≤ ((ji5) : Int) := of_decide_eq_true (by first | (with_reducible assumption) | assumption); have q115 : (ji5) < (t112.length : Int) := of_decide_eq_true (by first | (with_reducible assumption) | assumption); obtain ⟨ad115, e115, hx115_0⟩ := Kd.at_string (Kd.R_reads' HO114.out).2.2 (ji5) p115 q115; cases e115; replace p115 := eq_true p115; replace q115 := eq_true q115))
          go_ret
          exact ⟨by first | rfl | (simp [errW_none, errW_some] <;> rfl) | (simp only [← hji5]; first | rfl | (simp [errW_none, errW_some] <;> rfl)) | (simp [*, errW_none, errW_some] <;> rfl), by repeat (first | (with_reducible first | exact HB.out | apply below_alloc | apply pw_below_drewN | apply below_drew1) | exact HB.out)⟩
        · rw [if_neg c7] at H
          exact absurd H (by simp)
      · rw [if_neg c6] at H
        exact absurd H (by simp)

end Go.Proofs.Ythllggfimndklac.QOpTells
