-- Written by print2.py (this session's driver of the kit's printer), hand-proved functions among the printed ones.
import Derived.Test.YthllggfimndkladQOpBackx0
namespace Go.Proofs.Ythllggfimndklad.QOpBack
open Go.RowKit Go.Proofs.YthllggfimndkladW.PrintWords Go.Proofs.YthllggfimndkladW.PrintLast Go.Proofs.YthllggfimndkladW.PrintMore
attribute [local go_sem] max2_int min2_int max_two min_two max_three min_three max_four min_four   -- for this text's walks alone
open Go.Proofs.YthllggfimndkladW.HWords
set_option linter.unusedVariables false
set_option linter.unusedSimpArgs false

-- NOT PRINTED: function 23 (op_kinds)

/-! ### op_Op: function 8 (proved by hand) -/
def op_kinds.strs : List ByteArray := [⟨#[]⟩, ⟨#[]⟩, ⟨#[104, 97, 108, 116]⟩, ⟨#[45, 45, 45, 45]⟩, ⟨#[115, 101, 116]⟩, ⟨#[114, 45, 45, 110]⟩, ⟨#[99, 111, 112, 121]⟩, ⟨#[114, 114, 45, 45]⟩, ⟨#[97, 100, 100]⟩, ⟨#[114, 114, 114, 45]⟩, ⟨#[115, 117, 98]⟩, ⟨#[114, 114, 114, 45]⟩, ⟨#[109, 117, 108]⟩, ⟨#[114, 114, 114, 45]⟩, ⟨#[100, 105, 118]⟩, ⟨#[114, 114, 114, 45]⟩, ⟨#[106, 117, 109, 112]⟩, ⟨#[45, 45, 45, 116]⟩, ⟨#[122, 101, 114, 111]⟩, ⟨#[114, 45, 45, 116]⟩, ⟨#[115, 97, 109, 101]⟩, ⟨#[114, 114, 45, 116]⟩, ⟨#[108, 111, 111, 107]⟩, ⟨#[114, 103, 45, 45]⟩, ⟨#[112, 117, 116]⟩, ⟨#[103, 114, 45, 45]⟩, ⟨#[115, 119, 97, 112]⟩, ⟨#[114, 114, 114, 103]⟩, ⟨#[108, 111, 97, 100]⟩, ⟨#[114, 114, 45, 102]⟩, ⟨#[115, 116, 111, 114, 101]⟩, ⟨#[114, 114, 45, 102]⟩, ⟨#[99, 97, 115]⟩, ⟨#[114, 114, 114, 102]⟩, ⟨#[102, 101, 110, 99, 101]⟩, ⟨#[45, 45, 45, 45]⟩, ⟨#[110, 101, 119]⟩, ⟨#[114, 45, 45, 45]⟩, ⟨#[102, 114, 101, 101]⟩, ⟨#[114, 45, 45, 45]⟩, ⟨#[114, 101, 116, 105, 114, 101]⟩, ⟨#[114, 45, 45, 45]⟩, ⟨#[103, 117, 97, 114, 100]⟩, ⟨#[114, 45, 45, 115]⟩, ⟨#[99, 108, 101, 97, 114]⟩, ⟨#[45, 45, 45, 115]⟩, ⟨#[101, 110, 116, 101, 114]⟩, ⟨#[45, 45, 45, 45]⟩, ⟨#[108, 101, 97, 118, 101]⟩, ⟨#[45, 45, 45, 45]⟩, ⟨#[113, 117, 105, 101, 116]⟩, ⟨#[45, 45, 45, 45]⟩]
def op_kinds.cells : List Value := op_kinds.strs.map .string
def op_kinds.zero : List Value := List.replicate 52 (.string ⟨#[]⟩)
def op_kinds.a0 (b : Nat) : Act := ⟨#[.pointer (some ⟨b, 0, none⟩), undef, undef, undef, undef, undef, undef, undef, undef, undef, undef, undef, undef, undef, undef, undef, undef, undef, undef, undef, undef, undef, undef, undef, undef, undef, undef], []⟩
def op_kinds.a1 (b : Nat) : Act := ⟨#[.pointer (some ⟨b, 0, none⟩), .agg #[.string ⟨#[104, 97, 108, 116]⟩, .string ⟨#[45, 45, 45, 45]⟩], undef, undef, undef, undef, undef, undef, undef, undef, undef, undef, undef, undef, undef, undef, undef, undef, undef, undef, undef, undef, undef, undef, undef, undef, undef], []⟩
def op_kinds.a2 (b : Nat) : Act := ⟨#[.pointer (some ⟨b, 0, none⟩), .agg #[.string ⟨#[104, 97, 108, 116]⟩, .string ⟨#[45, 45, 45, 45]⟩], .agg #[.string ⟨#[115, 101, 116]⟩, .string ⟨#[114, 45, 45, 110]⟩], undef, undef, undef, undef, undef, undef, undef, undef, undef, undef, undef, undef, undef, undef, undef, undef, undef, undef, undef, undef, undef, undef, undef, undef], []⟩
def op_kinds.a3 (b : Nat) : Act := ⟨#[.pointer (some ⟨b, 0, none⟩), .agg #[.string ⟨#[104, 97, 108, 116]⟩, .string ⟨#[45, 45, 45, 45]⟩], .agg #[.string ⟨#[115, 101, 116]⟩, .string ⟨#[114, 45, 45, 110]⟩], .agg #[.string ⟨#[99, 111, 112, 121]⟩, .string ⟨#[114, 114, 45, 45]⟩], undef, undef, undef, undef, undef, undef, undef, undef, undef, undef, undef, undef, undef, undef, undef, undef, undef, undef, undef, undef, undef, undef, undef], []⟩
def op_kinds.a4 (b : Nat) : Act := ⟨#[.pointer (some ⟨b, 0, none⟩), .agg #[.string ⟨#[104, 97, 108, 116]⟩, .string ⟨#[45, 45, 45, 45]⟩], .agg #[.string ⟨#[115, 101, 116]⟩, .string ⟨#[114, 45, 45, 110]⟩], .agg #[.string ⟨#[99, 111, 112, 121]⟩, .string ⟨#[114, 114, 45, 45]⟩], .agg #[.string ⟨#[97, 100, 100]⟩, .string ⟨#[114, 114, 114, 45]⟩], undef, undef, undef, undef, undef, undef, undef, undef, undef, undef, undef, undef, undef, undef, undef, undef, undef, undef, undef, undef, undef, undef], []⟩
def op_kinds.a5 (b : Nat) : Act := ⟨#[.pointer (some ⟨b, 0, none⟩), .agg #[.string ⟨#[104, 97, 108, 116]⟩, .string ⟨#[45, 45, 45, 45]⟩], .agg #[.string ⟨#[115, 101, 116]⟩, .string ⟨#[114, 45, 45, 110]⟩], .agg #[.string ⟨#[99, 111, 112, 121]⟩, .string ⟨#[114, 114, 45, 45]⟩], .agg #[.string ⟨#[97, 100, 100]⟩, .string ⟨#[114, 114, 114, 45]⟩], .agg #[.string ⟨#[115, 117, 98]⟩, .string ⟨#[114, 114, 114, 45]⟩], undef, undef, undef, undef, undef, undef, undef, undef, undef, undef, undef, undef, undef, undef, undef, undef, undef, undef, undef, undef, undef], []⟩
def op_kinds.a6 (b : Nat) : Act := ⟨#[.pointer (some ⟨b, 0, none⟩), .agg #[.string ⟨#[104, 97, 108, 116]⟩, .string ⟨#[45, 45, 45, 45]⟩], .agg #[.string ⟨#[115, 101, 116]⟩, .string ⟨#[114, 45, 45, 110]⟩], .agg #[.string ⟨#[99, 111, 112, 121]⟩, .string ⟨#[114, 114, 45, 45]⟩], .agg #[.string ⟨#[97, 100, 100]⟩, .string ⟨#[114, 114, 114, 45]⟩], .agg #[.string ⟨#[115, 117, 98]⟩, .string ⟨#[114, 114, 114, 45]⟩], .agg #[.string ⟨#[109, 117, 108]⟩, .string ⟨#[114, 114, 114, 45]⟩], undef, undef, undef, undef, undef, undef, undef, undef, undef, undef, undef, undef, undef, undef, undef, undef, undef, undef, undef, undef], []⟩
def op_kinds.a7 (b : Nat) : Act := ⟨#[.pointer (some ⟨b, 0, none⟩), .agg #[.string ⟨#[104, 97, 108, 116]⟩, .string ⟨#[45, 45, 45, 45]⟩], .agg #[.string ⟨#[115, 101, 116]⟩, .string ⟨#[114, 45, 45, 110]⟩], .agg #[.string ⟨#[99, 111, 112, 121]⟩, .string ⟨#[114, 114, 45, 45]⟩], .agg #[.string ⟨#[97, 100, 100]⟩, .string ⟨#[114, 114, 114, 45]⟩], .agg #[.string ⟨#[115, 117, 98]⟩, .string ⟨#[114, 114, 114, 45]⟩], .agg #[.string ⟨#[109, 117, 108]⟩, .string ⟨#[114, 114, 114, 45]⟩], .agg #[.string ⟨#[100, 105, 118]⟩, .string ⟨#[114, 114, 114, 45]⟩], undef, undef, undef, undef, undef, undef, undef, undef, undef, undef, undef, undef, undef, undef, undef, undef, undef, undef, undef], []⟩
def op_kinds.a8 (b : Nat) : Act := ⟨#[.pointer (some ⟨b, 0, none⟩), .agg #[.string ⟨#[104, 97, 108, 116]⟩, .string ⟨#[45, 45, 45, 45]⟩], .agg #[.string ⟨#[115, 101, 116]⟩, .string ⟨#[114, 45, 45, 110]⟩], .agg #[.string ⟨#[99, 111, 112, 121]⟩, .string ⟨#[114, 114, 45, 45]⟩], .agg #[.string ⟨#[97, 100, 100]⟩, .string ⟨#[114, 114, 114, 45]⟩], .agg #[.string ⟨#[115, 117, 98]⟩, .string ⟨#[114, 114, 114, 45]⟩], .agg #[.string ⟨#[109, 117, 108]⟩, .string ⟨#[114, 114, 114, 45]⟩], .agg #[.string ⟨#[100, 105, 118]⟩, .string ⟨#[114, 114, 114, 45]⟩], .agg #[.string ⟨#[106, 117, 109, 112]⟩, .string ⟨#[45, 45, 45, 116]⟩], undef, undef, undef, undef, undef, undef, undef, undef, undef, undef, undef, undef, undef, undef, undef, undef, undef, undef], []⟩
def op_kinds.a9 (b : Nat) : Act := ⟨#[.pointer (some ⟨b, 0, none⟩), .agg #[.string ⟨#[104, 97, 108, 116]⟩, .string ⟨#[45, 45, 45, 45]⟩], .agg #[.string ⟨#[115, 101, 116]⟩, .string ⟨#[114, 45, 45, 110]⟩], .agg #[.string ⟨#[99, 111, 112, 121]⟩, .string ⟨#[114, 114, 45, 45]⟩], .agg #[.string ⟨#[97, 100, 100]⟩, .string ⟨#[114, 114, 114, 45]⟩], .agg #[.string ⟨#[115, 117, 98]⟩, .string ⟨#[114, 114, 114, 45]⟩], .agg #[.string ⟨#[109, 117, 108]⟩, .string ⟨#[114, 114, 114, 45]⟩], .agg #[.string ⟨#[100, 105, 118]⟩, .string ⟨#[114, 114, 114, 45]⟩], .agg #[.string ⟨#[106, 117, 109, 112]⟩, .string ⟨#[45, 45, 45, 116]⟩], .agg #[.string ⟨#[122, 101, 114, 111]⟩, .string ⟨#[114, 45, 45, 116]⟩], undef, undef, undef, undef, undef, undef, undef, undef, undef, undef, undef, undef, undef, undef, undef, undef, undef], []⟩
def op_kinds.a10 (b : Nat) : Act := ⟨#[.pointer (some ⟨b, 0, none⟩), .agg #[.string ⟨#[104, 97, 108, 116]⟩, .string ⟨#[45, 45, 45, 45]⟩], .agg #[.string ⟨#[115, 101, 116]⟩, .string ⟨#[114, 45, 45, 110]⟩], .agg #[.string ⟨#[99, 111, 112, 121]⟩, .string ⟨#[114, 114, 45, 45]⟩], .agg #[.string ⟨#[97, 100, 100]⟩, .string ⟨#[114, 114, 114, 45]⟩], .agg #[.string ⟨#[115, 117, 98]⟩, .string ⟨#[114, 114, 114, 45]⟩], .agg #[.string ⟨#[109, 117, 108]⟩, .string ⟨#[114, 114, 114, 45]⟩], .agg #[.string ⟨#[100, 105, 118]⟩, .string ⟨#[114, 114, 114, 45]⟩], .agg #[.string ⟨#[106, 117, 109, 112]⟩, .string ⟨#[45, 45, 45, 116]⟩], .agg #[.string ⟨#[122, 101, 114, 111]⟩, .string ⟨#[114, 45, 45, 116]⟩], .agg #[.string ⟨#[115, 97, 109, 101]⟩, .string ⟨#[114, 114, 45, 116]⟩], undef, undef, undef, undef, undef, undef, undef, undef, undef, undef, undef, undef, undef, undef, undef, undef], []⟩
def op_kinds.a11 (b : Nat) : Act := ⟨#[.pointer (some ⟨b, 0, none⟩), .agg #[.string ⟨#[104, 97, 108, 116]⟩, .string ⟨#[45, 45, 45, 45]⟩], .agg #[.string ⟨#[115, 101, 116]⟩, .string ⟨#[114, 45, 45, 110]⟩], .agg #[.string ⟨#[99, 111, 112, 121]⟩, .string ⟨#[114, 114, 45, 45]⟩], .agg #[.string ⟨#[97, 100, 100]⟩, .string ⟨#[114, 114, 114, 45]⟩], .agg #[.string ⟨#[115, 117, 98]⟩, .string ⟨#[114, 114, 114, 45]⟩], .agg #[.string ⟨#[109, 117, 108]⟩, .string ⟨#[114, 114, 114, 45]⟩], .agg #[.string ⟨#[100, 105, 118]⟩, .string ⟨#[114, 114, 114, 45]⟩], .agg #[.string ⟨#[106, 117, 109, 112]⟩, .string ⟨#[45, 45, 45, 116]⟩], .agg #[.string ⟨#[122, 101, 114, 111]⟩, .string ⟨#[114, 45, 45, 116]⟩], .agg #[.string ⟨#[115, 97, 109, 101]⟩, .string ⟨#[114, 114, 45, 116]⟩], .agg #[.string ⟨#[108, 111, 111, 107]⟩, .string ⟨#[114, 103, 45, 45]⟩], undef, undef, undef, undef, undef, undef, undef, undef, undef, undef, undef, undef, undef, undef, undef], []⟩
def op_kinds.a12 (b : Nat) : Act := ⟨#[.pointer (some ⟨b, 0, none⟩), .agg #[.string ⟨#[104, 97, 108, 116]⟩, .string ⟨#[45, 45, 45, 45]⟩], .agg #[.string ⟨#[115, 101, 116]⟩, .string ⟨#[114, 45, 45, 110]⟩], .agg #[.string ⟨#[99, 111, 112, 121]⟩, .string ⟨#[114, 114, 45, 45]⟩], .agg #[.string ⟨#[97, 100, 100]⟩, .string ⟨#[114, 114, 114, 45]⟩], .agg #[.string ⟨#[115, 117, 98]⟩, .string ⟨#[114, 114, 114, 45]⟩], .agg #[.string ⟨#[109, 117, 108]⟩, .string ⟨#[114, 114, 114, 45]⟩], .agg #[.string ⟨#[100, 105, 118]⟩, .string ⟨#[114, 114, 114, 45]⟩], .agg #[.string ⟨#[106, 117, 109, 112]⟩, .string ⟨#[45, 45, 45, 116]⟩], .agg #[.string ⟨#[122, 101, 114, 111]⟩, .string ⟨#[114, 45, 45, 116]⟩], .agg #[.string ⟨#[115, 97, 109, 101]⟩, .string ⟨#[114, 114, 45, 116]⟩], .agg #[.string ⟨#[108, 111, 111, 107]⟩, .string ⟨#[114, 103, 45, 45]⟩], .agg #[.string ⟨#[112, 117, 116]⟩, .string ⟨#[103, 114, 45, 45]⟩], undef, undef, undef, undef, undef, undef, undef, undef, undef, undef, undef, undef, undef, undef], []⟩
def op_kinds.a13 (b : Nat) : Act := ⟨#[.pointer (some ⟨b, 0, none⟩), .agg #[.string ⟨#[104, 97, 108, 116]⟩, .string ⟨#[45, 45, 45, 45]⟩], .agg #[.string ⟨#[115, 101, 116]⟩, .string ⟨#[114, 45, 45, 110]⟩], .agg #[.string ⟨#[99, 111, 112, 121]⟩, .string ⟨#[114, 114, 45, 45]⟩], .agg #[.string ⟨#[97, 100, 100]⟩, .string ⟨#[114, 114, 114, 45]⟩], .agg #[.string ⟨#[115, 117, 98]⟩, .string ⟨#[114, 114, 114, 45]⟩], .agg #[.string ⟨#[109, 117, 108]⟩, .string ⟨#[114, 114, 114, 45]⟩], .agg #[.string ⟨#[100, 105, 118]⟩, .string ⟨#[114, 114, 114, 45]⟩], .agg #[.string ⟨#[106, 117, 109, 112]⟩, .string ⟨#[45, 45, 45, 116]⟩], .agg #[.string ⟨#[122, 101, 114, 111]⟩, .string ⟨#[114, 45, 45, 116]⟩], .agg #[.string ⟨#[115, 97, 109, 101]⟩, .string ⟨#[114, 114, 45, 116]⟩], .agg #[.string ⟨#[108, 111, 111, 107]⟩, .string ⟨#[114, 103, 45, 45]⟩], .agg #[.string ⟨#[112, 117, 116]⟩, .string ⟨#[103, 114, 45, 45]⟩], .agg #[.string ⟨#[115, 119, 97, 112]⟩, .string ⟨#[114, 114, 114, 103]⟩], undef, undef, undef, undef, undef, undef, undef, undef, undef, undef, undef, undef, undef], []⟩
def op_kinds.a14 (b : Nat) : Act := ⟨#[.pointer (some ⟨b, 0, none⟩), .agg #[.string ⟨#[104, 97, 108, 116]⟩, .string ⟨#[45, 45, 45, 45]⟩], .agg #[.string ⟨#[115, 101, 116]⟩, .string ⟨#[114, 45, 45, 110]⟩], .agg #[.string ⟨#[99, 111, 112, 121]⟩, .string ⟨#[114, 114, 45, 45]⟩], .agg #[.string ⟨#[97, 100, 100]⟩, .string ⟨#[114, 114, 114, 45]⟩], .agg #[.string ⟨#[115, 117, 98]⟩, .string ⟨#[114, 114, 114, 45]⟩], .agg #[.string ⟨#[109, 117, 108]⟩, .string ⟨#[114, 114, 114, 45]⟩], .agg #[.string ⟨#[100, 105, 118]⟩, .string ⟨#[114, 114, 114, 45]⟩], .agg #[.string ⟨#[106, 117, 109, 112]⟩, .string ⟨#[45, 45, 45, 116]⟩], .agg #[.string ⟨#[122, 101, 114, 111]⟩, .string ⟨#[114, 45, 45, 116]⟩], .agg #[.string ⟨#[115, 97, 109, 101]⟩, .string ⟨#[114, 114, 45, 116]⟩], .agg #[.string ⟨#[108, 111, 111, 107]⟩, .string ⟨#[114, 103, 45, 45]⟩], .agg #[.string ⟨#[112, 117, 116]⟩, .string ⟨#[103, 114, 45, 45]⟩], .agg #[.string ⟨#[115, 119, 97, 112]⟩, .string ⟨#[114, 114, 114, 103]⟩], .agg #[.string ⟨#[108, 111, 97, 100]⟩, .string ⟨#[114, 114, 45, 102]⟩], undef, undef, undef, undef, undef, undef, undef, undef, undef, undef, undef, undef], []⟩
def op_kinds.a15 (b : Nat) : Act := ⟨#[.pointer (some ⟨b, 0, none⟩), .agg #[.string ⟨#[104, 97, 108, 116]⟩, .string ⟨#[45, 45, 45, 45]⟩], .agg #[.string ⟨#[115, 101, 116]⟩, .string ⟨#[114, 45, 45, 110]⟩], .agg #[.string ⟨#[99, 111, 112, 121]⟩, .string ⟨#[114, 114, 45, 45]⟩], .agg #[.string ⟨#[97, 100, 100]⟩, .string ⟨#[114, 114, 114, 45]⟩], .agg #[.string ⟨#[115, 117, 98]⟩, .string ⟨#[114, 114, 114, 45]⟩], .agg #[.string ⟨#[109, 117, 108]⟩, .string ⟨#[114, 114, 114, 45]⟩], .agg #[.string ⟨#[100, 105, 118]⟩, .string ⟨#[114, 114, 114, 45]⟩], .agg #[.string ⟨#[106, 117, 109, 112]⟩, .string ⟨#[45, 45, 45, 116]⟩], .agg #[.string ⟨#[122, 101, 114, 111]⟩, .string ⟨#[114, 45, 45, 116]⟩], .agg #[.string ⟨#[115, 97, 109, 101]⟩, .string ⟨#[114, 114, 45, 116]⟩], .agg #[.string ⟨#[108, 111, 111, 107]⟩, .string ⟨#[114, 103, 45, 45]⟩], .agg #[.string ⟨#[112, 117, 116]⟩, .string ⟨#[103, 114, 45, 45]⟩], .agg #[.string ⟨#[115, 119, 97, 112]⟩, .string ⟨#[114, 114, 114, 103]⟩], .agg #[.string ⟨#[108, 111, 97, 100]⟩, .string ⟨#[114, 114, 45, 102]⟩], .agg #[.string ⟨#[115, 116, 111, 114, 101]⟩, .string ⟨#[114, 114, 45, 102]⟩], undef, undef, undef, undef, undef, undef, undef, undef, undef, undef, undef], []⟩
def op_kinds.a16 (b : Nat) : Act := ⟨#[.pointer (some ⟨b, 0, none⟩), .agg #[.string ⟨#[104, 97, 108, 116]⟩, .string ⟨#[45, 45, 45, 45]⟩], .agg #[.string ⟨#[115, 101, 116]⟩, .string ⟨#[114, 45, 45, 110]⟩], .agg #[.string ⟨#[99, 111, 112, 121]⟩, .string ⟨#[114, 114, 45, 45]⟩], .agg #[.string ⟨#[97, 100, 100]⟩, .string ⟨#[114, 114, 114, 45]⟩], .agg #[.string ⟨#[115, 117, 98]⟩, .string ⟨#[114, 114, 114, 45]⟩], .agg #[.string ⟨#[109, 117, 108]⟩, .string ⟨#[114, 114, 114, 45]⟩], .agg #[.string ⟨#[100, 105, 118]⟩, .string ⟨#[114, 114, 114, 45]⟩], .agg #[.string ⟨#[106, 117, 109, 112]⟩, .string ⟨#[45, 45, 45, 116]⟩], .agg #[.string ⟨#[122, 101, 114, 111]⟩, .string ⟨#[114, 45, 45, 116]⟩], .agg #[.string ⟨#[115, 97, 109, 101]⟩, .string ⟨#[114, 114, 45, 116]⟩], .agg #[.string ⟨#[108, 111, 111, 107]⟩, .string ⟨#[114, 103, 45, 45]⟩], .agg #[.string ⟨#[112, 117, 116]⟩, .string ⟨#[103, 114, 45, 45]⟩], .agg #[.string ⟨#[115, 119, 97, 112]⟩, .string ⟨#[114, 114, 114, 103]⟩], .agg #[.string ⟨#[108, 111, 97, 100]⟩, .string ⟨#[114, 114, 45, 102]⟩], .agg #[.string ⟨#[115, 116, 111, 114, 101]⟩, .string ⟨#[114, 114, 45, 102]⟩], .agg #[.string ⟨#[99, 97, 115]⟩, .string ⟨#[114, 114, 114, 102]⟩], undef, undef, undef, undef, undef, undef, undef, undef, undef, undef], []⟩
def op_kinds.a17 (b : Nat) : Act := ⟨#[.pointer (some ⟨b, 0, none⟩), .agg #[.string ⟨#[104, 97, 108, 116]⟩, .string ⟨#[45, 45, 45, 45]⟩], .agg #[.string ⟨#[115, 101, 116]⟩, .string ⟨#[114, 45, 45, 110]⟩], .agg #[.string ⟨#[99, 111, 112, 121]⟩, .string ⟨#[114, 114, 45, 45]⟩], .agg #[.string ⟨#[97, 100, 100]⟩, .string ⟨#[114, 114, 114, 45]⟩], .agg #[.string ⟨#[115, 117, 98]⟩, .string ⟨#[114, 114, 114, 45]⟩], .agg #[.string ⟨#[109, 117, 108]⟩, .string ⟨#[114, 114, 114, 45]⟩], .agg #[.string ⟨#[100, 105, 118]⟩, .string ⟨#[114, 114, 114, 45]⟩], .agg #[.string ⟨#[106, 117, 109, 112]⟩, .string ⟨#[45, 45, 45, 116]⟩], .agg #[.string ⟨#[122, 101, 114, 111]⟩, .string ⟨#[114, 45, 45, 116]⟩], .agg #[.string ⟨#[115, 97, 109, 101]⟩, .string ⟨#[114, 114, 45, 116]⟩], .agg #[.string ⟨#[108, 111, 111, 107]⟩, .string ⟨#[114, 103, 45, 45]⟩], .agg #[.string ⟨#[112, 117, 116]⟩, .string ⟨#[103, 114, 45, 45]⟩], .agg #[.string ⟨#[115, 119, 97, 112]⟩, .string ⟨#[114, 114, 114, 103]⟩], .agg #[.string ⟨#[108, 111, 97, 100]⟩, .string ⟨#[114, 114, 45, 102]⟩], .agg #[.string ⟨#[115, 116, 111, 114, 101]⟩, .string ⟨#[114, 114, 45, 102]⟩], .agg #[.string ⟨#[99, 97, 115]⟩, .string ⟨#[114, 114, 114, 102]⟩], .agg #[.string ⟨#[102, 101, 110, 99, 101]⟩, .string ⟨#[45, 45, 45, 45]⟩], undef, undef, undef, undef, undef, undef, undef, undef, undef], []⟩
def op_kinds.a18 (b : Nat) : Act := ⟨#[.pointer (some ⟨b, 0, none⟩), .agg #[.string ⟨#[104, 97, 108, 116]⟩, .string ⟨#[45, 45, 45, 45]⟩], .agg #[.string ⟨#[115, 101, 116]⟩, .string ⟨#[114, 45, 45, 110]⟩], .agg #[.string ⟨#[99, 111, 112, 121]⟩, .string ⟨#[114, 114, 45, 45]⟩], .agg #[.string ⟨#[97, 100, 100]⟩, .string ⟨#[114, 114, 114, 45]⟩], .agg #[.string ⟨#[115, 117, 98]⟩, .string ⟨#[114, 114, 114, 45]⟩], .agg #[.string ⟨#[109, 117, 108]⟩, .string ⟨#[114, 114, 114, 45]⟩], .agg #[.string ⟨#[100, 105, 118]⟩, .string ⟨#[114, 114, 114, 45]⟩], .agg #[.string ⟨#[106, 117, 109, 112]⟩, .string ⟨#[45, 45, 45, 116]⟩], .agg #[.string ⟨#[122, 101, 114, 111]⟩, .string ⟨#[114, 45, 45, 116]⟩], .agg #[.string ⟨#[115, 97, 109, 101]⟩, .string ⟨#[114, 114, 45, 116]⟩], .agg #[.string ⟨#[108, 111, 111, 107]⟩, .string ⟨#[114, 103, 45, 45]⟩], .agg #[.string ⟨#[112, 117, 116]⟩, .string ⟨#[103, 114, 45, 45]⟩], .agg #[.string ⟨#[115, 119, 97, 112]⟩, .string ⟨#[114, 114, 114, 103]⟩], .agg #[.string ⟨#[108, 111, 97, 100]⟩, .string ⟨#[114, 114, 45, 102]⟩], .agg #[.string ⟨#[115, 116, 111, 114, 101]⟩, .string ⟨#[114, 114, 45, 102]⟩], .agg #[.string ⟨#[99, 97, 115]⟩, .string ⟨#[114, 114, 114, 102]⟩], .agg #[.string ⟨#[102, 101, 110, 99, 101]⟩, .string ⟨#[45, 45, 45, 45]⟩], .agg #[.string ⟨#[110, 101, 119]⟩, .string ⟨#[114, 45, 45, 45]⟩], undef, undef, undef, undef, undef, undef, undef, undef], []⟩
def op_kinds.a19 (b : Nat) : Act := ⟨#[.pointer (some ⟨b, 0, none⟩), .agg #[.string ⟨#[104, 97, 108, 116]⟩, .string ⟨#[45, 45, 45, 45]⟩], .agg #[.string ⟨#[115, 101, 116]⟩, .string ⟨#[114, 45, 45, 110]⟩], .agg #[.string ⟨#[99, 111, 112, 121]⟩, .string ⟨#[114, 114, 45, 45]⟩], .agg #[.string ⟨#[97, 100, 100]⟩, .string ⟨#[114, 114, 114, 45]⟩], .agg #[.string ⟨#[115, 117, 98]⟩, .string ⟨#[114, 114, 114, 45]⟩], .agg #[.string ⟨#[109, 117, 108]⟩, .string ⟨#[114, 114, 114, 45]⟩], .agg #[.string ⟨#[100, 105, 118]⟩, .string ⟨#[114, 114, 114, 45]⟩], .agg #[.string ⟨#[106, 117, 109, 112]⟩, .string ⟨#[45, 45, 45, 116]⟩], .agg #[.string ⟨#[122, 101, 114, 111]⟩, .string ⟨#[114, 45, 45, 116]⟩], .agg #[.string ⟨#[115, 97, 109, 101]⟩, .string ⟨#[114, 114, 45, 116]⟩], .agg #[.string ⟨#[108, 111, 111, 107]⟩, .string ⟨#[114, 103, 45, 45]⟩], .agg #[.string ⟨#[112, 117, 116]⟩, .string ⟨#[103, 114, 45, 45]⟩], .agg #[.string ⟨#[115, 119, 97, 112]⟩, .string ⟨#[114, 114, 114, 103]⟩], .agg #[.string ⟨#[108, 111, 97, 100]⟩, .string ⟨#[114, 114, 45, 102]⟩], .agg #[.string ⟨#[115, 116, 111, 114, 101]⟩, .string ⟨#[114, 114, 45, 102]⟩], .agg #[.string ⟨#[99, 97, 115]⟩, .string ⟨#[114, 114, 114, 102]⟩], .agg #[.string ⟨#[102, 101, 110, 99, 101]⟩, .string ⟨#[45, 45, 45, 45]⟩], .agg #[.string ⟨#[110, 101, 119]⟩, .string ⟨#[114, 45, 45, 45]⟩], .agg #[.string ⟨#[102, 114, 101, 101]⟩, .string ⟨#[114, 45, 45, 45]⟩], undef, undef, undef, undef, undef, undef, undef], []⟩
def op_kinds.a20 (b : Nat) : Act := ⟨#[.pointer (some ⟨b, 0, none⟩), .agg #[.string ⟨#[104, 97, 108, 116]⟩, .string ⟨#[45, 45, 45, 45]⟩], .agg #[.string ⟨#[115, 101, 116]⟩, .string ⟨#[114, 45, 45, 110]⟩], .agg #[.string ⟨#[99, 111, 112, 121]⟩, .string ⟨#[114, 114, 45, 45]⟩], .agg #[.string ⟨#[97, 100, 100]⟩, .string ⟨#[114, 114, 114, 45]⟩], .agg #[.string ⟨#[115, 117, 98]⟩, .string ⟨#[114, 114, 114, 45]⟩], .agg #[.string ⟨#[109, 117, 108]⟩, .string ⟨#[114, 114, 114, 45]⟩], .agg #[.string ⟨#[100, 105, 118]⟩, .string ⟨#[114, 114, 114, 45]⟩], .agg #[.string ⟨#[106, 117, 109, 112]⟩, .string ⟨#[45, 45, 45, 116]⟩], .agg #[.string ⟨#[122, 101, 114, 111]⟩, .string ⟨#[114, 45, 45, 116]⟩], .agg #[.string ⟨#[115, 97, 109, 101]⟩, .string ⟨#[114, 114, 45, 116]⟩], .agg #[.string ⟨#[108, 111, 111, 107]⟩, .string ⟨#[114, 103, 45, 45]⟩], .agg #[.string ⟨#[112, 117, 116]⟩, .string ⟨#[103, 114, 45, 45]⟩], .agg #[.string ⟨#[115, 119, 97, 112]⟩, .string ⟨#[114, 114, 114, 103]⟩], .agg #[.string ⟨#[108, 111, 97, 100]⟩, .string ⟨#[114, 114, 45, 102]⟩], .agg #[.string ⟨#[115, 116, 111, 114, 101]⟩, .string ⟨#[114, 114, 45, 102]⟩], .agg #[.string ⟨#[99, 97, 115]⟩, .string ⟨#[114, 114, 114, 102]⟩], .agg #[.string ⟨#[102, 101, 110, 99, 101]⟩, .string ⟨#[45, 45, 45, 45]⟩], .agg #[.string ⟨#[110, 101, 119]⟩, .string ⟨#[114, 45, 45, 45]⟩], .agg #[.string ⟨#[102, 114, 101, 101]⟩, .string ⟨#[114, 45, 45, 45]⟩], .agg #[.string ⟨#[114, 101, 116, 105, 114, 101]⟩, .string ⟨#[114, 45, 45, 45]⟩], undef, undef, undef, undef, undef, undef], []⟩
def op_kinds.a21 (b : Nat) : Act := ⟨#[.pointer (some ⟨b, 0, none⟩), .agg #[.string ⟨#[104, 97, 108, 116]⟩, .string ⟨#[45, 45, 45, 45]⟩], .agg #[.string ⟨#[115, 101, 116]⟩, .string ⟨#[114, 45, 45, 110]⟩], .agg #[.string ⟨#[99, 111, 112, 121]⟩, .string ⟨#[114, 114, 45, 45]⟩], .agg #[.string ⟨#[97, 100, 100]⟩, .string ⟨#[114, 114, 114, 45]⟩], .agg #[.string ⟨#[115, 117, 98]⟩, .string ⟨#[114, 114, 114, 45]⟩], .agg #[.string ⟨#[109, 117, 108]⟩, .string ⟨#[114, 114, 114, 45]⟩], .agg #[.string ⟨#[100, 105, 118]⟩, .string ⟨#[114, 114, 114, 45]⟩], .agg #[.string ⟨#[106, 117, 109, 112]⟩, .string ⟨#[45, 45, 45, 116]⟩], .agg #[.string ⟨#[122, 101, 114, 111]⟩, .string ⟨#[114, 45, 45, 116]⟩], .agg #[.string ⟨#[115, 97, 109, 101]⟩, .string ⟨#[114, 114, 45, 116]⟩], .agg #[.string ⟨#[108, 111, 111, 107]⟩, .string ⟨#[114, 103, 45, 45]⟩], .agg #[.string ⟨#[112, 117, 116]⟩, .string ⟨#[103, 114, 45, 45]⟩], .agg #[.string ⟨#[115, 119, 97, 112]⟩, .string ⟨#[114, 114, 114, 103]⟩], .agg #[.string ⟨#[108, 111, 97, 100]⟩, .string ⟨#[114, 114, 45, 102]⟩], .agg #[.string ⟨#[115, 116, 111, 114, 101]⟩, .string ⟨#[114, 114, 45, 102]⟩], .agg #[.string ⟨#[99, 97, 115]⟩, .string ⟨#[114, 114, 114, 102]⟩], .agg #[.string ⟨#[102, 101, 110, 99, 101]⟩, .string ⟨#[45, 45, 45, 45]⟩], .agg #[.string ⟨#[110, 101, 119]⟩, .string ⟨#[114, 45, 45, 45]⟩], .agg #[.string ⟨#[102, 114, 101, 101]⟩, .string ⟨#[114, 45, 45, 45]⟩], .agg #[.string ⟨#[114, 101, 116, 105, 114, 101]⟩, .string ⟨#[114, 45, 45, 45]⟩], .agg #[.string ⟨#[103, 117, 97, 114, 100]⟩, .string ⟨#[114, 45, 45, 115]⟩], undef, undef, undef, undef, undef], []⟩
def op_kinds.a22 (b : Nat) : Act := ⟨#[.pointer (some ⟨b, 0, none⟩), .agg #[.string ⟨#[104, 97, 108, 116]⟩, .string ⟨#[45, 45, 45, 45]⟩], .agg #[.string ⟨#[115, 101, 116]⟩, .string ⟨#[114, 45, 45, 110]⟩], .agg #[.string ⟨#[99, 111, 112, 121]⟩, .string ⟨#[114, 114, 45, 45]⟩], .agg #[.string ⟨#[97, 100, 100]⟩, .string ⟨#[114, 114, 114, 45]⟩], .agg #[.string ⟨#[115, 117, 98]⟩, .string ⟨#[114, 114, 114, 45]⟩], .agg #[.string ⟨#[109, 117, 108]⟩, .string ⟨#[114, 114, 114, 45]⟩], .agg #[.string ⟨#[100, 105, 118]⟩, .string ⟨#[114, 114, 114, 45]⟩], .agg #[.string ⟨#[106, 117, 109, 112]⟩, .string ⟨#[45, 45, 45, 116]⟩], .agg #[.string ⟨#[122, 101, 114, 111]⟩, .string ⟨#[114, 45, 45, 116]⟩], .agg #[.string ⟨#[115, 97, 109, 101]⟩, .string ⟨#[114, 114, 45, 116]⟩], .agg #[.string ⟨#[108, 111, 111, 107]⟩, .string ⟨#[114, 103, 45, 45]⟩], .agg #[.string ⟨#[112, 117, 116]⟩, .string ⟨#[103, 114, 45, 45]⟩], .agg #[.string ⟨#[115, 119, 97, 112]⟩, .string ⟨#[114, 114, 114, 103]⟩], .agg #[.string ⟨#[108, 111, 97, 100]⟩, .string ⟨#[114, 114, 45, 102]⟩], .agg #[.string ⟨#[115, 116, 111, 114, 101]⟩, .string ⟨#[114, 114, 45, 102]⟩], .agg #[.string ⟨#[99, 97, 115]⟩, .string ⟨#[114, 114, 114, 102]⟩], .agg #[.string ⟨#[102, 101, 110, 99, 101]⟩, .string ⟨#[45, 45, 45, 45]⟩], .agg #[.string ⟨#[110, 101, 119]⟩, .string ⟨#[114, 45, 45, 45]⟩], .agg #[.string ⟨#[102, 114, 101, 101]⟩, .string ⟨#[114, 45, 45, 45]⟩], .agg #[.string ⟨#[114, 101, 116, 105, 114, 101]⟩, .string ⟨#[114, 45, 45, 45]⟩], .agg #[.string ⟨#[103, 117, 97, 114, 100]⟩, .string ⟨#[114, 45, 45, 115]⟩], .agg #[.string ⟨#[99, 108, 101, 97, 114]⟩, .string ⟨#[45, 45, 45, 115]⟩], undef, undef, undef, undef], []⟩
def op_kinds.a23 (b : Nat) : Act := ⟨#[.pointer (some ⟨b, 0, none⟩), .agg #[.string ⟨#[104, 97, 108, 116]⟩, .string ⟨#[45, 45, 45, 45]⟩], .agg #[.string ⟨#[115, 101, 116]⟩, .string ⟨#[114, 45, 45, 110]⟩], .agg #[.string ⟨#[99, 111, 112, 121]⟩, .string ⟨#[114, 114, 45, 45]⟩], .agg #[.string ⟨#[97, 100, 100]⟩, .string ⟨#[114, 114, 114, 45]⟩], .agg #[.string ⟨#[115, 117, 98]⟩, .string ⟨#[114, 114, 114, 45]⟩], .agg #[.string ⟨#[109, 117, 108]⟩, .string ⟨#[114, 114, 114, 45]⟩], .agg #[.string ⟨#[100, 105, 118]⟩, .string ⟨#[114, 114, 114, 45]⟩], .agg #[.string ⟨#[106, 117, 109, 112]⟩, .string ⟨#[45, 45, 45, 116]⟩], .agg #[.string ⟨#[122, 101, 114, 111]⟩, .string ⟨#[114, 45, 45, 116]⟩], .agg #[.string ⟨#[115, 97, 109, 101]⟩, .string ⟨#[114, 114, 45, 116]⟩], .agg #[.string ⟨#[108, 111, 111, 107]⟩, .string ⟨#[114, 103, 45, 45]⟩], .agg #[.string ⟨#[112, 117, 116]⟩, .string ⟨#[103, 114, 45, 45]⟩], .agg #[.string ⟨#[115, 119, 97, 112]⟩, .string ⟨#[114, 114, 114, 103]⟩], .agg #[.string ⟨#[108, 111, 97, 100]⟩, .string ⟨#[114, 114, 45, 102]⟩], .agg #[.string ⟨#[115, 116, 111, 114, 101]⟩, .string ⟨#[114, 114, 45, 102]⟩], .agg #[.string ⟨#[99, 97, 115]⟩, .string ⟨#[114, 114, 114, 102]⟩], .agg #[.string ⟨#[102, 101, 110, 99, 101]⟩, .string ⟨#[45, 45, 45, 45]⟩], .agg #[.string ⟨#[110, 101, 119]⟩, .string ⟨#[114, 45, 45, 45]⟩], .agg #[.string ⟨#[102, 114, 101, 101]⟩, .string ⟨#[114, 45, 45, 45]⟩], .agg #[.string ⟨#[114, 101, 116, 105, 114, 101]⟩, .string ⟨#[114, 45, 45, 45]⟩], .agg #[.string ⟨#[103, 117, 97, 114, 100]⟩, .string ⟨#[114, 45, 45, 115]⟩], .agg #[.string ⟨#[99, 108, 101, 97, 114]⟩, .string ⟨#[45, 45, 45, 115]⟩], .agg #[.string ⟨#[101, 110, 116, 101, 114]⟩, .string ⟨#[45, 45, 45, 45]⟩], undef, undef, undef], []⟩
def op_kinds.a24 (b : Nat) : Act := ⟨#[.pointer (some ⟨b, 0, none⟩), .agg #[.string ⟨#[104, 97, 108, 116]⟩, .string ⟨#[45, 45, 45, 45]⟩], .agg #[.string ⟨#[115, 101, 116]⟩, .string ⟨#[114, 45, 45, 110]⟩], .agg #[.string ⟨#[99, 111, 112, 121]⟩, .string ⟨#[114, 114, 45, 45]⟩], .agg #[.string ⟨#[97, 100, 100]⟩, .string ⟨#[114, 114, 114, 45]⟩], .agg #[.string ⟨#[115, 117, 98]⟩, .string ⟨#[114, 114, 114, 45]⟩], .agg #[.string ⟨#[109, 117, 108]⟩, .string ⟨#[114, 114, 114, 45]⟩], .agg #[.string ⟨#[100, 105, 118]⟩, .string ⟨#[114, 114, 114, 45]⟩], .agg #[.string ⟨#[106, 117, 109, 112]⟩, .string ⟨#[45, 45, 45, 116]⟩], .agg #[.string ⟨#[122, 101, 114, 111]⟩, .string ⟨#[114, 45, 45, 116]⟩], .agg #[.string ⟨#[115, 97, 109, 101]⟩, .string ⟨#[114, 114, 45, 116]⟩], .agg #[.string ⟨#[108, 111, 111, 107]⟩, .string ⟨#[114, 103, 45, 45]⟩], .agg #[.string ⟨#[112, 117, 116]⟩, .string ⟨#[103, 114, 45, 45]⟩], .agg #[.string ⟨#[115, 119, 97, 112]⟩, .string ⟨#[114, 114, 114, 103]⟩], .agg #[.string ⟨#[108, 111, 97, 100]⟩, .string ⟨#[114, 114, 45, 102]⟩], .agg #[.string ⟨#[115, 116, 111, 114, 101]⟩, .string ⟨#[114, 114, 45, 102]⟩], .agg #[.string ⟨#[99, 97, 115]⟩, .string ⟨#[114, 114, 114, 102]⟩], .agg #[.string ⟨#[102, 101, 110, 99, 101]⟩, .string ⟨#[45, 45, 45, 45]⟩], .agg #[.string ⟨#[110, 101, 119]⟩, .string ⟨#[114, 45, 45, 45]⟩], .agg #[.string ⟨#[102, 114, 101, 101]⟩, .string ⟨#[114, 45, 45, 45]⟩], .agg #[.string ⟨#[114, 101, 116, 105, 114, 101]⟩, .string ⟨#[114, 45, 45, 45]⟩], .agg #[.string ⟨#[103, 117, 97, 114, 100]⟩, .string ⟨#[114, 45, 45, 115]⟩], .agg #[.string ⟨#[99, 108, 101, 97, 114]⟩, .string ⟨#[45, 45, 45, 115]⟩], .agg #[.string ⟨#[101, 110, 116, 101, 114]⟩, .string ⟨#[45, 45, 45, 45]⟩], .agg #[.string ⟨#[108, 101, 97, 118, 101]⟩, .string ⟨#[45, 45, 45, 45]⟩], undef, undef], []⟩
def op_kinds.a25 (b : Nat) : Act := ⟨#[.pointer (some ⟨b, 0, none⟩), .agg #[.string ⟨#[104, 97, 108, 116]⟩, .string ⟨#[45, 45, 45, 45]⟩], .agg #[.string ⟨#[115, 101, 116]⟩, .string ⟨#[114, 45, 45, 110]⟩], .agg #[.string ⟨#[99, 111, 112, 121]⟩, .string ⟨#[114, 114, 45, 45]⟩], .agg #[.string ⟨#[97, 100, 100]⟩, .string ⟨#[114, 114, 114, 45]⟩], .agg #[.string ⟨#[115, 117, 98]⟩, .string ⟨#[114, 114, 114, 45]⟩], .agg #[.string ⟨#[109, 117, 108]⟩, .string ⟨#[114, 114, 114, 45]⟩], .agg #[.string ⟨#[100, 105, 118]⟩, .string ⟨#[114, 114, 114, 45]⟩], .agg #[.string ⟨#[106, 117, 109, 112]⟩, .string ⟨#[45, 45, 45, 116]⟩], .agg #[.string ⟨#[122, 101, 114, 111]⟩, .string ⟨#[114, 45, 45, 116]⟩], .agg #[.string ⟨#[115, 97, 109, 101]⟩, .string ⟨#[114, 114, 45, 116]⟩], .agg #[.string ⟨#[108, 111, 111, 107]⟩, .string ⟨#[114, 103, 45, 45]⟩], .agg #[.string ⟨#[112, 117, 116]⟩, .string ⟨#[103, 114, 45, 45]⟩], .agg #[.string ⟨#[115, 119, 97, 112]⟩, .string ⟨#[114, 114, 114, 103]⟩], .agg #[.string ⟨#[108, 111, 97, 100]⟩, .string ⟨#[114, 114, 45, 102]⟩], .agg #[.string ⟨#[115, 116, 111, 114, 101]⟩, .string ⟨#[114, 114, 45, 102]⟩], .agg #[.string ⟨#[99, 97, 115]⟩, .string ⟨#[114, 114, 114, 102]⟩], .agg #[.string ⟨#[102, 101, 110, 99, 101]⟩, .string ⟨#[45, 45, 45, 45]⟩], .agg #[.string ⟨#[110, 101, 119]⟩, .string ⟨#[114, 45, 45, 45]⟩], .agg #[.string ⟨#[102, 114, 101, 101]⟩, .string ⟨#[114, 45, 45, 45]⟩], .agg #[.string ⟨#[114, 101, 116, 105, 114, 101]⟩, .string ⟨#[114, 45, 45, 45]⟩], .agg #[.string ⟨#[103, 117, 97, 114, 100]⟩, .string ⟨#[114, 45, 45, 115]⟩], .agg #[.string ⟨#[99, 108, 101, 97, 114]⟩, .string ⟨#[45, 45, 45, 115]⟩], .agg #[.string ⟨#[101, 110, 116, 101, 114]⟩, .string ⟨#[45, 45, 45, 45]⟩], .agg #[.string ⟨#[108, 101, 97, 118, 101]⟩, .string ⟨#[45, 45, 45, 45]⟩], .agg #[.string ⟨#[113, 117, 105, 101, 116]⟩, .string ⟨#[45, 45, 45, 45]⟩], undef], []⟩
def op_kinds.a26 (b : Nat) : Act := ⟨#[.pointer (some ⟨b, 0, none⟩), .agg #[.string ⟨#[104, 97, 108, 116]⟩, .string ⟨#[45, 45, 45, 45]⟩], .agg #[.string ⟨#[115, 101, 116]⟩, .string ⟨#[114, 45, 45, 110]⟩], .agg #[.string ⟨#[99, 111, 112, 121]⟩, .string ⟨#[114, 114, 45, 45]⟩], .agg #[.string ⟨#[97, 100, 100]⟩, .string ⟨#[114, 114, 114, 45]⟩], .agg #[.string ⟨#[115, 117, 98]⟩, .string ⟨#[114, 114, 114, 45]⟩], .agg #[.string ⟨#[109, 117, 108]⟩, .string ⟨#[114, 114, 114, 45]⟩], .agg #[.string ⟨#[100, 105, 118]⟩, .string ⟨#[114, 114, 114, 45]⟩], .agg #[.string ⟨#[106, 117, 109, 112]⟩, .string ⟨#[45, 45, 45, 116]⟩], .agg #[.string ⟨#[122, 101, 114, 111]⟩, .string ⟨#[114, 45, 45, 116]⟩], .agg #[.string ⟨#[115, 97, 109, 101]⟩, .string ⟨#[114, 114, 45, 116]⟩], .agg #[.string ⟨#[108, 111, 111, 107]⟩, .string ⟨#[114, 103, 45, 45]⟩], .agg #[.string ⟨#[112, 117, 116]⟩, .string ⟨#[103, 114, 45, 45]⟩], .agg #[.string ⟨#[115, 119, 97, 112]⟩, .string ⟨#[114, 114, 114, 103]⟩], .agg #[.string ⟨#[108, 111, 97, 100]⟩, .string ⟨#[114, 114, 45, 102]⟩], .agg #[.string ⟨#[115, 116, 111, 114, 101]⟩, .string ⟨#[114, 114, 45, 102]⟩], .agg #[.string ⟨#[99, 97, 115]⟩, .string ⟨#[114, 114, 114, 102]⟩], .agg #[.string ⟨#[102, 101, 110, 99, 101]⟩, .string ⟨#[45, 45, 45, 45]⟩], .agg #[.string ⟨#[110, 101, 119]⟩, .string ⟨#[114, 45, 45, 45]⟩], .agg #[.string ⟨#[102, 114, 101, 101]⟩, .string ⟨#[114, 45, 45, 45]⟩], .agg #[.string ⟨#[114, 101, 116, 105, 114, 101]⟩, .string ⟨#[114, 45, 45, 45]⟩], .agg #[.string ⟨#[103, 117, 97, 114, 100]⟩, .string ⟨#[114, 45, 45, 115]⟩], .agg #[.string ⟨#[99, 108, 101, 97, 114]⟩, .string ⟨#[45, 45, 45, 115]⟩], .agg #[.string ⟨#[101, 110, 116, 101, 114]⟩, .string ⟨#[45, 45, 45, 45]⟩], .agg #[.string ⟨#[108, 101, 97, 118, 101]⟩, .string ⟨#[45, 45, 45, 45]⟩], .agg #[.string ⟨#[113, 117, 105, 101, 116]⟩, .string ⟨#[45, 45, 45, 45]⟩], .agg op_kinds.cells.toArray], []⟩
theorem op_kinds.one {P : Program} {ops : Array Oper} {rest : List Oper} {o : Oper} {a a' : Act} {w w' : World} {Q : Exit → Act → World → Prop} (v : Value) (hg : o.guard = none)
    (hv : (execOp a.eval o).run P w = .ok (.value v) w') (ha : a.put o.dst v = a') (h : wpList P ops Q rest a' w') : wpList P ops Q (o :: rest) a w := by
  subst ha
  refine wpList_plain hg fun K hK => ?_
  unfold Oper.wp
  rw [hv, Oper.upon_value]
  exact hK _ _ h
theorem op_kinds.there {w : World} {g : Nat} {t : TypeId} {cs : Array Value} (h : w.heap[g]? = some (.cells cs t (0, 0))) : w.there g 0 cs.size := fun j hj => by
  have h1 := blk_cell h (0 + j)
  have h2 := blk_frozen h (0 + j)
  refine ⟨?_, h2⟩
  rw [h1, Nat.zero_add]
  simp [hj]
theorem op_kinds.row {w : World} {g : Nat} {t : TypeId} {cs : Array Value} (vs : List Value) (h : w.heap[g]? = some (.cells cs t (0, 0))) (hl : vs.length = cs.size) : (w.setCells g 0 vs).heap[g]? = some (.cells vs.toArray t (0, 0)) := by
  obtain ⟨cur', h1, _, h3⟩ := setCells_row vs 0 w cs h (by omega)
  rw [h1]
  have : cur' = vs.toArray := by
    apply Array.toList_inj.1
    rw [h3]
    simp only [List.take_zero, List.nil_append, Nat.zero_add]
    rw [List.drop_of_length_le (by simp; omega)]
    simp
  rw [this]
theorem op_kinds.far {w w1 : World} {g : Nat} (vs : List Value) (h : Below w.heap.size w w1) (hg : w.heap.size ≤ g) : Below w.heap.size w (w1.setCells g 0 vs) := by
  obtain ⟨s1, s2, s3, s4⟩ := setCells_same g vs 0 w1
  exact ⟨s1.trans h.os, s2.trans h.tape, s3.trans h.output, by rw [s4]; exact h.size, fun k hk => (setCells_far vs 0 k (by omega)).trans (h.block k hk)⟩
theorem op_kinds.len : op_kinds.cells.length = 52 := by decide +kernel
theorem op_kinds.zlen : op_kinds.zero.length = 52 := by decide +kernel
def op_kinds.f : Option Unit := some ()
set_option maxHeartbeats 8000000 in
set_option maxRecDepth 100000 in
theorem op_kinds.calls (w : World) : Calls Try.prog 23 #[] w fun e w' => e = .returned (.agg op_kinds.cells.toArray) ∧ Below w.heap.size w w' := by
  have hu := Try.underlying51
  go_enter Try.func23, Try.ntmps23
  generalize hb : w.heap.size = b
  refine wp_seq (wp_region_list ?_)
  refine op_kinds.one (w' := w.alloc (.cells op_kinds.zero.toArray 51)) (a' := op_kinds.a0 b) (.pointer (some ⟨b, 0, none⟩)) rfl (by subst hb; kernel_rfl) (by kernel_rfl) ?_
  have hN : (w.alloc (.cells op_kinds.zero.toArray 51)).heap[b]? = some (.cells op_kinds.zero.toArray 51 (0, 0)) := by subst hb; exact blk_new _ _
  have hB : Below w.heap.size w (w.alloc (.cells op_kinds.zero.toArray 51)) := below_alloc (Below.refl _ _) _
  generalize w.alloc (.cells op_kinds.zero.toArray 51) = w1 at hN hB ⊢
  refine wpList_nil ?_
  refine wp_seq (wp_region_list ?_)
  refine op_kinds.one (w' := w1) (a' := op_kinds.a1 b) (.agg #[.string ⟨#[104, 97, 108, 116]⟩, .string ⟨#[45, 45, 45, 45]⟩]) rfl (by kernel_rfl) (by kernel_rfl) ?_
  refine op_kinds.one (w' := w1) (a' := op_kinds.a2 b) (.agg #[.string ⟨#[115, 101, 116]⟩, .string ⟨#[114, 45, 45, 110]⟩]) rfl (by kernel_rfl) (by kernel_rfl) ?_
  refine op_kinds.one (w' := w1) (a' := op_kinds.a3 b) (.agg #[.string ⟨#[99, 111, 112, 121]⟩, .string ⟨#[114, 114, 45, 45]⟩]) rfl (by kernel_rfl) (by kernel_rfl) ?_
  refine op_kinds.one (w' := w1) (a' := op_kinds.a4 b) (.agg #[.string ⟨#[97, 100, 100]⟩, .string ⟨#[114, 114, 114, 45]⟩]) rfl (by kernel_rfl) (by kernel_rfl) ?_
  refine op_kinds.one (w' := w1) (a' := op_kinds.a5 b) (.agg #[.string ⟨#[115, 117, 98]⟩, .string ⟨#[114, 114, 114, 45]⟩]) rfl (by kernel_rfl) (by kernel_rfl) ?_
  refine op_kinds.one (w' := w1) (a' := op_kinds.a6 b) (.agg #[.string ⟨#[109, 117, 108]⟩, .string ⟨#[114, 114, 114, 45]⟩]) rfl (by kernel_rfl) (by kernel_rfl) ?_
  refine op_kinds.one (w' := w1) (a' := op_kinds.a7 b) (.agg #[.string ⟨#[100, 105, 118]⟩, .string ⟨#[114, 114, 114, 45]⟩]) rfl (by kernel_rfl) (by kernel_rfl) ?_
  refine op_kinds.one (w' := w1) (a' := op_kinds.a8 b) (.agg #[.string ⟨#[106, 117, 109, 112]⟩, .string ⟨#[45, 45, 45, 116]⟩]) rfl (by kernel_rfl) (by kernel_rfl) ?_
  refine op_kinds.one (w' := w1) (a' := op_kinds.a9 b) (.agg #[.string ⟨#[122, 101, 114, 111]⟩, .string ⟨#[114, 45, 45, 116]⟩]) rfl (by kernel_rfl) (by kernel_rfl) ?_
  refine op_kinds.one (w' := w1) (a' := op_kinds.a10 b) (.agg #[.string ⟨#[115, 97, 109, 101]⟩, .string ⟨#[114, 114, 45, 116]⟩]) rfl (by kernel_rfl) (by kernel_rfl) ?_
  refine op_kinds.one (w' := w1) (a' := op_kinds.a11 b) (.agg #[.string ⟨#[108, 111, 111, 107]⟩, .string ⟨#[114, 103, 45, 45]⟩]) rfl (by kernel_rfl) (by kernel_rfl) ?_
  refine op_kinds.one (w' := w1) (a' := op_kinds.a12 b) (.agg #[.string ⟨#[112, 117, 116]⟩, .string ⟨#[103, 114, 45, 45]⟩]) rfl (by kernel_rfl) (by kernel_rfl) ?_
  refine op_kinds.one (w' := w1) (a' := op_kinds.a13 b) (.agg #[.string ⟨#[115, 119, 97, 112]⟩, .string ⟨#[114, 114, 114, 103]⟩]) rfl (by kernel_rfl) (by kernel_rfl) ?_
  refine op_kinds.one (w' := w1) (a' := op_kinds.a14 b) (.agg #[.string ⟨#[108, 111, 97, 100]⟩, .string ⟨#[114, 114, 45, 102]⟩]) rfl (by kernel_rfl) (by kernel_rfl) ?_
  refine op_kinds.one (w' := w1) (a' := op_kinds.a15 b) (.agg #[.string ⟨#[115, 116, 111, 114, 101]⟩, .string ⟨#[114, 114, 45, 102]⟩]) rfl (by kernel_rfl) (by kernel_rfl) ?_
  refine op_kinds.one (w' := w1) (a' := op_kinds.a16 b) (.agg #[.string ⟨#[99, 97, 115]⟩, .string ⟨#[114, 114, 114, 102]⟩]) rfl (by kernel_rfl) (by kernel_rfl) ?_
  refine op_kinds.one (w' := w1) (a' := op_kinds.a17 b) (.agg #[.string ⟨#[102, 101, 110, 99, 101]⟩, .string ⟨#[45, 45, 45, 45]⟩]) rfl (by kernel_rfl) (by kernel_rfl) ?_
  refine op_kinds.one (w' := w1) (a' := op_kinds.a18 b) (.agg #[.string ⟨#[110, 101, 119]⟩, .string ⟨#[114, 45, 45, 45]⟩]) rfl (by kernel_rfl) (by kernel_rfl) ?_
  refine op_kinds.one (w' := w1) (a' := op_kinds.a19 b) (.agg #[.string ⟨#[102, 114, 101, 101]⟩, .string ⟨#[114, 45, 45, 45]⟩]) rfl (by kernel_rfl) (by kernel_rfl) ?_
  refine op_kinds.one (w' := w1) (a' := op_kinds.a20 b) (.agg #[.string ⟨#[114, 101, 116, 105, 114, 101]⟩, .string ⟨#[114, 45, 45, 45]⟩]) rfl (by kernel_rfl) (by kernel_rfl) ?_
  refine op_kinds.one (w' := w1) (a' := op_kinds.a21 b) (.agg #[.string ⟨#[103, 117, 97, 114, 100]⟩, .string ⟨#[114, 45, 45, 115]⟩]) rfl (by kernel_rfl) (by kernel_rfl) ?_
  refine op_kinds.one (w' := w1) (a' := op_kinds.a22 b) (.agg #[.string ⟨#[99, 108, 101, 97, 114]⟩, .string ⟨#[45, 45, 45, 115]⟩]) rfl (by kernel_rfl) (by kernel_rfl) ?_
  refine op_kinds.one (w' := w1) (a' := op_kinds.a23 b) (.agg #[.string ⟨#[101, 110, 116, 101, 114]⟩, .string ⟨#[45, 45, 45, 45]⟩]) rfl (by kernel_rfl) (by kernel_rfl) ?_
  refine op_kinds.one (w' := w1) (a' := op_kinds.a24 b) (.agg #[.string ⟨#[108, 101, 97, 118, 101]⟩, .string ⟨#[45, 45, 45, 45]⟩]) rfl (by kernel_rfl) (by kernel_rfl) ?_
  refine op_kinds.one (w' := w1) (a' := op_kinds.a25 b) (.agg #[.string ⟨#[113, 117, 105, 101, 116]⟩, .string ⟨#[45, 45, 45, 45]⟩]) rfl (by kernel_rfl) (by kernel_rfl) ?_
  refine op_kinds.one (w' := w1) (a' := op_kinds.a26 b) (.agg op_kinds.cells.toArray) rfl (by kernel_rfl) (by kernel_rfl) ?_
  refine wpList_store_mid rfl 51 (.tmp 0) (.tmp 26) rfl b 0 op_kinds.cells.toArray rfl rfl ?_ (by kernel_rfl) (by decide +kernel) ?_
  · have := op_kinds.there hN
    rw [List.size_toArray, op_kinds.zlen] at this
    rw [List.size_toArray, op_kinds.len]
    exact this
  refine wpList_nil ?_
  refine wp_ret ?_
  refine bodyPost_ret (results_single rfl (.cell b 51 op_kinds.cells.toArray (0, 0) _ rfl ?_ hu rfl (by kernel_rfl) .nil)) rfl ?_
  · exact op_kinds.row _ hN (by rw [List.size_toArray, op_kinds.zlen]; exact op_kinds.len)
  · subst hb; exact ⟨rfl, op_kinds.far _ hB (Nat.le_refl _)⟩
theorem op_Op.idx (k : Nat) (h : k < 26) (W : World) : (Instr.index 51 (.agg op_kinds.cells.toArray) (.int .i64 k)).run Try.prog W = .ok (.agg #[.string (op_kinds.strs.getD (k * 2) ⟨#[]⟩), .string (op_kinds.strs.getD (k * 2 + 1) ⟨#[]⟩)]) W := by
  have : k = 0 ∨ k = 1 ∨ k = 2 ∨ k = 3 ∨ k = 4 ∨ k = 5 ∨ k = 6 ∨ k = 7 ∨ k = 8 ∨ k = 9 ∨ k = 10 ∨ k = 11 ∨ k = 12 ∨ k = 13 ∨ k = 14 ∨ k = 15 ∨ k = 16 ∨ k = 17 ∨ k = 18 ∨ k = 19 ∨ k = 20 ∨ k = 21 ∨ k = 22 ∨ k = 23 ∨ k = 24 ∨ k = 25 := by omega
  rcases this with rfl | rfl | rfl | rfl | rfl | rfl | rfl | rfl | rfl | rfl | rfl | rfl | rfl | rfl | rfl | rfl | rfl | rfl | rfl | rfl | rfl | rfl | rfl | rfl | rfl | rfl <;> (show _ = _; kernel_rfl)
def op_Op.find (a0 : ByteArray) : Nat → Nat → Int
  | _, 0 => 0
  | i, n + 1 => if 0 < i ∧ ((op_kinds.strs.getD (i * 2) ⟨#[]⟩).toList == a0.toList) = true then i else op_Op.find a0 (i + 1) n
def op_Op.f (a0 : ByteArray) : Option Int := some (op_Op.find a0 0 26)
set_option maxHeartbeats 8000000 in
set_option maxRecDepth 100000 in
theorem op_Op.calls (a0 : ByteArray) (r : Int) (w : World) (h : op_Op.f a0 = some r) : Calls Try.prog 8 #[.string a0] w fun e w' => e = .returned (.int .i64 r) ∧ Below w.heap.size w w' := by
  have hu := Try.underlying50
  have H0 : op_Op.find a0 0 26 = r := by simpa [op_Op.f] using h
  have H := Aside0.mk H0
  clear h H0
  have HB := Aside0.mk (Below.refl w.heap.size w)
  have HI : Aside0 (∀ k : Nat, k < 26 → ∀ W : World, (Instr.index 51 (.agg op_kinds.cells.toArray) (.int .i64 k)).run Try.prog W = .ok (.agg #[.string (op_kinds.strs.getD (k * 2) ⟨#[]⟩), .string (op_kinds.strs.getD (k * 2 + 1) ⟨#[]⟩)]) W) := ⟨op_Op.idx⟩
  go_enter Try.func8, Try.ntmps8
  go_wp2_with (go_at_call 23; refine (op_kinds.calls _).mono ?_; rintro e w1 ⟨rfl, hb⟩; have HB1 := Aside0.mk (below_step HB.out hb); clear hb HB; generalize op_kinds.cells.toArray = V at HI ⊢)
  go_loopw [6] (fun v6 wr => ∃ k : Nat, k ≤ 26 ∧ v6 = .int .i64 k ∧ Aside0 (op_Op.find a0 k (26 - k) = r) ∧ Aside0 (Below w.heap.size w wr)) (fun i _ => 26 - (intOf i).toNat)
  case atStart => exact ⟨0, by omega, rfl, H, HB1⟩
  case round =>
    obtain ⟨k, hk, rfl, HF, HB2⟩ := hrel
    clear HB1 H
    by_cases hlt : k < 26
    · have hidx := HI.out k hlt
      have HF2 : Aside0 ((if 0 < k ∧ ((op_kinds.strs.getD (k * 2) ⟨#[]⟩).toList == a0.toList) = true then (k : Int) else op_Op.find a0 (k + 1) (25 - k)) = r) := ⟨by
        have := HF.out
        rw [show 26 - k = (25 - k) + 1 by omega] at this
        simpa only [op_Op.find] using this⟩
      clear HF
      generalize op_kinds.strs.getD (k * 2) ⟨#[]⟩ = s1 at hidx HF2
      generalize op_kinds.strs.getD (k * 2 + 1) ⟨#[]⟩ = s2 at hidx
      have hlt2 : (k : Int) < 26 := by omega
      by_cases h0 : (k : Int) > 0
      · by_cases he : (s1.toList == a0.toList) = true
        · have hr : (k : Int) = r := by
            have := HF2.out
            rw [if_pos ⟨by omega, he⟩] at this
            exact this
          subst hr
          go_wp2
          go_ret
          exact ⟨rfl, below_alloc HB2.out _⟩
        · have he2 : (s1.toList == a0.toList) = false := by simpa using he
          have hr : op_Op.find a0 (k + 1) (25 - k) = r := by
            have := HF2.out
            rw [if_neg (fun hh => he hh.2)] at this
            exact this
          clear he
          go_wp2
          refine ⟨⟨k + 1, by omega, by go_num, ⟨?_⟩, ⟨below_alloc HB2.out _⟩⟩, by simp [intOf]; omega⟩
          rw [show 26 - (k + 1) = 25 - k by omega]
          exact hr
      · have hr : op_Op.find a0 (k + 1) (25 - k) = r := by
          have := HF2.out
          rw [if_neg (fun hh => h0 (by omega))] at this
          exact this
        go_wp2
        refine ⟨⟨k + 1, by omega, by go_num, ⟨?_⟩, ⟨below_alloc HB2.out _⟩⟩, by simp [intOf]; omega⟩
        rw [show 26 - (k + 1) = 25 - k by omega]
        exact hr
    · have hr : (0 : Int) = r := by
        have := HF.out
        rw [show 26 - k = 0 by omega] at this
        simpa only [op_Op.find] using this
      have hlt2 : ¬ (k : Int) < 26 := by omega
      subst hr
      go_wp2
      go_ret
      exact ⟨rfl, HB2.out⟩

/-! ### op_of: function 25 (proved by hand) -/
theorem op_of.call {P : Program} {ops : Array Oper} {rest : List Oper} {o : Oper} {a : Act} {w : World} {Q : Exit → Act → World → Prop} {f : FuncId} {args : Array Value} {R : Ending → World → Prop} (hc : Calls P f args w R) (hg : o.guard = none)
    (hv : (execOp a.eval o).run P w = .ok (.enter f args) w) (h : ∀ e w', R e w' → ∃ v, e = .returned v ∧ wpList P ops Q rest (a.put o.dst v) w') : wpList P ops Q (o :: rest) a w := by
  refine wpList_plain hg fun K hK => ?_
  unfold Oper.wp
  rw [hv, Oper.upon_enter]
  refine hc.mono ?_
  intro e w' hR
  obtain ⟨v, rfl, hw⟩ := h e w' hR
  exact hK _ _ hw
def op_of.a0 (x : Int) (g : Nat) : Act := ⟨#[.int .i64 x, undef, .pointer (some ⟨g, 0, none⟩), undef, undef, undef, undef, undef, undef, undef, undef, undef, undef, undef, undef], []⟩
def op_of.a1 (x : Int) (g : Nat) : Act := ⟨#[.int .i64 x, undef, .pointer (some ⟨g, 0, none⟩), undef, .agg op_kinds.cells.toArray, undef, undef, undef, undef, undef, undef, undef, undef, undef, undef], []⟩
def op_of.a2 (x : Int) (g g3 : Nat) : Act := ⟨#[.int .i64 x, undef, .pointer (some ⟨g, 0, none⟩), .pointer (some ⟨g3, 0, none⟩), .agg op_kinds.cells.toArray, undef, undef, undef, undef, undef, undef, undef, undef, undef, undef], []⟩
theorem op_of.toList : op_kinds.cells.toArray.toList = op_kinds.cells := rfl
def op_of.f (a0 : Int) : Option (ByteArray × ByteArray) := some (if 0 ≤ a0 ∧ a0 < 26 then (op_kinds.strs.getD (a0.toNat * 2) ⟨#[]⟩, op_kinds.strs.getD (a0.toNat * 2 + 1) ⟨#[]⟩) else (⟨#[]⟩, ⟨#[]⟩))
theorem op_of.cell (i : Nat) (h : i < 52) : op_kinds.cells.toArray[i]? = some (.string (op_kinds.strs.getD i ⟨#[]⟩)) := by
  have hl : op_kinds.strs.length = 52 := by decide +kernel
  unfold op_kinds.cells
  rw [List.getElem?_toArray, List.getElem?_map, List.getD_eq_getElem?_getD, List.getElem?_eq_getElem (by omega)]
  rfl
set_option maxHeartbeats 8000000 in
set_option maxRecDepth 100000 in
theorem op_of.calls (a0 : Int) (r1 r2 : ByteArray) (w : World) (h : op_of.f a0 = some (r1, r2)) : Calls Try.prog 25 #[.int .i64 a0] w fun e w' => e = .returned (.agg #[.string r1, .string r2]) ∧ Below w.heap.size w w' := by
  have hu := Try.underlying50
  have hu72 := Try.underlying51
  go_enter Try.func25, Try.ntmps25
  have hB0 := below_alloc (Below.refl w.heap.size w) (.cells #[.string ⟨#[]⟩, .string ⟨#[]⟩] 50)
  have hN0 := blk_new w (.cells #[.string ⟨#[]⟩, .string ⟨#[]⟩] 50)
  generalize hb : w.heap.size = g at hN0
  refine wp_seq (wp_region_list ?_)
  refine op_kinds.one (w' := w.alloc (.cells #[.string ⟨#[]⟩, .string ⟨#[]⟩] 50)) (a' := op_of.a0 a0 g) (.pointer (some ⟨g, 0, none⟩)) rfl (by subst hb; kernel_rfl) (by kernel_rfl) ?_
  generalize w.alloc (.cells #[.string ⟨#[]⟩, .string ⟨#[]⟩] 50) = w1 at hB0 hN0 ⊢
  refine wpList_nil ?_
  refine wp_seq (wp_region_list ?_)
  refine op_of.call (op_kinds.calls w1) rfl (by kernel_rfl) ?_
  rintro e w2 ⟨rfl, hb2⟩
  refine ⟨_, rfl, ?_⟩
  have hB2 := below_step hB0 hb2
  have hN2 := (hb2.block g (blk_lt hN0)).trans hN0
  have hB3 := below_alloc hB2 (.cells op_kinds.zero.toArray 51)
  have hN3 := blk_alloc hN2 (.cells op_kinds.zero.toArray 51)
  have hM3 := blk_new w2 (.cells op_kinds.zero.toArray 51)
  have hg3 : g < w2.heap.size := blk_lt hN2
  generalize hb3 : w2.heap.size = g3 at hM3 hg3
  refine op_kinds.one (w' := w2.alloc (.cells op_kinds.zero.toArray 51)) (a' := op_of.a2 a0 g g3) (.pointer (some ⟨g3, 0, none⟩)) rfl (by subst hb3; kernel_rfl) (by kernel_rfl) ?_
  generalize w2.alloc (.cells op_kinds.zero.toArray 51) = w3 at hB3 hN3 hM3 ⊢
  refine wpList_store_mid rfl 51 (.tmp 3) (.tmp 4) rfl g3 0 op_kinds.cells.toArray rfl rfl ?_ (by kernel_rfl) (by decide +kernel) ?_
  · have := op_kinds.there hM3
    rw [List.size_toArray, op_kinds.zlen] at this
    rw [List.size_toArray, op_kinds.len]
    exact this
  refine wpList_nil ?_
  have hM4 := op_kinds.row op_kinds.cells.toArray.toList hM3 (by rw [List.size_toArray, op_kinds.zlen]; exact op_kinds.len)
  have hN4 : (w3.setCells g3 0 op_kinds.cells.toArray.toList).heap[g]? = some (.cells #[.string ⟨#[]⟩, .string ⟨#[]⟩] 50 (0, 0)) := (setCells_far _ 0 g (by omega)).trans hN3
  have hB4 : Below w.heap.size w (w3.setCells g3 0 op_kinds.cells.toArray.toList) := op_kinds.far _ hB3 (by have := hB2.size; omega)
  generalize w3.setCells g3 0 op_kinds.cells.toArray.toList = w4 at hM4 hN4 hB4 ⊢
  rw [op_of.toList] at hM4
  clear hB0 hN0 hb2 hB2 hN2 hB3 hN3 hM3
  have c0 := blk_cell hN4 0
  have c1 := blk_cell hN4 1
  have f0 := blk_frozen hN4 0
  have f1 := blk_frozen hN4 1
  simp only [List.getElem?_toArray, List.getElem?_cons_zero, List.getElem?_cons_succ] at c0 c1
  show Code.wp _ _ _ (Act.put (op_of.a2 a0 g g3) none undef) w4
  simp only [Act.put, op_of.a2]
  have hlim : a0.toNat * 2 + 1 < 52 ∨ ¬ (0 ≤ a0 ∧ a0 < 26) := by omega
  by_cases hr : 0 ≤ a0 ∧ a0 < 26
  · have h1 : ¬ a0 < 0 := by omega
    have h2 : ¬ a0 ≥ 26 := by omega
    have hr0 := hr.1
    have hr1 := hr.2
    have d0 := (blk_cell hM4 (a0.toNat * 2)).trans (op_of.cell _ (by omega))
    have d1 := (blk_cell hM4 (a0.toNat * 2 + 1)).trans (op_of.cell _ (by omega))
    unfold op_of.f at h
    rw [if_pos hr] at h
    generalize op_kinds.strs.getD (a0.toNat * 2) ⟨#[]⟩ = s1 at d0 h
    generalize op_kinds.strs.getD (a0.toNat * 2 + 1) ⟨#[]⟩ = s2 at d1 h
    obtain ⟨rfl, rfl⟩ : s1 = r1 ∧ s2 = r2 := by simpa using h
    generalize op_kinds.cells.toArray = V at hM4 ⊢
    clear h hr hM4 hlim
    go_wp2
    refine bodyPost_ret (results_single rfl (.cell g 50 #[.string s1, .string s2] (0, 0) _ rfl (blk_set (blk_set hN4 0 _) 1 _) hu rfl (by kernel_rfl) .nil)) rfl ?_
    rw [hb] at hB4
    exact ⟨rfl, below_far (below_far hB4 (Nat.le_refl _) _) (Nat.le_refl _) _⟩
  · unfold op_of.f at h
    rw [if_neg hr] at h
    obtain ⟨rfl, rfl⟩ : (⟨#[]⟩ : ByteArray) = r1 ∧ (⟨#[]⟩ : ByteArray) = r2 := by simpa using h
    generalize op_kinds.cells.toArray = V at hM4 ⊢
    clear h hM4 hlim
    by_cases h1 : a0 < 0
    · go_wp2
      refine bodyPost_ret (results_single rfl (.cell g 50 #[.string ⟨#[]⟩, .string ⟨#[]⟩] (0, 0) _ rfl (blk_set (blk_set hN4 0 _) 1 _) hu rfl (by kernel_rfl) .nil)) rfl ?_
      rw [hb] at hB4
      exact ⟨rfl, below_far (below_far hB4 (Nat.le_refl _) _) (Nat.le_refl _) _⟩
    · have h2 : a0 ≥ 26 := by omega
      go_wp2
      refine bodyPost_ret (results_single rfl (.cell g 50 #[.string ⟨#[]⟩, .string ⟨#[]⟩] (0, 0) _ rfl (blk_set (blk_set hN4 0 _) 1 _) hu rfl (by kernel_rfl) .nil)) rfl ?_
      rw [hb] at hB4
      exact ⟨rfl, below_far (below_far hB4 (Nat.le_refl _) _) (Nat.le_refl _) _⟩

/-! ### op_Name: function 10 (proved by hand) -/
def op_Name.f (a0 : Int) : Option ByteArray := (op_of.f a0).bind fun x => some x.1
set_option maxHeartbeats 8000000 in
set_option maxRecDepth 100000 in
theorem op_Name.calls (a0 : Int) (r : ByteArray) (w : World) (h : op_Name.f a0 = some r) : Calls Try.prog 10 #[.int .i64 a0] w fun e w' => e = .returned (.string r) ∧ Below w.heap.size w w' := by
  have hu := Try.underlying50
  obtain ⟨r1, r2, h0⟩ : ∃ r1 r2, op_of.f a0 = some (r1, r2) := ⟨_, _, rfl⟩
  have hf : ∀ W : World, (Instr.field 50 (.agg #[.string r1, .string r2]) 0).run Try.prog W = .ok (.string r1) W := fun W => by kernel_rfl
  have hr : r1 = r := by simpa [op_Name.f, h0] using h
  subst hr
  clear h
  have H := Aside0.mk h0
  clear h0
  have HB := Aside0.mk (Below.refl w.heap.size w)
  go_enter Try.func10, Try.ntmps10
  go_wp2_with (go_at_call 25; refine (op_of.calls a0 r1 r2 _ H.out).mono ?_; rintro e w1 ⟨rfl, hb⟩; have HB1 := Aside0.mk (below_step HB.out hb); clear hb HB)
  go_ret
  exact ⟨rfl, HB1.out⟩

/-! ### op_Shape: function 11 (proved by hand) -/
def op_Shape.f (a0 : Int) : Option ByteArray := (op_of.f a0).bind fun x => some x.2
set_option maxHeartbeats 8000000 in
set_option maxRecDepth 100000 in
theorem op_Shape.calls (a0 : Int) (r : ByteArray) (w : World) (h : op_Shape.f a0 = some r) : Calls Try.prog 11 #[.int .i64 a0] w fun e w' => e = .returned (.string r) ∧ Below w.heap.size w w' := by
  have hu := Try.underlying50
  obtain ⟨r1, r2, h0⟩ : ∃ r1 r2, op_of.f a0 = some (r1, r2) := ⟨_, _, rfl⟩
  have hf : ∀ W : World, (Instr.field 50 (.agg #[.string r1, .string r2]) 1).run Try.prog W = .ok (.string r2) W := fun W => by kernel_rfl
  have hr : r2 = r := by simpa [op_Shape.f, h0] using h
  subst hr
  clear h
  have H := Aside0.mk h0
  clear h0
  have HB := Aside0.mk (Below.refl w.heap.size w)
  go_enter Try.func11, Try.ntmps11
  go_wp2_with (go_at_call 25; refine (op_of.calls a0 r1 r2 _ H.out).mono ?_; rintro e w1 ⟨rfl, hb⟩; have HB1 := Aside0.mk (below_step HB.out hb); clear hb HB)
  go_ret
  exact ⟨rfl, HB1.out⟩

/-! ### op_Shares: function 12 -/
def op_Shares.f (a0 : Int) : Option (Bool) := if 11 ≤ a0 then (if a0 ≤ 16 then (some true) else (if 18 ≤ a0 then (some (decide (a0 ≤ 25))) else (some false))) else (if 18 ≤ a0 then (some (decide (a0 ≤ 25))) else (some false))
set_option maxHeartbeats 8000000 in
set_option maxRecDepth 100000 in
theorem op_Shares.calls (a0 : Int) (r : Bool) (w : World) (h : op_Shares.f a0 = some r) :
    Calls Try.prog 12 #[.int .i64 a0] w fun e w' => e = .returned (.bool r) ∧ Drawn0 w w' := by
  have H : (if 11 ≤ a0 then (if a0 ≤ 16 then (some true) else (if 18 ≤ a0 then (some (decide (a0 ≤ 25))) else (some false))) else (if 18 ≤ a0 then (some (decide (a0 ≤ 25))) else (some false))) = some r := h
  clear h
  by_cases c2 : 11 ≤ a0
  · rw [if_pos c2] at H
    have c2b0 : decide (11 ≤ a0) = true := decide_eq_true c2
    clear c2
    by_cases c3 : a0 ≤ 16
    · rw [if_pos c3] at H
      have c3b0 : decide (a0 ≤ 16) = true := decide_eq_true c3
      clear c3
      obtain rfl := Option.some.inj H
      go_enter Try.func12, Try.ntmps12
      go_wp2
      go_ret
      exact ⟨by first | rfl | (simp; done) | (simp [*]; done), by repeat (first | exact Drawn0.refl _ | apply Drawn0.step)⟩
    · rw [if_neg c3] at H
      have c3b0 : decide (a0 ≤ 16) = false := decide_eq_false c3
      clear c3
      by_cases c4 : 18 ≤ a0
      · rw [if_pos c4] at H
        have c4b0 : decide (18 ≤ a0) = true := decide_eq_true c4
        clear c4
        obtain rfl := Option.some.inj H
        go_enter Try.func12, Try.ntmps12
        go_wp2
        go_ret
        exact ⟨by first | rfl | (simp; done) | (simp [*]; done), by repeat (first | exact Drawn0.refl _ | apply Drawn0.step)⟩
      · rw [if_neg c4] at H
        have c4b0 : decide (18 ≤ a0) = false := decide_eq_false c4
        clear c4
        obtain rfl := Option.some.inj H
        go_enter Try.func12, Try.ntmps12
        go_wp2
        go_ret
        exact ⟨by first | rfl | (simp; done) | (simp [*]; done), by repeat (first | exact Drawn0.refl _ | apply Drawn0.step)⟩
  · rw [if_neg c2] at H
    have c2b0 : decide (11 ≤ a0) = false := decide_eq_false c2
    clear c2
    by_cases c5 : 18 ≤ a0
    · rw [if_pos c5] at H
      have c5b0 : decide (18 ≤ a0) = true := decide_eq_true c5
      clear c5
      obtain rfl := Option.some.inj H
      go_enter Try.func12, Try.ntmps12
      go_wp2
      go_ret
      exact ⟨by first | rfl | (simp; done) | (simp [*]; done), by repeat (first | exact Drawn0.refl _ | apply Drawn0.step)⟩
    · rw [if_neg c5] at H
      have c5b0 : decide (18 ≤ a0) = false := decide_eq_false c5
      clear c5
      obtain rfl := Option.some.inj H
      go_enter Try.func12, Try.ntmps12
      go_wp2
      go_ret
      exact ⟨by first | rfl | (simp; done) | (simp [*]; done), by repeat (first | exact Drawn0.refl _ | apply Drawn0.step)⟩

/-! ### warrenerlaw09_alive: function 7 -/
def warrenerlaw09_alive.f  : Option (Bool) := (op_Op.f (⟨#[99, 97, 115]⟩ : ByteArray)).bind fun t101 => (if t101 = 16 then ((op_Name.f 16).bind fun t102 => (if t102.toList = ([99, 97, 115] : List UInt8) then ((op_Shape.f 16).bind fun t103 => (if t103.toList = ([114, 114, 114, 102] : List UInt8) then ((op_Shares.f 16).bind fun t104 => (some t104)) else (some false))) else (some false))) else (some false))
set_option maxHeartbeats 8000000 in
set_option maxRecDepth 100000 in
theorem warrenerlaw09_alive.calls  (r : Bool) (w : World) (h : warrenerlaw09_alive.f  = some r) :
    Calls Try.prog 7 #[] w fun e w' => e = .returned (.bool r) ∧ Below w.heap.size w w' := by
  have HB := Aside0.mk (Below.refl w.heap.size w)
  have H : ((op_Op.f (⟨#[99, 97, 115]⟩ : ByteArray)).bind fun t101 => (if t101 = 16 then ((op_Name.f 16).bind fun t102 => (if t102.toList = ([99, 97, 115] : List UInt8) then ((op_Shape.f 16).bind fun t103 => (if t103.toList = ([114, 114, 114, 102] : List UInt8) then ((op_Shares.f 16).bind fun t104 => (some t104)) else (some false))) else (some false))) else (some false))) = some r := h
  clear h
  replace H := Option.bind_eq_some_iff.mp H
  obtain ⟨t101, A10, H⟩ := H
  replace H : (if t101 = 16 then ((op_Name.f 16).bind fun t102 => (if t102.toList = ([99, 97, 115] : List UInt8) then ((op_Shape.f 16).bind fun t103 => (if t103.toList = ([114, 114, 114, 102] : List UInt8) then ((op_Shares.f 16).bind fun t104 => (some t104)) else (some false))) else (some false))) else (some false)) = some r := H
  have A1 := Aside0.mk A10
  clear A10
  by_cases c2 : t101 = 16
  · rw [if_pos c2] at H
    have c2b0 : (t101 == 16) = true := beq_iff_eq.mpr c2
    have c2b1 : (t101 != 16) = false := bne_eq_false_iff_eq.mpr c2
    clear c2
    replace H := Option.bind_eq_some_iff.mp H
    obtain ⟨t102, A30, H⟩ := H
    replace H : (if t102.toList = ([99, 97, 115] : List UInt8) then ((op_Shape.f 16).bind fun t103 => (if t103.toList = ([114, 114, 114, 102] : List UInt8) then ((op_Shares.f 16).bind fun t104 => (some t104)) else (some false))) else (some false)) = some r := H
    have A3 := Aside0.mk A30
    clear A30
    by_cases c4 : t102.toList = ([99, 97, 115] : List UInt8)
    · rw [if_pos c4] at H
      have c4b0 : (t102.toList == ([99, 97, 115] : List UInt8)) = true := beq_iff_eq.mpr c4
      have c4b1 : (t102.toList != ([99, 97, 115] : List UInt8)) = false := bne_eq_false_iff_eq.mpr c4
      clear c4
      replace H := Option.bind_eq_some_iff.mp H
      obtain ⟨t103, A50, H⟩ := H
      replace H : (if t103.toList = ([114, 114, 114, 102] : List UInt8) then ((op_Shares.f 16).bind fun t104 => (some t104)) else (some false)) = some r := H
      have A5 := Aside0.mk A50
      clear A50
      by_cases c6 : t103.toList = ([114, 114, 114, 102] : List UInt8)
      · rw [if_pos c6] at H
        have c6b0 : (t103.toList == ([114, 114, 114, 102] : List UInt8)) = true := beq_iff_eq.mpr c6
        have c6b1 : (t103.toList != ([114, 114, 114, 102] : List UInt8)) = false := bne_eq_false_iff_eq.mpr c6
        clear c6
        replace H := Option.bind_eq_some_iff.mp H
        obtain ⟨t104, A70, H⟩ := H
        replace H : (some t104) = some r := H
        have A7 := Aside0.mk A70
        clear A70
        obtain rfl := Option.some.inj H
        go_enter Try.func7, Try.ntmps7
        go_wp2_with (first | ((with_reducible refine gate_callee (f := 8) rfl ?_); refine goesL_ (some 1) rfl rfl Try.func8 (by kernel_rfl) rfl #[.string (⟨#[99, 97, 115]⟩ : ByteArray)] rfl (by (try simp only [List.map_toArray, List.map_cons, List.map_nil]); first | done | rfl | (simp only [List.length_drop, List.length_take]; rfl)) ?_; (with_reducible refine (op_Op.calls (⟨#[99, 97, 115]⟩ : ByteArray) t101 _ A1.out).mono ?_); rintro e w8 ⟨rfl, hb⟩; (try clear A1); refine ⟨_, rfl, ?_⟩; have n0_ := Aside0.mk (below_step (by repeat (first | (with_reducible first | exact HB.out | apply below_alloc | apply pw_below_drewN | apply below_drew1) | exact HB.out)) hb); clear HB; have HB := n0_; clear n0_; (try clear hb); (try clear hb2); (try clear hk); (try clear hi)) | (go_at_call 10; (with_reducible refine (op_Name.calls 16 t102 _ A3.out).mono ?_); rintro e w9 ⟨rfl, hb⟩; (try clear A3); have n0_ := Aside0.mk (below_step (by repeat (first | (with_reducible first | exact HB.out | apply below_alloc | apply pw_below_drewN | apply below_drew1) | exact HB.out)) hb); clear HB; have HB := n0_; clear n0_; (try clear hb); (try clear hb2); (try clear hk); (try clear hi)) | (go_at_call 11; (with_reducible refine (op_Shape.calls 16 t103 _ A5.out).mono ?_); rintro e w10 ⟨rfl, hb⟩; (try clear A5); have n0_ := Aside0.mk (below_step (by repeat (first | (with_reducible first | exact HB.out | apply below_alloc | apply pw_below_drewN | apply below_drew1) | exact HB.out)) hb); clear HB; have HB := n0_; clear n0_; (try clear hb); (try clear hb2); (try clear hk); (try clear hi)) | (go_at_call 12; (with_reducible refine (op_Shares.calls 16 t104 _ A7.out).mono ?_); rintro e w' ⟨rfl, ⟨nd, rfl⟩⟩; (try clear A7)))
        go_ret
        exact ⟨by first | rfl | (simp [errW_none, errW_some] <;> rfl) | (simp [*, errW_none, errW_some] <;> rfl), by repeat (first | (with_reducible first | exact HB.out | apply below_alloc | apply pw_below_drewN | apply below_drew1) | exact HB.out)⟩
      · rw [if_neg c6] at H
        have c6b0 : (t103.toList == ([114, 114, 114, 102] : List UInt8)) = false := beq_eq_false_iff_ne.mpr c6
        have c6b1 : (t103.toList != ([114, 114, 114, 102] : List UInt8)) = true := bne_iff_ne.mpr c6
        obtain rfl := Option.some.inj H
        go_enter Try.func7, Try.ntmps7
        go_wp2_with (first | ((with_reducible refine gate_callee (f := 8) rfl ?_); refine goesL_ (some 1) rfl rfl Try.func8 (by kernel_rfl) rfl #[.string (⟨#[99, 97, 115]⟩ : ByteArray)] rfl (by (try simp only [List.map_toArray, List.map_cons, List.map_nil]); first | done | rfl | (simp only [List.length_drop, List.length_take]; rfl)) ?_; (with_reducible refine (op_Op.calls (⟨#[99, 97, 115]⟩ : ByteArray) t101 _ A1.out).mono ?_); rintro e w11 ⟨rfl, hb⟩; (try clear A1); refine ⟨_, rfl, ?_⟩; have n0_ := Aside0.mk (below_step (by repeat (first | (with_reducible first | exact HB.out | apply below_alloc | apply pw_below_drewN | apply below_drew1) | exact HB.out)) hb); clear HB; have HB := n0_; clear n0_; (try clear hb); (try clear hb2); (try clear hk); (try clear hi)) | (go_at_call 10; (with_reducible refine (op_Name.calls 16 t102 _ A3.out).mono ?_); rintro e w12 ⟨rfl, hb⟩; (try clear A3); have n0_ := Aside0.mk (below_step (by repeat (first | (with_reducible first | exact HB.out | apply below_alloc | apply pw_below_drewN | apply below_drew1) | exact HB.out)) hb); clear HB; have HB := n0_; clear n0_; (try clear hb); (try clear hb2); (try clear hk); (try clear hi)) | (go_at_call 11; (with_reducible refine (op_Shape.calls 16 t103 _ A5.out).mono ?_); rintro e w13 ⟨rfl, hb⟩; (try clear A5); have n0_ := Aside0.mk (below_step (by repeat (first | (with_reducible first | exact HB.out | apply below_alloc | apply pw_below_drewN | apply below_drew1) | exact HB.out)) hb); clear HB; have HB := n0_; clear n0_; (try clear hb); (try clear hb2); (try clear hk); (try clear hi)))
        go_ret
        exact ⟨by first | rfl | (simp [errW_none, errW_some] <;> rfl) | (simp [*, errW_none, errW_some] <;> rfl), by repeat (first | (with_reducible first | exact HB.out | apply below_alloc | apply pw_below_drewN | apply below_drew1) | exact HB.out)⟩
    · rw [if_neg c4] at H
      have c4b0 : (t102.toList == ([99, 97, 115] : List UInt8)) = false := beq_eq_false_iff_ne.mpr c4
      have c4b1 : (t102.toList != ([99, 97, 115] : List UInt8)) = true := bne_iff_ne.mpr c4
      obtain rfl := Option.some.inj H
      go_enter Try.func7, Try.ntmps7
      go_wp2_with (first | ((with_reducible refine gate_callee (f := 8) rfl ?_); refine goesL_ (some 1) rfl rfl Try.func8 (by kernel_rfl) rfl #[.string (⟨#[99, 97, 115]⟩ : ByteArray)] rfl (by (try simp only [List.map_toArray, List.map_cons, List.map_nil]); first | done | rfl | (simp only [List.length_drop, List.length_take]; rfl)) ?_; (with_reducible refine (op_Op.calls (⟨#[99, 97, 115]⟩ : ByteArray) t101 _ A1.out).mono ?_); rintro e w14 ⟨rfl, hb⟩; (try clear A1); refine ⟨_, rfl, ?_⟩; have n0_ := Aside0.mk (below_step (by repeat (first | (with_reducible first | exact HB.out | apply below_alloc | apply pw_below_drewN | apply below_drew1) | exact HB.out)) hb); clear HB; have HB := n0_; clear n0_; (try clear hb); (try clear hb2); (try clear hk); (try clear hi)) | (go_at_call 10; (with_reducible refine (op_Name.calls 16 t102 _ A3.out).mono ?_); rintro e w15 ⟨rfl, hb⟩; (try clear A3); have n0_ := Aside0.mk (below_step (by repeat (first | (with_reducible first | exact HB.out | apply below_alloc | apply pw_below_drewN | apply below_drew1) | exact HB.out)) hb); clear HB; have HB := n0_; clear n0_; (try clear hb); (try clear hb2); (try clear hk); (try clear hi)))
      go_ret
      exact ⟨by first | rfl | (simp [errW_none, errW_some] <;> rfl) | (simp [*, errW_none, errW_some] <;> rfl), by repeat (first | (with_reducible first | exact HB.out | apply below_alloc | apply pw_below_drewN | apply below_drew1) | exact HB.out)⟩
  · rw [if_neg c2] at H
    have c2b0 : (t101 == 16) = false := beq_eq_false_iff_ne.mpr c2
    have c2b1 : (t101 != 16) = true := bne_iff_ne.mpr c2
    obtain rfl := Option.some.inj H
    go_enter Try.func7, Try.ntmps7
    go_wp2_with (first | ((with_reducible refine gate_callee (f := 8) rfl ?_); refine goesL_ (some 1) rfl rfl Try.func8 (by kernel_rfl) rfl #[.string (⟨#[99, 97, 115]⟩ : ByteArray)] rfl (by (try simp only [List.map_toArray, List.map_cons, List.map_nil]); first | done | rfl | (simp only [List.length_drop, List.length_take]; rfl)) ?_; (with_reducible refine (op_Op.calls (⟨#[99, 97, 115]⟩ : ByteArray) t101 _ A1.out).mono ?_); rintro e w16 ⟨rfl, hb⟩; (try clear A1); refine ⟨_, rfl, ?_⟩; have n0_ := Aside0.mk (below_step (by repeat (first | (with_reducible first | exact HB.out | apply below_alloc | apply pw_below_drewN | apply below_drew1) | exact HB.out)) hb); clear HB; have HB := n0_; clear n0_; (try clear hb); (try clear hb2); (try clear hk); (try clear hi)))
    go_ret
    exact ⟨by first | rfl | (simp [errW_none, errW_some] <;> rfl) | (simp [*, errW_none, errW_some] <;> rfl), by repeat (first | (with_reducible first | exact HB.out | apply below_alloc | apply pw_below_drewN | apply below_drew1) | exact HB.out)⟩

/-! ### warrenerlaw09_OpBack: function 4 -/
def warrenerlaw09_OpBack.j0 : Nat → Int → Bool → Option (Bool)
  | 0, _, _ => none
  | k + 1, x0, x10 => if x10 = true then ((op_Name.f x0).bind fun t106 => (if t106.toList = ([] : List UInt8) then ((op_Shape.f x0).bind fun t107 => (if t107.toList = ([] : List UInt8) then ((op_Shares.f x0).bind fun t108 => (some (!t108))) else (some false))) else (some false))) else ((op_Name.f x0).bind fun t109 => (if t109.toList = ([] : List UInt8) then (some false) else ((op_Shape.f x0).bind fun t110 => (if (t110.size : Int) = 4 then ((op_Name.f x0).bind fun t111 => ((op_Op.f t111).bind fun t112 => (some (t112 == x0)))) else (some false)))))
def warrenerlaw09_OpBack.f (k : Nat) (a0 : Int) : Option (Bool) := (warrenerlaw09_alive.f).bind fun t105 => (if t105 = true then (if a0 < 1 then (warrenerlaw09_OpBack.j0 k a0 true) else (warrenerlaw09_OpBack.j0 k a0 (decide (a0 > 25)))) else (some false))
theorem warrenerlaw09_OpBack.mono_l : ∀ k, (∀ y0 y1, LeO (warrenerlaw09_OpBack.j0 k y0 y1) (warrenerlaw09_OpBack.j0 (k + 1) y0 y1))
  | 0 => fun _ _ r h => by simp [warrenerlaw09_OpBack.j0] at h
  | k + 1 => by
    have ih0 := warrenerlaw09_OpBack.mono_l k
    · intro y0 y1
      unfold warrenerlaw09_OpBack.j0
      repeat' first
      | (with_reducible exact ih0 _ _)
      | (with_reducible exact LeO.refl _)
      | (with_reducible exact LeO.none _)
      | (with_reducible refine LeO.ite ?_ ?_)
      | (with_reducible refine LeO.bind ?_ (fun _ => ?_))
      | exact ih0 _ _
      | exact LeO.none _
      | refine LeO.ite ?_ ?_
      | refine LeO.bind ?_ (fun _ => ?_)
theorem warrenerlaw09_OpBack.mono : ∀ a0 k, LeO (warrenerlaw09_OpBack.f k a0) (warrenerlaw09_OpBack.f (k + 1) a0) := by
  intro a0 k
  have ih0 := warrenerlaw09_OpBack.mono_l k
  unfold warrenerlaw09_OpBack.f
  repeat' first
      | (with_reducible exact ih0 _ _)
      | (with_reducible exact LeO.refl _)
      | (with_reducible exact LeO.none _)
      | (with_reducible refine LeO.ite ?_ ?_)
      | (with_reducible refine LeO.bind ?_ (fun _ => ?_))
      | exact ih0 _ _
      | exact LeO.none _
      | refine LeO.ite ?_ ?_
      | refine LeO.bind ?_ (fun _ => ?_)
set_option maxHeartbeats 8000000 in
set_option maxRecDepth 100000 in
theorem warrenerlaw09_OpBack.calls (k : Nat) (a0 : Int) (r : Bool) (w : World) (h : warrenerlaw09_OpBack.f k a0 = some r) :
    Calls Try.prog 4 #[.int .i64 a0] w fun e w' => e = .returned (.bool r) ∧ Below w.heap.size w w' := by
  have HB := Aside0.mk (Below.refl w.heap.size w)
  have H : ((warrenerlaw09_alive.f).bind fun t105 => (if t105 = true then (if a0 < 1 then (warrenerlaw09_OpBack.j0 k a0 true) else (warrenerlaw09_OpBack.j0 k a0 (decide (a0 > 25)))) else (some false))) = some r := h
  clear h
  replace H := Option.bind_eq_some_iff.mp H
  obtain ⟨t105, A20, H⟩ := H
  replace H : (if t105 = true then (if a0 < 1 then (warrenerlaw09_OpBack.j0 k a0 true) else (warrenerlaw09_OpBack.j0 k a0 (decide (a0 > 25)))) else (some false)) = some r := H
  have A2 := Aside0.mk A20
  clear A20
  by_cases c3 : t105 = true
  · subst c3
    have H1 : (if a0 < 1 then (warrenerlaw09_OpBack.j0 k a0 true) else (warrenerlaw09_OpBack.j0 k a0 (decide (a0 > 25)))) = some r := by rw [if_pos rfl] at H; exact H
    clear H
    have H := H1
    clear H1
    have HC4 := Aside0.mk H
    clear H
    go_enter Try.func4, Try.ntmps4
    go_upto_region 3 with (first | ((with_reducible refine gate_callee (f := 7) rfl ?_); refine goesL_ (some 3) rfl rfl Try.func7 (by kernel_rfl) rfl #[] rfl (by (try simp only [List.map_toArray, List.map_cons, List.map_nil]); first | done | rfl | (simp only [List.length_drop, List.length_take]; rfl)) ?_; (with_reducible refine (warrenerlaw09_alive.calls  true _ A2.out).mono ?_); rintro e w5 ⟨rfl, hb⟩; (try clear A2); refine ⟨_, rfl, ?_⟩; have n0_ := Aside0.mk (below_step (by repeat (first | (with_reducible first | exact HB.out | apply below_alloc | apply pw_below_drewN | apply below_drew1) | exact HB.out)) hb); clear HB; have HB := n0_; clear n0_; (try clear hb); (try clear hb2); (try clear hk); (try clear hi)))
    (try simp only [Act.put, List.setIfInBounds_toArray, List.set_cons_zero, List.set_cons_succ])
    go_cut [10] (fun v10 wc => ∃ (kq : Nat) (x10_3 : Bool), v10 = .bool x10_3 ∧ Aside0 (warrenerlaw09_OpBack.j0 kq a0 x10_3 = some r) ∧ Aside0 (kq ≤ k) ∧ Aside0 (Below w.heap.size w wc))
    case first =>
      have H := HC4.out
      clear HC4
      by_cases c6 : a0 < 1
      · rw [if_pos c6] at H
        have c6b0 : decide (a0 < 1) = true := decide_eq_true c6
        clear c6
        (first | rw [c6b0] | (simp only [i64_w, i32_w]; rw [c6b0]) | skip)
        have H' := Aside0.mk H
        clear H
        go_wp2
        go_meet
        case rel => exact ⟨_, (true), (by first | rfl | (simp; done) | (simp [*]; done)), H', ⟨by first | omega | exact Nat.le_refl _⟩, ⟨by repeat (first | (with_reducible first | exact HB.out | apply below_alloc | apply pw_below_drewN | apply below_drew1) | exact HB.out)⟩⟩
      · rw [if_neg c6] at H
        have c6b0 : decide (a0 < 1) = false := decide_eq_false c6
        clear c6
        (first | rw [c6b0] | (simp only [i64_w, i32_w]; rw [c6b0]) | skip)
        have H' := Aside0.mk H
        clear H
        go_wp2
        go_meet
        case rel => exact ⟨_, (decide (a0 > 25)), (by first | rfl | (simp; done) | (simp [*]; done)), H', ⟨by first | omega | exact Nat.le_refl _⟩, ⟨by repeat (first | (with_reducible first | exact HB.out | apply below_alloc | apply pw_below_drewN | apply below_drew1) | exact HB.out)⟩⟩
    case rest =>
      clear HC4
      try clear p2
      try clear c3
      try clear c4
      try clear c6
      try clear c6b0
      obtain ⟨kq, x10_3, rfl, HA, HJ3, HB⟩ := hcut
      cases kq with
      | zero => exact absurd HA.out (by simp [warrenerlaw09_OpBack.j0])
      | succ kj3 =>
        have H := HA.out
        clear HA
        simp only [warrenerlaw09_OpBack.j0] at H
        by_cases c7 : x10_3 = true
        · subst c7
          have H1 : ((op_Name.f a0).bind fun t106 => (if t106.toList = ([] : List UInt8) then ((op_Shape.f a0).bind fun t107 => (if t107.toList = ([] : List UInt8) then ((op_Shares.f a0).bind fun t108 => (some (!t108))) else (some false))) else (some false))) = some r := by rw [if_pos rfl] at H; exact H
          clear H
          have H := H1
          clear H1
          replace H := Option.bind_eq_some_iff.mp H
          obtain ⟨t106, A80, H⟩ := H
          replace H : (if t106.toList = ([] : List UInt8) then ((op_Shape.f a0).bind fun t107 => (if t107.toList = ([] : List UInt8) then ((op_Shares.f a0).bind fun t108 => (some (!t108))) else (some false))) else (some false)) = some r := H
          have A8 := Aside0.mk A80
          clear A80
          by_cases c9 : t106.toList = ([] : List UInt8)
          · rw [if_pos c9] at H
            have c9b0 : (t106.toList == ([] : List UInt8)) = true := beq_iff_eq.mpr c9
            have c9b1 : (t106.toList != ([] : List UInt8)) = false := bne_eq_false_iff_eq.mpr c9
            clear c9
            replace H := Option.bind_eq_some_iff.mp H
            obtain ⟨t107, A100, H⟩ := H
            replace H : (if t107.toList = ([] : List UInt8) then ((op_Shares.f a0).bind fun t108 => (some (!t108))) else (some false)) = some r := H
            have A10 := Aside0.mk A100
            clear A100
            by_cases c11 : t107.toList = ([] : List UInt8)
            · rw [if_pos c11] at H
              have c11b0 : (t107.toList == ([] : List UInt8)) = true := beq_iff_eq.mpr c11
              have c11b1 : (t107.toList != ([] : List UInt8)) = false := bne_eq_false_iff_eq.mpr c11
              clear c11
              replace H := Option.bind_eq_some_iff.mp H
              obtain ⟨t108, A120, H⟩ := H
              replace H : (some (!t108)) = some r := H
              have A12 := Aside0.mk A120
              clear A120
              obtain rfl := Option.some.inj H
              go_wp2_with (first | ((with_reducible refine gate_callee (f := 10) rfl ?_); refine goesL_ (some 12) rfl rfl Try.func10 (by kernel_rfl) rfl #[.int .i64 a0] rfl (by (try simp only [List.map_toArray, List.map_cons, List.map_nil]); first | done | rfl | (simp only [List.length_drop, List.length_take]; rfl)) ?_; (with_reducible refine (op_Name.calls a0 t106 _ A8.out).mono ?_); rintro e w13 ⟨rfl, hb⟩; (try clear A8); refine ⟨_, rfl, ?_⟩; have n0_ := Aside0.mk (below_step (by repeat (first | (with_reducible first | exact HB.out | apply below_alloc | apply pw_below_drewN | apply below_drew1) | exact HB.out)) hb); clear HB; have HB := n0_; clear n0_; (try clear hb); (try clear hb2); (try clear hk); (try clear hi)) | (go_at_call 11; (with_reducible refine (op_Shape.calls a0 t107 _ A10.out).mono ?_); rintro e w14 ⟨rfl, hb⟩; (try clear A10); have n0_ := Aside0.mk (below_step (by repeat (first | (with_reducible first | exact HB.out | apply below_alloc | apply pw_below_drewN | apply below_drew1) | exact HB.out)) hb); clear HB; have HB := n0_; clear n0_; (try clear hb); (try clear hb2); (try clear hk); (try clear hi)) | (go_at_call 12; (with_reducible refine (op_Shares.calls a0 t108 _ A12.out).mono ?_); rintro e w' ⟨rfl, ⟨nd, rfl⟩⟩; (try clear A12)))
              go_ret
              exact ⟨by first | rfl | (simp [errW_none, errW_some] <;> rfl) | (simp [*, errW_none, errW_some] <;> rfl), by repeat (first | (with_reducible first | exact HB.out | apply below_alloc | apply pw_below_drewN | apply below_drew1) | exact HB.out)⟩
            · rw [if_neg c11] at H
              have c11b0 : (t107.toList == ([] : List UInt8)) = false := beq_eq_false_iff_ne.mpr c11
              have c11b1 : (t107.toList != ([] : List UInt8)) = true := bne_iff_ne.mpr c11
              obtain rfl := Option.some.inj H
              go_wp2_with (first | ((with_reducible refine gate_callee (f := 10) rfl ?_); refine goesL_ (some 12) rfl rfl Try.func10 (by kernel_rfl) rfl #[.int .i64 a0] rfl (by (try simp only [List.map_toArray, List.map_cons, List.map_nil]); first | done | rfl | (simp only [List.length_drop, List.length_take]; rfl)) ?_; (with_reducible refine (op_Name.calls a0 t106 _ A8.out).mono ?_); rintro e w15 ⟨rfl, hb⟩; (try clear A8); refine ⟨_, rfl, ?_⟩; have n0_ := Aside0.mk (below_step (by repeat (first | (with_reducible first | exact HB.out | apply below_alloc | apply pw_below_drewN | apply below_drew1) | exact HB.out)) hb); clear HB; have HB := n0_; clear n0_; (try clear hb); (try clear hb2); (try clear hk); (try clear hi)) | (go_at_call 11; (with_reducible refine (op_Shape.calls a0 t107 _ A10.out).mono ?_); rintro e w16 ⟨rfl, hb⟩; (try clear A10); have n0_ := Aside0.mk (below_step (by repeat (first | (with_reducible first | exact HB.out | apply below_alloc | apply pw_below_drewN | apply below_drew1) | exact HB.out)) hb); clear HB; have HB := n0_; clear n0_; (try clear hb); (try clear hb2); (try clear hk); (try clear hi)))
              go_ret
              exact ⟨by first | rfl | (simp [errW_none, errW_some] <;> rfl) | (simp [*, errW_none, errW_some] <;> rfl), by repeat (first | (with_reducible first | exact HB.out | apply below_alloc | apply pw_below_drewN | apply below_drew1) | exact HB.out)⟩
          · rw [if_neg c9] at H
            have c9b0 : (t106.toList == ([] : List UInt8)) = false := beq_eq_false_iff_ne.mpr c9
            have c9b1 : (t106.toList != ([] : List UInt8)) = true := bne_iff_ne.mpr c9
            obtain rfl := Option.some.inj H
            go_wp2_with (first | ((with_reducible refine gate_callee (f := 10) rfl ?_); refine goesL_ (some 12) rfl rfl Try.func10 (by kernel_rfl) rfl #[.int .i64 a0] rfl (by (try simp only [List.map_toArray, List.map_cons, List.map_nil]); first | done | rfl | (simp only [List.length_drop, List.length_take]; rfl)) ?_; (with_reducible refine (op_Name.calls a0 t106 _ A8.out).mono ?_); rintro e w17 ⟨rfl, hb⟩; (try clear A8); refine ⟨_, rfl, ?_⟩; have n0_ := Aside0.mk (below_step (by repeat (first | (with_reducible first | exact HB.out | apply below_alloc | apply pw_below_drewN | apply below_drew1) | exact HB.out)) hb); clear HB; have HB := n0_; clear n0_; (try clear hb); (try clear hb2); (try clear hk); (try clear hi)))
            go_ret
            exact ⟨by first | rfl | (simp [errW_none, errW_some] <;> rfl) | (simp [*, errW_none, errW_some] <;> rfl), by repeat (first | (with_reducible first | exact HB.out | apply below_alloc | apply pw_below_drewN | apply below_drew1) | exact HB.out)⟩
        · replace c7 := Bool.eq_false_iff.mpr c7
          subst c7
          have H1 : ((op_Name.f a0).bind fun t109 => (if t109.toList = ([] : List UInt8) then (some false) else ((op_Shape.f a0).bind fun t110 => (if (t110.size : Int) = 4 then ((op_Name.f a0).bind fun t111 => ((op_Op.f t111).bind fun t112 => (some (t112 == a0)))) else (some false))))) = some r := by rw [if_neg (show ¬ (false = true) by decide)] at H; exact H
          clear H
          have H := H1
          clear H1
          replace H := Option.bind_eq_some_iff.mp H
          obtain ⟨t109, A180, H⟩ := H
          replace H : (if t109.toList = ([] : List UInt8) then (some false) else ((op_Shape.f a0).bind fun t110 => (if (t110.size : Int) = 4 then ((op_Name.f a0).bind fun t111 => ((op_Op.f t111).bind fun t112 => (some (t112 == a0)))) else (some false)))) = some r := H
          have A18 := Aside0.mk A180
          clear A180
          by_cases c19 : t109.toList = ([] : List UInt8)
          · rw [if_pos c19] at H
            have c19b0 : (t109.toList == ([] : List UInt8)) = true := beq_iff_eq.mpr c19
            have c19b1 : (t109.toList != ([] : List UInt8)) = false := bne_eq_false_iff_eq.mpr c19
            clear c19
            obtain rfl := Option.some.inj H
            go_wp2_with (first | ((with_reducible refine gate_callee (f := 10) rfl ?_); refine goesL_ (some 25) rfl rfl Try.func10 (by kernel_rfl) rfl #[.int .i64 a0] rfl (by (try simp only [List.map_toArray, List.map_cons, List.map_nil]); first | done | rfl | (simp only [List.length_drop, List.length_take]; rfl)) ?_; (with_reducible refine (op_Name.calls a0 t109 _ A18.out).mono ?_); rintro e w20 ⟨rfl, hb⟩; (try clear A18); refine ⟨_, rfl, ?_⟩; have n0_ := Aside0.mk (below_step (by repeat (first | (with_reducible first | exact HB.out | apply below_alloc | apply pw_below_drewN | apply below_drew1) | exact HB.out)) hb); clear HB; have HB := n0_; clear n0_; (try clear hb); (try clear hb2); (try clear hk); (try clear hi)))
            go_ret
            exact ⟨by first | rfl | (simp [errW_none, errW_some] <;> rfl) | (simp [*, errW_none, errW_some] <;> rfl), by repeat (first | (with_reducible first | exact HB.out | apply below_alloc | apply pw_below_drewN | apply below_drew1) | exact HB.out)⟩
          · rw [if_neg c19] at H
            have c19b0 : (t109.toList == ([] : List UInt8)) = false := beq_eq_false_iff_ne.mpr c19
            have c19b1 : (t109.toList != ([] : List UInt8)) = true := bne_iff_ne.mpr c19
            replace H := Option.bind_eq_some_iff.mp H
            obtain ⟨t110, A210, H⟩ := H
            replace H : (if (t110.size : Int) = 4 then ((op_Name.f a0).bind fun t111 => ((op_Op.f t111).bind fun t112 => (some (t112 == a0)))) else (some false)) = some r := H
            have A21 := Aside0.mk A210
            clear A210
            by_cases c22 : (t110.size : Int) = 4
            · rw [if_pos c22] at H
              have c22b0 : ((t110.size : Int) == 4) = true := beq_iff_eq.mpr c22
              have c22b1 : ((t110.size : Int) != 4) = false := bne_eq_false_iff_eq.mpr c22
              clear c22
              replace H := Option.bind_eq_some_iff.mp H
              obtain ⟨t111, A230, H⟩ := H
              replace H : ((op_Op.f t111).bind fun t112 => (some (t112 == a0))) = some r := H
              have A23 := Aside0.mk A230
              clear A230
              replace H := Option.bind_eq_some_iff.mp H
              obtain ⟨t112, A240, H⟩ := H
              replace H : (some (t112 == a0)) = some r := H
              have A24 := Aside0.mk A240
              clear A240
              obtain rfl := Option.some.inj H
              go_wp2_with (first | ((with_reducible refine gate_callee (f := 10) rfl ?_); refine goesL_ (some 25) rfl rfl Try.func10 (by kernel_rfl) rfl #[.int .i64 a0] rfl (by (try simp only [List.map_toArray, List.map_cons, List.map_nil]); first | done | rfl | (simp only [List.length_drop, List.length_take]; rfl)) ?_; (with_reducible refine (op_Name.calls a0 t109 _ A18.out).mono ?_); rintro e w25 ⟨rfl, hb⟩; (try clear A18); refine ⟨_, rfl, ?_⟩; have n0_ := Aside0.mk (below_step (by repeat (first | (with_reducible first | exact HB.out | apply below_alloc | apply pw_below_drewN | apply below_drew1) | exact HB.out)) hb); clear HB; have HB := n0_; clear n0_; (try clear hb); (try clear hb2); (try clear hk); (try clear hi)) | (go_at_call 11; (with_reducible refine (op_Shape.calls a0 t110 _ A21.out).mono ?_); rintro e w26 ⟨rfl, hb⟩; (try clear A21); have n0_ := Aside0.mk (below_step (by repeat (first | (with_reducible first | exact HB.out | apply below_alloc | apply pw_below_drewN | apply below_drew1) | exact HB.out)) hb); clear HB; have HB := n0_; clear n0_; (try clear hb); (try clear hb2); (try clear hk); (try clear hi)) | (go_at_call 10; (with_reducible refine (op_Name.calls a0 t111 _ A23.out).mono ?_); rintro e w27 ⟨rfl, hb⟩; (try clear A23); have n0_ := Aside0.mk (below_step (by repeat (first | (with_reducible first | exact HB.out | apply below_alloc | apply pw_below_drewN | apply below_drew1) | exact HB.out)) hb); clear HB; have HB := n0_; clear n0_; (try clear hb); (try clear hb2); (try clear hk); (try clear hi)) | (go_at_call 8; (with_reducible refine (op_Op.calls t111 t112 _ A24.out).mono ?_); rintro e w28 ⟨rfl, hb⟩; (try clear A24); have n0_ := Aside0.mk (below_step (by repeat (first | (with_reducible first | exact HB.out | apply below_alloc | apply pw_below_drewN | apply below_drew1) | exact HB.out)) hb); clear HB; have HB := n0_; clear n0_; (try clear hb); (try clear hb2); (try clear hk); (try clear hi)))
              go_ret
              exact ⟨by first | rfl | (simp [errW_none, errW_some] <;> rfl) | (simp [*, errW_none, errW_some] <;> rfl), by repeat (first | (with_reducible first | exact HB.out | apply below_alloc | apply pw_below_drewN | apply below_drew1) | exact HB.out)⟩
            · rw [if_neg c22] at H
              have c22b0 : ((t110.size : Int) == 4) = false := beq_eq_false_iff_ne.mpr c22
              have c22b1 : ((t110.size : Int) != 4) = true := bne_iff_ne.mpr c22
              obtain rfl := Option.some.inj H
              go_wp2_with (first | ((with_reducible refine gate_callee (f := 10) rfl ?_); refine goesL_ (some 25) rfl rfl Try.func10 (by kernel_rfl) rfl #[.int .i64 a0] rfl (by (try simp only [List.map_toArray, List.map_cons, List.map_nil]); first | done | rfl | (simp only [List.length_drop, List.length_take]; rfl)) ?_; (with_reducible refine (op_Name.calls a0 t109 _ A18.out).mono ?_); rintro e w29 ⟨rfl, hb⟩; (try clear A18); refine ⟨_, rfl, ?_⟩; have n0_ := Aside0.mk (below_step (by repeat (first | (with_reducible first | exact HB.out | apply below_alloc | apply pw_below_drewN | apply below_drew1) | exact HB.out)) hb); clear HB; have HB := n0_; clear n0_; (try clear hb); (try clear hb2); (try clear hk); (try clear hi)) | (go_at_call 11; (with_reducible refine (op_Shape.calls a0 t110 _ A21.out).mono ?_); rintro e w30 ⟨rfl, hb⟩; (try clear A21); have n0_ := Aside0.mk (below_step (by repeat (first | (with_reducible first | exact HB.out | apply below_alloc | apply pw_below_drewN | apply below_drew1) | exact HB.out)) hb); clear HB; have HB := n0_; clear n0_; (try clear hb); (try clear hb2); (try clear hk); (try clear hi)))
              go_ret
              exact ⟨by first | rfl | (simp [errW_none, errW_some] <;> rfl) | (simp [*, errW_none, errW_some] <;> rfl), by repeat (first | (with_reducible first | exact HB.out | apply below_alloc | apply pw_below_drewN | apply below_drew1) | exact HB.out)⟩
  · replace c3 := Bool.eq_false_iff.mpr c3
    subst c3
    have H1 : (some false) = some r := by rw [if_neg (show ¬ (false = true) by decide)] at H; exact H
    clear H
    have H := H1
    clear H1
    obtain rfl := Option.some.inj H
    go_enter Try.func4, Try.ntmps4
    go_wp2_with (first | ((with_reducible refine gate_callee (f := 7) rfl ?_); refine goesL_ (some 3) rfl rfl Try.func7 (by kernel_rfl) rfl #[] rfl (by (try simp only [List.map_toArray, List.map_cons, List.map_nil]); first | done | rfl | (simp only [List.length_drop, List.length_take]; rfl)) ?_; (with_reducible refine (warrenerlaw09_alive.calls  false _ A2.out).mono ?_); rintro e w31 ⟨rfl, hb⟩; (try clear A2); refine ⟨_, rfl, ?_⟩; have n0_ := Aside0.mk (below_step (by repeat (first | (with_reducible first | exact HB.out | apply below_alloc | apply pw_below_drewN | apply below_drew1) | exact HB.out)) hb); clear HB; have HB := n0_; clear n0_; (try clear hb); (try clear hb2); (try clear hk); (try clear hi)))
    go_ret
    exact ⟨by first | rfl | (simp [errW_none, errW_some] <;> rfl) | (simp [*, errW_none, errW_some] <;> rfl), by repeat (first | (with_reducible first | exact HB.out | apply below_alloc | apply pw_below_drewN | apply below_drew1) | exact HB.out)⟩
/-- THE ONE PURE STATEMENT of warrenerlaw09_OpBack: yours. -/
def warrenerlaw09_OpBack.Pure : Prop := ∀ (y0 : Int), (Lit.int .i64 y0).wf = true → ∃ k, warrenerlaw09_OpBack.f k y0 = some true
theorem warrenerlaw09_OpBack.walk (P : warrenerlaw09_OpBack.Pure) (y0 : Int) (w : World)  (g0 : (Lit.int .i64 y0).wf = true) :
    Calls Try.prog 4 #[.int .i64 y0] w fun e w' => e = .returned (.bool true) ∧ Below w.heap.size w w' := by
  obtain ⟨k, h⟩ := P y0 g0
  refine (warrenerlaw09_OpBack.calls k (y0) true w  h).mono ?_
  rintro e w' ⟨rfl, hd⟩
  exact ⟨rfl, hd⟩

end Go.Proofs.Ythllggfimndklad.QOpBack
