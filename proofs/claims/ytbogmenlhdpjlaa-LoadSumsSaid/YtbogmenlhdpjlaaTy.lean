/-
  Closed facts on the types of this program: what is zero, how many cells, what a slice holds. No condition.
-/
import Derived.Test.YtbogmenlhdpjlaaRows
import Derived.Test.YtbogmenlhdpjlaaSlw
namespace Go.Proofs.Ytbogmenlhdpjlaa
open Go.Sl
namespace Ty
theorem z2 : tyZero Try.prog 2 = some [.int .i64 0] := by kernel_rfl
theorem z3 : tyZero Try.prog 3 = some [.int .i64 0] := by kernel_rfl
theorem z4 : tyZero Try.prog 4 = some [.bool false] := by kernel_rfl
theorem z5 : tyZero Try.prog 5 = some [.int .u8 0] := by kernel_rfl
theorem z6 : tyZero Try.prog 6 = some [.int .u8 0] := by kernel_rfl
theorem z7 : tyZero Try.prog 7 = some [.int .i64 0, .int .i64 0, .bool false, .int .u8 0] := by kernel_rfl
theorem z8 : tyZero Try.prog 8 = some [.int .i64 0, .int .i64 0, .bool false, .int .u8 0] := by kernel_rfl
theorem z9 : tyZero Try.prog 9 = some [.string ⟨#[]⟩] := by kernel_rfl
theorem z10 : tyZero Try.prog 10 = some [.string ⟨#[]⟩] := by kernel_rfl
theorem z11 : tyZero Try.prog 11 = some [.string ⟨#[]⟩] := by kernel_rfl
theorem z12 : tyZero Try.prog 12 = some [.int .u64 0] := by kernel_rfl
theorem z13 : tyZero Try.prog 13 = some [.string ⟨#[]⟩, .int .u64 0] := by kernel_rfl
theorem z14 : tyZero Try.prog 14 = some [.string ⟨#[]⟩, .int .u64 0] := by kernel_rfl
theorem z15 : tyZero Try.prog 15 = some [.pointer none] := by kernel_rfl
theorem z16 : tyZero Try.prog 16 = some [.pointer none] := by kernel_rfl
theorem z17 : tyZero Try.prog 17 = some [.pointer none] := by kernel_rfl
theorem z18 : tyZero Try.prog 18 = some [.pointer none] := by kernel_rfl
theorem z19 : tyZero Try.prog 19 = some [.pointer none] := by kernel_rfl
theorem z21 : tyZero Try.prog 21 = some [.int .i32 0] := by kernel_rfl
theorem z22 : tyZero Try.prog 22 = some [.slice none 0 0] := by kernel_rfl
theorem e22 : tyElem Try.prog 22 = some 3 := by kernel_rfl
theorem z24 : tyZero Try.prog 24 = some [.pointer none] := by kernel_rfl
theorem z27 : tyZero Try.prog 27 = some [.slice none 0 0] := by kernel_rfl
theorem e27 : tyElem Try.prog 27 = some 5 := by kernel_rfl
theorem z28 : tyZero Try.prog 28 = some [.slice none 0 0] := by kernel_rfl
theorem e28 : tyElem Try.prog 28 = some 31 := by kernel_rfl
theorem z30 : tyZero Try.prog 30 = some [.int .i64 0, .int .i64 0, .string ⟨#[]⟩] := by kernel_rfl
theorem z31 : tyZero Try.prog 31 = some [.int .i64 0, .int .i64 0, .string ⟨#[]⟩] := by kernel_rfl
theorem z33 : tyZero Try.prog 33 = some [.slice none 0 0] := by kernel_rfl
theorem e33 : tyElem Try.prog 33 = some 35 := by kernel_rfl
theorem z34 : tyZero Try.prog 34 = some [.int .i64 0, .int .i64 0, .string ⟨#[]⟩] := by kernel_rfl
theorem z35 : tyZero Try.prog 35 = some [.int .i64 0, .int .i64 0, .string ⟨#[]⟩] := by kernel_rfl
theorem z38 : tyZero Try.prog 38 = some [.pointer none] := by kernel_rfl
theorem z39 : tyZero Try.prog 39 = some [.slice none 0 0] := by kernel_rfl
theorem e39 : tyElem Try.prog 39 = some 64 := by kernel_rfl
theorem z40 : tyZero Try.prog 40 = some [.slice none 0 0] := by kernel_rfl
theorem z41 : tyZero Try.prog 41 = some [.slice none 0 0] := by kernel_rfl
theorem z44 : tyZero Try.prog 44 = some [.slice none 0 0] := by kernel_rfl
theorem e44 : tyElem Try.prog 44 = some 48 := by kernel_rfl
theorem z46 : tyZero Try.prog 46 = some [.slice none 0 0] := by kernel_rfl
theorem e46 : tyElem Try.prog 46 = some 28 := by kernel_rfl
theorem z47 : tyZero Try.prog 47 = some [.slice none 0 0] := by kernel_rfl
theorem e47 : tyElem Try.prog 47 = some 44 := by kernel_rfl
theorem z48 : tyZero Try.prog 48 = some [.int .i64 0, .int .i64 0, .string ⟨#[]⟩] := by kernel_rfl
theorem z53 : tyZero Try.prog 53 = some [.map none] := by kernel_rfl
theorem z54 : tyZero Try.prog 54 = some [.map none] := by kernel_rfl
theorem z55 : tyZero Try.prog 55 = some [.map none] := by kernel_rfl
theorem z56 : tyZero Try.prog 56 = some [.map none] := by kernel_rfl
theorem z63 : tyZero Try.prog 63 = some [.int .i64 0, .string ⟨#[]⟩, .int .i64 0] := by kernel_rfl
theorem z64 : tyZero Try.prog 64 = some [.int .i64 0, .string ⟨#[]⟩, .int .i64 0] := by kernel_rfl
theorem z65 : tyZero Try.prog 65 = some [.map none] := by kernel_rfl
theorem z66 : tyZero Try.prog 66 = some [.map none] := by kernel_rfl
theorem z72 : tyZero Try.prog 72 = some [.slice none 0 0] := by kernel_rfl
theorem e72 : tyElem Try.prog 72 = some 9 := by kernel_rfl
theorem z80 : tyZero Try.prog 80 = some [.int .u64 0] := by kernel_rfl
theorem z83 : tyZero Try.prog 83 = some [.int .i64 0] := by kernel_rfl
theorem z91 : tyZero Try.prog 91 = some [.int .u32 0] := by kernel_rfl
theorem z93 : tyZero Try.prog 93 = some [.int .u64 0] := by kernel_rfl
theorem z96 : tyZero Try.prog 96 = some [.int .u64 0] := by kernel_rfl
theorem z100 : tyZero Try.prog 100 = some [.pointer none] := by kernel_rfl
theorem z108 : tyZero Try.prog 108 = some [.pointer none] := by kernel_rfl
theorem z115 : tyZero Try.prog 115 = some [.pointer none, .pointer none, .pointer none, .string ⟨#[]⟩] := by kernel_rfl
theorem z116 : tyZero Try.prog 116 = some [.pointer none, .pointer none, .pointer none, .string ⟨#[]⟩] := by kernel_rfl
theorem z117 : tyZero Try.prog 117 = some [] := by kernel_rfl
theorem z118 : tyZero Try.prog 118 = some [] := by kernel_rfl
theorem z119 : tyZero Try.prog 119 = some [] := by kernel_rfl
theorem z121 : tyZero Try.prog 121 = some [.int .u8 0] := by kernel_rfl
theorem z122 : tyZero Try.prog 122 = some [.int .u8 0] := by kernel_rfl
theorem z124 : tyZero Try.prog 124 = some [.pointer none] := by kernel_rfl
theorem z125 : tyZero Try.prog 125 = some [.int .i32 0] := by kernel_rfl
theorem z126 : tyZero Try.prog 126 = some [.int .i32 0] := by kernel_rfl
theorem z127 : tyZero Try.prog 127 = some [.int .u64 0, .int .u64 0, .int .u32 0, .int .u8 0, .int .u8 0, .int .u8 0, .int .u8 0, .nilFunc, .pointer none, .int .i32 0, .int .i32 0] := by kernel_rfl
theorem z128 : tyZero Try.prog 128 = some [.int .u64 0, .int .u64 0, .int .u32 0, .int .u8 0, .int .u8 0, .int .u8 0, .int .u8 0, .nilFunc, .pointer none, .int .i32 0, .int .i32 0] := by kernel_rfl
theorem z129 : tyZero Try.prog 129 = some [.pointer none] := by kernel_rfl
theorem r3 : tyRow Try.prog 3 = some (some (.int .i64 0), 1, 8) := by kernel_rfl
theorem r5 : tyRow Try.prog 5 = some (some (.int .u8 0), 1, 1) := by kernel_rfl
theorem r9 : tyRow Try.prog 9 = some (some (.string ⟨#[]⟩), 1, 16) := by kernel_rfl
theorem r28 : tyRow Try.prog 28 = some (some (.slice none 0 0), 1, 24) := by kernel_rfl
theorem r31 : tyRow Try.prog 31 = some (some (.agg #[.int .i64 0, .int .i64 0, .string ⟨#[]⟩]), 3, 32) := by kernel_rfl
theorem r35 : tyRow Try.prog 35 = some (some (.agg #[.int .i64 0, .int .i64 0, .string ⟨#[]⟩]), 3, 32) := by kernel_rfl
theorem r44 : tyRow Try.prog 44 = some (some (.slice none 0 0), 1, 24) := by kernel_rfl
theorem r48 : tyRow Try.prog 48 = some (some (.agg #[.int .i64 0, .int .i64 0, .string ⟨#[]⟩]), 3, 32) := by kernel_rfl
theorem r64 : tyRow Try.prog 64 = some (some (.agg #[.int .i64 0, .string ⟨#[]⟩, .int .i64 0]), 3, 32) := by kernel_rfl
end Ty
end Go.Proofs.Ytbogmenlhdpjlaa
