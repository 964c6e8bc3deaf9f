/-
  Closed facts on the types of this program: what is zero, how many cells, what a slice holds. No condition.
-/
import Derived.Test.YtihciopankhjgaaRows
import Derived.Test.YtihciopankhjgaaSlw
namespace Go.Proofs.Ytihciopankhjgaa
open Go.Sl
namespace Ty
theorem z2 : tyZero Try.prog 2 = some [.int .i64 0] := by kernel_rfl
theorem z3 : tyZero Try.prog 3 = some [.int .i64 0] := by kernel_rfl
theorem z4 : tyZero Try.prog 4 = some [.bool false] := by kernel_rfl
theorem z5 : tyZero Try.prog 5 = some [.int .u8 0] := by kernel_rfl
theorem z6 : tyZero Try.prog 6 = some [.int .u8 0] := by kernel_rfl
theorem z7 : tyZero Try.prog 7 = some [.int .i64 0, .int .i64 0, .bool false, .int .u8 0] := by kernel_rfl
theorem z8 : tyZero Try.prog 8 = some [.int .i64 0, .int .i64 0, .bool false, .int .u8 0] := by kernel_rfl
theorem z9 : tyZero Try.prog 9 = some [.string ⟨#[]⟩] := by kernel_rfl
theorem z10 : tyZero Try.prog 10 = some [.string ⟨#[]⟩] := by kernel_rfl
theorem z11 : tyZero Try.prog 11 = some [.string ⟨#[]⟩] := by kernel_rfl
theorem z12 : tyZero Try.prog 12 = some [.int .u64 0] := by kernel_rfl
theorem z13 : tyZero Try.prog 13 = some [.string ⟨#[]⟩, .int .u64 0] := by kernel_rfl
theorem z14 : tyZero Try.prog 14 = some [.string ⟨#[]⟩, .int .u64 0] := by kernel_rfl
theorem z15 : tyZero Try.prog 15 = some [.pointer none] := by kernel_rfl
theorem z16 : tyZero Try.prog 16 = some [.pointer none] := by kernel_rfl
theorem z17 : tyZero Try.prog 17 = some [.pointer none] := by kernel_rfl
theorem z18 : tyZero Try.prog 18 = some [.pointer none] := by kernel_rfl
theorem z19 : tyZero Try.prog 19 = some [.pointer none] := by kernel_rfl
theorem z21 : tyZero Try.prog 21 = some [.int .i32 0] := by kernel_rfl
theorem z22 : tyZero Try.prog 22 = some [.slice none 0 0] := by kernel_rfl
theorem e22 : tyElem Try.prog 22 = some 3 := by kernel_rfl
theorem z24 : tyZero Try.prog 24 = some [.pointer none] := by kernel_rfl
theorem z26 : tyZero Try.prog 26 = some [.slice none 0 0] := by kernel_rfl
theorem e26 : tyElem Try.prog 26 = some 33 := by kernel_rfl
theorem z27 : tyZero Try.prog 27 = some [.int .i64 0] := by kernel_rfl
theorem z30 : tyZero Try.prog 30 = some [.int .i64 0, .string ⟨#[]⟩, .bool false, .int .i64 0, .int .i64 0, .int .i64 0] := by kernel_rfl
theorem z31 : tyZero Try.prog 31 = some [.int .i64 0, .string ⟨#[]⟩, .bool false, .int .i64 0, .int .i64 0, .int .i64 0] := by kernel_rfl
theorem z32 : tyZero Try.prog 32 = some [.string ⟨#[]⟩, .string ⟨#[]⟩, .int .i64 0, .int .i64 0, .int .i64 0, .int .i64 0, .int .i64 0, .int .i64 0] := by kernel_rfl
theorem z33 : tyZero Try.prog 33 = some [.string ⟨#[]⟩, .string ⟨#[]⟩, .int .i64 0, .int .i64 0, .int .i64 0, .int .i64 0, .int .i64 0, .int .i64 0] := by kernel_rfl
theorem z40 : tyZero Try.prog 40 = some [.slice none 0 0] := by kernel_rfl
theorem e40 : tyElem Try.prog 40 = some 31 := by kernel_rfl
theorem z43 : tyZero Try.prog 43 = some [.pointer none] := by kernel_rfl
theorem z46 : tyZero Try.prog 46 = some [.slice none 0 0] := by kernel_rfl
theorem e46 : tyElem Try.prog 46 = some 79 := by kernel_rfl
theorem z51 : tyZero Try.prog 51 = some [.slice none 0 0, .int .i64 0] := by kernel_rfl
theorem z52 : tyZero Try.prog 52 = some [.slice none 0 0, .int .i64 0] := by kernel_rfl
theorem z54 : tyZero Try.prog 54 = some [.slice none 0 0] := by kernel_rfl
theorem e54 : tyElem Try.prog 54 = some 61 := by kernel_rfl
theorem z58 : tyZero Try.prog 58 = some [.int .i64 0, .int .i64 0, .int .i64 0, .int .i64 0] := by kernel_rfl
theorem z59 : tyZero Try.prog 59 = some [.int .i64 0, .int .i64 0, .int .i64 0, .int .i64 0, .int .i64 0, .int .i64 0, .int .i64 0, .int .i64 0] := by kernel_rfl
theorem z60 : tyZero Try.prog 60 = some [.int .i64 0, .int .i64 0, .int .i64 0, .string ⟨#[]⟩, .bool false, .int .i64 0, .int .i64 0, .int .i64 0] := by kernel_rfl
theorem z61 : tyZero Try.prog 61 = some [.int .i64 0, .int .i64 0, .int .i64 0, .string ⟨#[]⟩, .bool false, .int .i64 0, .int .i64 0, .int .i64 0] := by kernel_rfl
theorem z63 : tyZero Try.prog 63 = some [.slice none 0 0] := by kernel_rfl
theorem e63 : tyElem Try.prog 63 = some 31 := by kernel_rfl
theorem z64 : tyZero Try.prog 64 = some [.slice none 0 0, .slice none 0 0, .slice none 0 0, .slice none 0 0] := by kernel_rfl
theorem z65 : tyZero Try.prog 65 = some [.slice none 0 0, .slice none 0 0, .slice none 0 0, .slice none 0 0, .slice none 0 0, .slice none 0 0, .slice none 0 0, .slice none 0 0, .int .i64 0] := by kernel_rfl
theorem z66 : tyZero Try.prog 66 = some [.slice none 0 0, .slice none 0 0, .slice none 0 0, .slice none 0 0, .slice none 0 0, .slice none 0 0, .slice none 0 0, .slice none 0 0, .int .i64 0] := by kernel_rfl
theorem z67 : tyZero Try.prog 67 = some [.pointer none] := by kernel_rfl
theorem z70 : tyZero Try.prog 70 = some [.pointer none] := by kernel_rfl
theorem z74 : tyZero Try.prog 74 = some [.slice none 0 0] := by kernel_rfl
theorem e74 : tyElem Try.prog 74 = some 67 := by kernel_rfl
theorem z79 : tyZero Try.prog 79 = some [.string ⟨#[]⟩, .string ⟨#[]⟩, .int .i64 0, .int .i64 0, .int .i64 0, .int .i64 0, .int .i64 0, .int .i64 0] := by kernel_rfl
theorem z95 : tyZero Try.prog 95 = some [.int .u64 0] := by kernel_rfl
theorem z99 : tyZero Try.prog 99 = some [.int .i64 0] := by kernel_rfl
theorem z107 : tyZero Try.prog 107 = some [.int .u32 0] := by kernel_rfl
theorem z109 : tyZero Try.prog 109 = some [.int .u64 0] := by kernel_rfl
theorem z110 : tyZero Try.prog 110 = some [.int .u64 0] := by kernel_rfl
theorem z114 : tyZero Try.prog 114 = some [.pointer none] := by kernel_rfl
theorem z116 : tyZero Try.prog 116 = some [.pointer none] := by kernel_rfl
theorem z120 : tyZero Try.prog 120 = some [.pointer none, .pointer none, .pointer none, .string ⟨#[]⟩] := by kernel_rfl
theorem z121 : tyZero Try.prog 121 = some [.pointer none, .pointer none, .pointer none, .string ⟨#[]⟩] := by kernel_rfl
theorem z122 : tyZero Try.prog 122 = some [] := by kernel_rfl
theorem z123 : tyZero Try.prog 123 = some [] := by kernel_rfl
theorem z124 : tyZero Try.prog 124 = some [] := by kernel_rfl
theorem z125 : tyZero Try.prog 125 = some [.int .u8 0] := by kernel_rfl
theorem z126 : tyZero Try.prog 126 = some [.int .u8 0] := by kernel_rfl
theorem z128 : tyZero Try.prog 128 = some [.pointer none] := by kernel_rfl
theorem z129 : tyZero Try.prog 129 = some [.int .i32 0] := by kernel_rfl
theorem z130 : tyZero Try.prog 130 = some [.int .i32 0] := by kernel_rfl
theorem z131 : tyZero Try.prog 131 = some [.int .u64 0, .int .u64 0, .int .u32 0, .int .u8 0, .int .u8 0, .int .u8 0, .int .u8 0, .nilFunc, .pointer none, .int .i32 0, .int .i32 0] := by kernel_rfl
theorem z132 : tyZero Try.prog 132 = some [.int .u64 0, .int .u64 0, .int .u32 0, .int .u8 0, .int .u8 0, .int .u8 0, .int .u8 0, .nilFunc, .pointer none, .int .i32 0, .int .i32 0] := by kernel_rfl
theorem z133 : tyZero Try.prog 133 = some [.pointer none] := by kernel_rfl
theorem r3 : tyRow Try.prog 3 = some (some (.int .i64 0), 1, 8) := by kernel_rfl
theorem r31 : tyRow Try.prog 31 = some (some (.agg #[.int .i64 0, .string ⟨#[]⟩, .bool false, .int .i64 0, .int .i64 0, .int .i64 0]), 6, 56) := by kernel_rfl
theorem r33 : tyRow Try.prog 33 = some (some (.agg #[.string ⟨#[]⟩, .string ⟨#[]⟩, .int .i64 0, .int .i64 0, .int .i64 0, .int .i64 0, .int .i64 0, .int .i64 0]), 8, 80) := by kernel_rfl
theorem r61 : tyRow Try.prog 61 = some (some (.agg #[.int .i64 0, .int .i64 0, .int .i64 0, .string ⟨#[]⟩, .bool false, .int .i64 0, .int .i64 0, .int .i64 0]), 8, 72) := by kernel_rfl
theorem r67 : tyRow Try.prog 67 = some (some (.pointer none), 1, 8) := by kernel_rfl
theorem r79 : tyRow Try.prog 79 = some (some (.agg #[.string ⟨#[]⟩, .string ⟨#[]⟩, .int .i64 0, .int .i64 0, .int .i64 0, .int .i64 0, .int .i64 0, .int .i64 0]), 8, 80) := by kernel_rfl
end Ty
end Go.Proofs.Ytihciopankhjgaa
