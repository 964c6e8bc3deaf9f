/-
  Closed facts on the types of this program: what is zero, how many cells, what a slice holds. No condition.
-/
import Derived.Test.YtbcokphjpllbiaaGreatVaultBackM2
import Derived.Test.YtbcokphjpllbiaaGreatRows
section
namespace Go.Proofs.YtbcokphjpllbiaaGreat
open Go.Sl
namespace Ty
theorem z3 : tyZero Tryz.prog 3 = some [.int .i64 0] := by kernel_rfl
theorem z4 : tyZero Tryz.prog 4 = some [.bool false] := by kernel_rfl
theorem z5 : tyZero Tryz.prog 5 = some [.int .u8 0] := by kernel_rfl
theorem z9 : tyZero Tryz.prog 9 = some [.string ⟨#[]⟩] := by kernel_rfl
theorem z22 : tyZero Tryz.prog 22 = some [.slice none 0 0] := by kernel_rfl
theorem z24 : tyZero Tryz.prog 24 = some [.pointer none] := by kernel_rfl
theorem z25 : tyZero Tryz.prog 25 = some [.pointer none] := by kernel_rfl
theorem e30 : tyElem Tryz.prog 30 = some 5 := by kernel_rfl
theorem z39 : tyZero Tryz.prog 39 = some [.int .i64 0, .int .i64 0, .int .i64 0, .int .i64 0] := by kernel_rfl
theorem z41 : tyZero Tryz.prog 41 = some [.int .i64 0, .string ⟨#[]⟩, .bool false, .int .i64 0, .int .i64 0, .int .i64 0] := by kernel_rfl
theorem z43 : tyZero Tryz.prog 43 = some [.int .i64 0, .int .i64 0, .string ⟨#[]⟩, .int .i64 0, .int .i64 0, .int .i64 0, .int .i64 0, .int .i64 0, .string ⟨#[]⟩, .bool false, .int .i64 0, .int .i64 0, .int .i64 0] := by kernel_rfl
theorem e56 : tyElem Tryz.prog 56 = some 94 := by kernel_rfl
theorem z57 : tyZero Tryz.prog 57 = some [.slice none 0 0] := by kernel_rfl
theorem e57 : tyElem Tryz.prog 57 = some 41 := by kernel_rfl
theorem z63 : tyZero Tryz.prog 63 = some [.pointer none] := by kernel_rfl
theorem z64 : tyZero Tryz.prog 64 = some [.slice none 0 0, .pointer none, .int .i64 0] := by kernel_rfl
theorem z77 : tyZero Tryz.prog 77 = some [.map none] := by kernel_rfl
theorem z91 : tyZero Tryz.prog 91 = some [.slice none 0 0] := by kernel_rfl
theorem z94 : tyZero Tryz.prog 94 = some [.string ⟨#[]⟩, .int .i64 0, .int .i64 0, .int .i64 0, .int .i64 0] := by kernel_rfl
theorem e96 : tyElem Tryz.prog 96 = some 3 := by kernel_rfl
theorem e98 : tyElem Tryz.prog 98 = some 102 := by kernel_rfl
theorem z102 : tyZero Tryz.prog 102 = some [.string ⟨#[]⟩, .string ⟨#[]⟩, .int .i64 0, .int .i64 0, .int .i64 0, .int .i64 0, .int .i64 0, .int .i64 0] := by kernel_rfl
theorem e107 : tyElem Tryz.prog 107 = some 111 := by kernel_rfl
theorem z111 : tyZero Tryz.prog 111 = some [.string ⟨#[]⟩, .string ⟨#[]⟩, .int .i64 0, .int .i64 0, .int .i64 0, .int .i64 0, .int .i64 0, .int .i64 0] := by kernel_rfl
theorem e128 : tyElem Tryz.prog 128 = some 39 := by kernel_rfl
theorem e136 : tyElem Tryz.prog 136 = some 73 := by kernel_rfl
theorem e137 : tyElem Tryz.prog 137 = some 41 := by kernel_rfl
theorem e149 : tyElem Tryz.prog 149 = some 30 := by kernel_rfl
theorem e151 : tyElem Tryz.prog 151 = some 141 := by kernel_rfl
theorem r3 : tyRow Tryz.prog 3 = some (some (.int .i64 0), 1, 8) := by kernel_rfl
theorem r5 : tyRow Tryz.prog 5 = some (some (.int .u8 0), 1, 1) := by kernel_rfl
theorem r30 : tyRow Tryz.prog 30 = some (some (.slice none 0 0), 1, 24) := by kernel_rfl
theorem r39 : tyRow Tryz.prog 39 = some (some (.agg #[.int .i64 0, .int .i64 0, .int .i64 0, .int .i64 0]), 4, 32) := by kernel_rfl
theorem r41 : tyRow Tryz.prog 41 = some (some (.agg #[.int .i64 0, .string ⟨#[]⟩, .bool false, .int .i64 0, .int .i64 0, .int .i64 0]), 6, 56) := by kernel_rfl
theorem r73 : tyRow Tryz.prog 73 = some (some (.pointer none), 1, 8) := by kernel_rfl
theorem r94 : tyRow Tryz.prog 94 = some (some (.agg #[.string ⟨#[]⟩, .int .i64 0, .int .i64 0, .int .i64 0, .int .i64 0]), 5, 48) := by kernel_rfl
theorem r102 : tyRow Tryz.prog 102 = some (some (.agg #[.string ⟨#[]⟩, .string ⟨#[]⟩, .int .i64 0, .int .i64 0, .int .i64 0, .int .i64 0, .int .i64 0, .int .i64 0]), 8, 80) := by kernel_rfl
theorem r111 : tyRow Tryz.prog 111 = some (some (.agg #[.string ⟨#[]⟩, .string ⟨#[]⟩, .int .i64 0, .int .i64 0, .int .i64 0, .int .i64 0, .int .i64 0, .int .i64 0]), 8, 80) := by kernel_rfl
theorem r141 : tyRow Tryz.prog 141 = some (some (.pointer none), 1, 8) := by kernel_rfl
end Ty
end Go.Proofs.YtbcokphjpllbiaaGreat
end
