/-
  Closed facts on the types of this program: what is zero, how many cells, what a slice holds. No condition.
-/
import Derived.Test.YtfiibhgjfekgiaaGreatEconOldM2
import Derived.Test.YtfiibhgjfekgiaaGreatRows
section
namespace Go.Proofs.YtfiibhgjfekgiaaGreat
open Go.Sl
namespace Ty
theorem z2 : tyZero Tryz.prog 2 = some [.int .i64 0] := by kernel_rfl
theorem z3 : tyZero Tryz.prog 3 = some [.int .i64 0] := by kernel_rfl
theorem z4 : tyZero Tryz.prog 4 = some [.bool false] := by kernel_rfl
theorem z5 : tyZero Tryz.prog 5 = some [.int .u8 0] := by kernel_rfl
theorem z6 : tyZero Tryz.prog 6 = some [.int .u8 0] := by kernel_rfl
theorem z7 : tyZero Tryz.prog 7 = some [.int .i64 0, .int .i64 0, .bool false, .int .u8 0] := by kernel_rfl
theorem z8 : tyZero Tryz.prog 8 = some [.int .i64 0, .int .i64 0, .bool false, .int .u8 0] := by kernel_rfl
theorem z9 : tyZero Tryz.prog 9 = some [.string ⟨#[]⟩] := by kernel_rfl
theorem z22 : tyZero Tryz.prog 22 = some [.string ⟨#[]⟩, .string ⟨#[]⟩] := by kernel_rfl
theorem z23 : tyZero Tryz.prog 23 = some [.string ⟨#[]⟩, .string ⟨#[]⟩] := by kernel_rfl
theorem z24 : tyZero Tryz.prog 24 = some [.int .i64 0, .int .i64 0, .int .i64 0, .string ⟨#[]⟩, .string ⟨#[]⟩, .string ⟨#[]⟩, .string ⟨#[]⟩, .int .i64 0, .int .i64 0, .int .i64 0, .bool false, .int .i64 0] := by kernel_rfl
theorem z25 : tyZero Tryz.prog 25 = some [.int .i64 0, .int .i64 0, .int .i64 0, .string ⟨#[]⟩, .string ⟨#[]⟩, .string ⟨#[]⟩, .string ⟨#[]⟩, .int .i64 0, .int .i64 0, .int .i64 0, .bool false, .int .i64 0] := by kernel_rfl
theorem z27 : tyZero Tryz.prog 27 = some [.slice none 0 0] := by kernel_rfl
theorem e27 : tyElem Tryz.prog 27 = some 25 := by kernel_rfl
theorem z28 : tyZero Tryz.prog 28 = some [.pointer none] := by kernel_rfl
theorem z32 : tyZero Tryz.prog 32 = some [.int .i64 0, .int .i64 0, .int .i64 0, .int .i64 0] := by kernel_rfl
theorem z33 : tyZero Tryz.prog 33 = some [.int .i64 0, .int .i64 0, .int .i64 0, .int .i64 0, .int .i64 0, .int .i64 0] := by kernel_rfl
theorem z34 : tyZero Tryz.prog 34 = some [.int .i64 0, .int .i64 0, .int .i64 0, .int .i64 0, .int .i64 0, .int .i64 0] := by kernel_rfl
theorem z39 : tyZero Tryz.prog 39 = some [.slice none 0 0] := by kernel_rfl
theorem z44 : tyZero Tryz.prog 44 = some [.int .i64 0, .int .i64 0, .string ⟨#[]⟩, .string ⟨#[]⟩, .string ⟨#[]⟩, .string ⟨#[]⟩, .int .i64 0, .int .i64 0] := by kernel_rfl
theorem z45 : tyZero Tryz.prog 45 = some [.int .i64 0, .int .i64 0, .string ⟨#[]⟩, .string ⟨#[]⟩, .string ⟨#[]⟩, .string ⟨#[]⟩, .int .i64 0, .int .i64 0] := by kernel_rfl
theorem z50 : tyZero Tryz.prog 50 = some [.map none] := by kernel_rfl
theorem z51 : tyZero Tryz.prog 51 = some [.map none] := by kernel_rfl
theorem z53 : tyZero Tryz.prog 53 = some [.map none, .map none, .map none, .map none] := by kernel_rfl
theorem z56 : tyZero Tryz.prog 56 = some [.nilFunc, .nilFunc, .nilFunc, .nilFunc, .nilFunc, .nilFunc, .nilFunc, .nilFunc] := by kernel_rfl
theorem z59 : tyZero Tryz.prog 59 = some [.int .i64 0, .int .i64 0, .int .i64 0, .int .i64 0, .int .i64 0, .int .i64 0, .int .i64 0] := by kernel_rfl
theorem z64 : tyZero Tryz.prog 64 = some [.int .i64 0, .int .i64 0] := by kernel_rfl
theorem z65 : tyZero Tryz.prog 65 = some [.int .i64 0, .int .i64 0] := by kernel_rfl
theorem z80 : tyZero Tryz.prog 80 = some [.int .i64 0, .string ⟨#[]⟩, .bool false, .int .i64 0, .int .i64 0, .int .i64 0] := by kernel_rfl
theorem z93 : tyZero Tryz.prog 93 = some [.int .i64 0, .int .i64 0, .int .i64 0, .string ⟨#[]⟩, .string ⟨#[]⟩, .string ⟨#[]⟩, .string ⟨#[]⟩, .int .i64 0, .int .i64 0, .int .i64 0, .bool false, .int .i64 0] := by kernel_rfl
theorem z94 : tyZero Tryz.prog 94 = some [.nilFunc, .nilFunc, .nilFunc, .nilFunc, .nilFunc, .nilFunc, .nilFunc, .nilFunc] := by kernel_rfl
theorem e108 : tyElem Tryz.prog 108 = some 112 := by kernel_rfl
theorem z112 : tyZero Tryz.prog 112 = some [.string ⟨#[]⟩, .string ⟨#[]⟩, .int .i64 0, .int .i64 0, .int .i64 0, .int .i64 0, .int .i64 0, .int .i64 0] := by kernel_rfl
theorem e117 : tyElem Tryz.prog 117 = some 80 := by kernel_rfl
theorem e122 : tyElem Tryz.prog 122 = some 158 := by kernel_rfl
theorem e133 : tyElem Tryz.prog 133 = some 32 := by kernel_rfl
theorem e135 : tyElem Tryz.prog 135 = some 80 := by kernel_rfl
theorem e143 : tyElem Tryz.prog 143 = some 139 := by kernel_rfl
theorem r3 : tyRow Tryz.prog 3 = some (some (.int .i64 0), 1, 8) := by kernel_rfl
theorem r5 : tyRow Tryz.prog 5 = some (some (.int .u8 0), 1, 1) := by kernel_rfl
theorem r25 : tyRow Tryz.prog 25 = some (some (.agg #[.int .i64 0, .int .i64 0, .int .i64 0, .string ⟨#[]⟩, .string ⟨#[]⟩, .string ⟨#[]⟩, .string ⟨#[]⟩, .int .i64 0, .int .i64 0, .int .i64 0, .bool false, .int .i64 0]), 12, 128) := by kernel_rfl
theorem r32 : tyRow Tryz.prog 32 = some (some (.agg #[.int .i64 0, .int .i64 0, .int .i64 0, .int .i64 0]), 4, 32) := by kernel_rfl
theorem r80 : tyRow Tryz.prog 80 = some (some (.agg #[.int .i64 0, .string ⟨#[]⟩, .bool false, .int .i64 0, .int .i64 0, .int .i64 0]), 6, 56) := by kernel_rfl
theorem r112 : tyRow Tryz.prog 112 = some (some (.agg #[.string ⟨#[]⟩, .string ⟨#[]⟩, .int .i64 0, .int .i64 0, .int .i64 0, .int .i64 0, .int .i64 0, .int .i64 0]), 8, 80) := by kernel_rfl
theorem r139 : tyRow Tryz.prog 139 = some (some (.pointer none), 1, 8) := by kernel_rfl
theorem r158 : tyRow Tryz.prog 158 = some (some (.agg #[.string ⟨#[]⟩, .int .i64 0, .int .i64 0, .int .i64 0, .int .i64 0]), 5, 48) := by kernel_rfl
end Ty
end Go.Proofs.YtfiibhgjfekgiaaGreat
end
