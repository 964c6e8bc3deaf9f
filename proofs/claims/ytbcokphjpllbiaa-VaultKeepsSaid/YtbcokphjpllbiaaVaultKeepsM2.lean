/-
  Closed facts on the types of this program: what is zero, how many cells, what a slice holds. No condition.
-/
import Derived.Test.YtbcokphjpllbiaaVaultKeepsM1
import Derived.Test.YtbcokphjpllbiaaRows
section
namespace Go.Proofs.Ytbcokphjpllbiaa
open Go.Sl
namespace Ty
theorem z2 : tyZero Try.prog 2 = some [.int .i64 0] := by kernel_rfl
theorem z3 : tyZero Try.prog 3 = some [.int .i64 0] := by kernel_rfl
theorem z4 : tyZero Try.prog 4 = some [.bool false] := by kernel_rfl
theorem z5 : tyZero Try.prog 5 = some [.int .u8 0] := by kernel_rfl
theorem z6 : tyZero Try.prog 6 = some [.int .u8 0] := by kernel_rfl
theorem z7 : tyZero Try.prog 7 = some [.int .i64 0, .int .i64 0, .bool false, .int .u8 0] := by kernel_rfl
theorem z8 : tyZero Try.prog 8 = some [.int .i64 0, .int .i64 0, .bool false, .int .u8 0] := by kernel_rfl
theorem z9 : tyZero Try.prog 9 = some [.string ⟨#[]⟩] := by kernel_rfl
theorem z10 : tyZero Try.prog 10 = some [.string ⟨#[]⟩] := by kernel_rfl
theorem z11 : tyZero Try.prog 11 = some [.string ⟨#[]⟩] := by kernel_rfl
theorem z12 : tyZero Try.prog 12 = some [.int .u64 0] := by kernel_rfl
theorem z13 : tyZero Try.prog 13 = some [.string ⟨#[]⟩, .int .u64 0] := by kernel_rfl
theorem z14 : tyZero Try.prog 14 = some [.string ⟨#[]⟩, .int .u64 0] := by kernel_rfl
theorem z15 : tyZero Try.prog 15 = some [.pointer none] := by kernel_rfl
theorem z16 : tyZero Try.prog 16 = some [.pointer none] := by kernel_rfl
theorem z17 : tyZero Try.prog 17 = some [.pointer none] := by kernel_rfl
theorem z18 : tyZero Try.prog 18 = some [.pointer none] := by kernel_rfl
theorem z19 : tyZero Try.prog 19 = some [.pointer none] := by kernel_rfl
theorem z21 : tyZero Try.prog 21 = some [.int .i32 0] := by kernel_rfl
theorem z23 : tyZero Try.prog 23 = some [.pointer none] := by kernel_rfl
theorem z25 : tyZero Try.prog 25 = some [.int .i64 0] := by kernel_rfl
theorem z27 : tyZero Try.prog 27 = some [.int .i64 0, .int .i64 0, .int .i64 0, .int .i64 0] := by kernel_rfl
theorem z28 : tyZero Try.prog 28 = some [.int .i64 0, .int .i64 0, .int .i64 0, .int .i64 0] := by kernel_rfl
theorem z31 : tyZero Try.prog 31 = some [.int .i64 0, .string ⟨#[]⟩, .bool false, .int .i64 0, .int .i64 0, .int .i64 0] := by kernel_rfl
theorem z32 : tyZero Try.prog 32 = some [.int .i64 0, .string ⟨#[]⟩, .bool false, .int .i64 0, .int .i64 0, .int .i64 0] := by kernel_rfl
theorem z37 : tyZero Try.prog 37 = some [.slice none 0 0] := by kernel_rfl
theorem e37 : tyElem Try.prog 37 = some 40 := by kernel_rfl
theorem z39 : tyZero Try.prog 39 = some [.int .i64 0, .int .i64 0, .string ⟨#[]⟩, .int .i64 0, .int .i64 0, .int .i64 0, .int .i64 0, .int .i64 0, .string ⟨#[]⟩, .bool false, .int .i64 0, .int .i64 0, .int .i64 0] := by kernel_rfl
theorem z40 : tyZero Try.prog 40 = some [.int .i64 0, .int .i64 0, .string ⟨#[]⟩, .int .i64 0, .int .i64 0, .int .i64 0, .int .i64 0, .int .i64 0, .string ⟨#[]⟩, .bool false, .int .i64 0, .int .i64 0, .int .i64 0] := by kernel_rfl
theorem z41 : tyZero Try.prog 41 = some [.slice none 0 0] := by kernel_rfl
theorem e41 : tyElem Try.prog 41 = some 46 := by kernel_rfl
theorem z42 : tyZero Try.prog 42 = some [.slice none 0 0] := by kernel_rfl
theorem e42 : tyElem Try.prog 42 = some 32 := by kernel_rfl
theorem z45 : tyZero Try.prog 45 = some [.string ⟨#[]⟩, .int .i64 0, .int .i64 0, .int .i64 0, .int .i64 0] := by kernel_rfl
theorem z46 : tyZero Try.prog 46 = some [.string ⟨#[]⟩, .int .i64 0, .int .i64 0, .int .i64 0, .int .i64 0] := by kernel_rfl
theorem z49 : tyZero Try.prog 49 = some [.slice none 0 0] := by kernel_rfl
theorem e49 : tyElem Try.prog 49 = some 5 := by kernel_rfl
theorem z52 : tyZero Try.prog 52 = some [.map none] := by kernel_rfl
theorem z53 : tyZero Try.prog 53 = some [.pointer none] := by kernel_rfl
theorem z55 : tyZero Try.prog 55 = some [.map none, .pointer none, .int .i64 0] := by kernel_rfl
theorem z56 : tyZero Try.prog 56 = some [.map none, .pointer none, .int .i64 0] := by kernel_rfl
theorem z65 : tyZero Try.prog 65 = some [.slice none 0 0] := by kernel_rfl
theorem e65 : tyElem Try.prog 65 = some 69 := by kernel_rfl
theorem z68 : tyZero Try.prog 68 = some [.string ⟨#[]⟩, .string ⟨#[]⟩, .int .i64 0, .int .i64 0, .int .i64 0, .int .i64 0, .int .i64 0, .int .i64 0] := by kernel_rfl
theorem z69 : tyZero Try.prog 69 = some [.string ⟨#[]⟩, .string ⟨#[]⟩, .int .i64 0, .int .i64 0, .int .i64 0, .int .i64 0, .int .i64 0, .int .i64 0] := by kernel_rfl
theorem z71 : tyZero Try.prog 71 = some [.pointer none, .string ⟨#[]⟩] := by kernel_rfl
theorem z72 : tyZero Try.prog 72 = some [.pointer none, .string ⟨#[]⟩] := by kernel_rfl
theorem z79 : tyZero Try.prog 79 = some [.slice none 0 0] := by kernel_rfl
theorem e79 : tyElem Try.prog 79 = some 9 := by kernel_rfl
theorem z84 : tyZero Try.prog 84 = some [.slice none 0 0] := by kernel_rfl
theorem e84 : tyElem Try.prog 84 = some 28 := by kernel_rfl
theorem z85 : tyZero Try.prog 85 = some [.slice none 0 0] := by kernel_rfl
theorem z86 : tyZero Try.prog 86 = some [.slice none 0 0] := by kernel_rfl
theorem z89 : tyZero Try.prog 89 = some [.slice none 0 0] := by kernel_rfl
theorem e89 : tyElem Try.prog 89 = some 3 := by kernel_rfl
theorem z90 : tyZero Try.prog 90 = some [.slice none 0 0] := by kernel_rfl
theorem e90 : tyElem Try.prog 90 = some 32 := by kernel_rfl
theorem z91 : tyZero Try.prog 91 = some [.slice none 0 0, .slice none 0 0, .slice none 0 0, .slice none 0 0] := by kernel_rfl
theorem z92 : tyZero Try.prog 92 = some [.slice none 0 0, .slice none 0 0, .slice none 0 0, .slice none 0 0, .slice none 0 0, .slice none 0 0, .slice none 0 0, .slice none 0 0, .int .i64 0] := by kernel_rfl
theorem z93 : tyZero Try.prog 93 = some [.slice none 0 0, .slice none 0 0, .slice none 0 0, .slice none 0 0, .slice none 0 0, .slice none 0 0, .slice none 0 0, .slice none 0 0, .int .i64 0] := by kernel_rfl
theorem z94 : tyZero Try.prog 94 = some [.pointer none] := by kernel_rfl
theorem z98 : tyZero Try.prog 98 = some [.slice none 0 0] := by kernel_rfl
theorem e98 : tyElem Try.prog 98 = some 94 := by kernel_rfl
theorem z100 : tyZero Try.prog 100 = some [.pointer none] := by kernel_rfl
theorem z111 : tyZero Try.prog 111 = some [.pointer none] := by kernel_rfl
theorem z112 : tyZero Try.prog 112 = some [.int .u64 0] := by kernel_rfl
theorem z113 : tyZero Try.prog 113 = some [.int .u64 0] := by kernel_rfl
theorem z114 : tyZero Try.prog 114 = some [.slice none 0 0] := by kernel_rfl
theorem e114 : tyElem Try.prog 114 = some 49 := by kernel_rfl
theorem z130 : tyZero Try.prog 130 = some [.int .i64 0] := by kernel_rfl
theorem z138 : tyZero Try.prog 138 = some [.int .u32 0] := by kernel_rfl
theorem z146 : tyZero Try.prog 146 = some [.int .u64 0] := by kernel_rfl
theorem z150 : tyZero Try.prog 150 = some [.pointer none] := by kernel_rfl
theorem z154 : tyZero Try.prog 154 = some [.pointer none] := by kernel_rfl
theorem z159 : tyZero Try.prog 159 = some [.pointer none, .pointer none, .pointer none, .string ⟨#[]⟩] := by kernel_rfl
theorem z160 : tyZero Try.prog 160 = some [.pointer none, .pointer none, .pointer none, .string ⟨#[]⟩] := by kernel_rfl
theorem z161 : tyZero Try.prog 161 = some [] := by kernel_rfl
theorem z162 : tyZero Try.prog 162 = some [] := by kernel_rfl
theorem z163 : tyZero Try.prog 163 = some [] := by kernel_rfl
theorem z164 : tyZero Try.prog 164 = some [.int .u8 0] := by kernel_rfl
theorem z165 : tyZero Try.prog 165 = some [.int .u8 0] := by kernel_rfl
theorem z167 : tyZero Try.prog 167 = some [.pointer none] := by kernel_rfl
theorem z168 : tyZero Try.prog 168 = some [.int .i32 0] := by kernel_rfl
theorem z169 : tyZero Try.prog 169 = some [.int .i32 0] := by kernel_rfl
theorem z170 : tyZero Try.prog 170 = some [.int .u64 0, .int .u64 0, .int .u32 0, .int .u8 0, .int .u8 0, .int .u8 0, .int .u8 0, .nilFunc, .pointer none, .int .i32 0, .int .i32 0] := by kernel_rfl
theorem z171 : tyZero Try.prog 171 = some [.int .u64 0, .int .u64 0, .int .u32 0, .int .u8 0, .int .u8 0, .int .u8 0, .int .u8 0, .nilFunc, .pointer none, .int .i32 0, .int .i32 0] := by kernel_rfl
theorem z172 : tyZero Try.prog 172 = some [.pointer none] := by kernel_rfl
theorem r3 : tyRow Try.prog 3 = some (some (.int .i64 0), 1, 8) := by kernel_rfl
theorem r5 : tyRow Try.prog 5 = some (some (.int .u8 0), 1, 1) := by kernel_rfl
theorem r9 : tyRow Try.prog 9 = some (some (.string ⟨#[]⟩), 1, 16) := by kernel_rfl
theorem r28 : tyRow Try.prog 28 = some (some (.agg #[.int .i64 0, .int .i64 0, .int .i64 0, .int .i64 0]), 4, 32) := by kernel_rfl
theorem r32 : tyRow Try.prog 32 = some (some (.agg #[.int .i64 0, .string ⟨#[]⟩, .bool false, .int .i64 0, .int .i64 0, .int .i64 0]), 6, 56) := by kernel_rfl
theorem r40 : tyRow Try.prog 40 = some (some (.agg #[.int .i64 0, .int .i64 0, .string ⟨#[]⟩, .int .i64 0, .int .i64 0, .int .i64 0, .int .i64 0, .int .i64 0, .string ⟨#[]⟩, .bool false, .int .i64 0, .int .i64 0, .int .i64 0]), 13, 120) := by kernel_rfl
theorem r46 : tyRow Try.prog 46 = some (some (.agg #[.string ⟨#[]⟩, .int .i64 0, .int .i64 0, .int .i64 0, .int .i64 0]), 5, 48) := by kernel_rfl
theorem r49 : tyRow Try.prog 49 = some (some (.slice none 0 0), 1, 24) := by kernel_rfl
theorem r69 : tyRow Try.prog 69 = some (some (.agg #[.string ⟨#[]⟩, .string ⟨#[]⟩, .int .i64 0, .int .i64 0, .int .i64 0, .int .i64 0, .int .i64 0, .int .i64 0]), 8, 80) := by kernel_rfl
theorem r94 : tyRow Try.prog 94 = some (some (.pointer none), 1, 8) := by kernel_rfl
end Ty
end Go.Proofs.Ytbcokphjpllbiaa
end
