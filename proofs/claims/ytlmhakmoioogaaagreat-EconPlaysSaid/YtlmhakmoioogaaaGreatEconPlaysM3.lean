/-
  Closed facts on the types of this program: what is zero, how many cells, what a slice holds. No condition.
-/
import Derived.Test.YtlmhakmoioogaaaGreatEconPlaysM2
import Derived.Test.YtlmhakmoioogaaaGreatRows
set_option maxHeartbeats 16000000
set_option maxRecDepth 100000
section
namespace Go.Proofs.YtlmhakmoioogaaaGreat
open Go.Sl
namespace Ty
theorem z2:tyZero Tryz.prog 2=some [.int .i64 0]:=by kernel_rfl
theorem z3:tyZero Tryz.prog 3=some [.int .i64 0]:=by kernel_rfl
theorem z4:tyZero Tryz.prog 4=some [.bool false]:=by kernel_rfl
theorem z5:tyZero Tryz.prog 5=some [.int .u8 0]:=by kernel_rfl
theorem z6:tyZero Tryz.prog 6=some [.int .u8 0]:=by kernel_rfl
theorem z7:tyZero Tryz.prog 7=some [.int .i64 0,.int .i64 0,.bool false,.int .u8 0]:=by kernel_rfl
theorem z8:tyZero Tryz.prog 8=some [.int .i64 0,.int .i64 0,.bool false,.int .u8 0]:=by kernel_rfl
theorem z9:tyZero Tryz.prog 9=some [.string ⟨#[]⟩]:=by kernel_rfl
theorem z19:tyZero Tryz.prog 19=some [.pointer none]:=by kernel_rfl
theorem z23:tyZero Tryz.prog 23=some [.pointer none]:=by kernel_rfl
theorem z25:tyZero Tryz.prog 25=some [.string ⟨#[]⟩,.string ⟨#[]⟩]:=by kernel_rfl
theorem z26:tyZero Tryz.prog 26=some [.string ⟨#[]⟩,.string ⟨#[]⟩]:=by kernel_rfl
theorem z27:tyZero Tryz.prog 27=some [.int .i64 0]:=by kernel_rfl
theorem z28:tyZero Tryz.prog 28=some [.int .i64 0,.int .i64 0,.int .i64 0,.int .i64 0]:=by kernel_rfl
theorem z29:tyZero Tryz.prog 29=some [.int .i64 0,.int .i64 0,.int .i64 0,.int .i64 0]:=by kernel_rfl
theorem z31:tyZero Tryz.prog 31=some [.int .i64 0,.int .i64 0,.int .i64 0,.int .i64 0,.int .i64 0,.int .i64 0]:=by kernel_rfl
theorem z35:tyZero Tryz.prog 35=some [.int .i64 0,.int .i64 0,.int .i64 0,.string ⟨#[]⟩,.string ⟨#[]⟩,.string ⟨#[]⟩,.string ⟨#[]⟩,.int .i64 0,.int .i64 0,.int .i64 0,.bool false,.int .i64 0]:=by kernel_rfl
theorem z36:tyZero Tryz.prog 36=some [.slice none 0 0]:=by kernel_rfl
theorem e36:tyElem Tryz.prog 36=some 40:=by kernel_rfl
theorem z39:tyZero Tryz.prog 39=some [.int .i64 0,.int .i64 0,.string ⟨#[]⟩,.string ⟨#[]⟩,.string ⟨#[]⟩,.string ⟨#[]⟩,.int .i64 0,.int .i64 0]:=by kernel_rfl
theorem z40:tyZero Tryz.prog 40=some [.int .i64 0,.int .i64 0,.string ⟨#[]⟩,.string ⟨#[]⟩,.string ⟨#[]⟩,.string ⟨#[]⟩,.int .i64 0,.int .i64 0]:=by kernel_rfl
theorem z45:tyZero Tryz.prog 45=some [.pointer none]:=by kernel_rfl
theorem z46:tyZero Tryz.prog 46=some [.slice none 0 0]:=by kernel_rfl
theorem e46:tyElem Tryz.prog 46=some 137:=by kernel_rfl
theorem e47:tyElem Tryz.prog 47=some 143:=by kernel_rfl
theorem e48:tyElem Tryz.prog 48=some 140:=by kernel_rfl
theorem z50:tyZero Tryz.prog 50=some [.slice none 0 0,.slice none 0 0,.slice none 0 0,.slice none 0 0]:=by kernel_rfl
theorem z53:tyZero Tryz.prog 53=some [.string ⟨#[]⟩,.string ⟨#[]⟩]:=by kernel_rfl
theorem e58:tyElem Tryz.prog 58=some 9:=by kernel_rfl
theorem e62:tyElem Tryz.prog 62=some 3:=by kernel_rfl
theorem z63:tyZero Tryz.prog 63=some [.slice none 0 0]:=by kernel_rfl
theorem e63:tyElem Tryz.prog 63=some 5:=by kernel_rfl
theorem z87:tyZero Tryz.prog 87=some [.nilFunc,.nilFunc,.nilFunc,.nilFunc,.nilFunc,.nilFunc,.nilFunc,.nilFunc]:=by kernel_rfl
theorem z90:tyZero Tryz.prog 90=some [.int .i64 0,.int .i64 0,.int .i64 0,.int .i64 0,.int .i64 0,.int .i64 0,.int .i64 0]:=by kernel_rfl
theorem e91:tyElem Tryz.prog 91=some 94:=by kernel_rfl
theorem z94:tyZero Tryz.prog 94=some [.int .i64 0,.int .i64 0]:=by kernel_rfl
theorem e109:tyElem Tryz.prog 109=some 29:=by kernel_rfl
theorem z119:tyZero Tryz.prog 119=some [.slice none 0 0]:=by kernel_rfl
theorem z166:tyZero Tryz.prog 166=some [.int .i64 0,.string ⟨#[]⟩,.bool false,.int .i64 0,.int .i64 0,.int .i64 0]:=by kernel_rfl
theorem e184:tyElem Tryz.prog 184=some 189:=by kernel_rfl
theorem e185:tyElem Tryz.prog 185=some 166:=by kernel_rfl
theorem z189:tyZero Tryz.prog 189=some [.string ⟨#[]⟩,.int .i64 0,.int .i64 0,.int .i64 0,.int .i64 0]:=by kernel_rfl
theorem e196:tyElem Tryz.prog 196=some 63:=by kernel_rfl
theorem z207:tyZero Tryz.prog 207=some [.int .i64 0,.int .i64 0,.int .i64 0,.string ⟨#[]⟩,.string ⟨#[]⟩,.string ⟨#[]⟩,.string ⟨#[]⟩,.int .i64 0,.int .i64 0,.int .i64 0,.bool false,.int .i64 0]:=by kernel_rfl
theorem z208:tyZero Tryz.prog 208=some [.nilFunc,.nilFunc,.nilFunc,.nilFunc,.nilFunc,.nilFunc,.nilFunc,.nilFunc]:=by kernel_rfl
theorem z218:tyZero Tryz.prog 218=some [.slice none 0 0]:=by kernel_rfl
theorem e227:tyElem Tryz.prog 227=some 231:=by kernel_rfl
theorem z231:tyZero Tryz.prog 231=some [.string ⟨#[]⟩,.string ⟨#[]⟩,.int .i64 0,.int .i64 0,.int .i64 0,.int .i64 0,.int .i64 0,.int .i64 0]:=by kernel_rfl
theorem e247:tyElem Tryz.prog 247=some 251:=by kernel_rfl
theorem z251:tyZero Tryz.prog 251=some [.string ⟨#[]⟩,.string ⟨#[]⟩,.int .i64 0,.int .i64 0,.int .i64 0,.int .i64 0,.int .i64 0,.int .i64 0]:=by kernel_rfl
theorem e269:tyElem Tryz.prog 269=some 166:=by kernel_rfl
theorem e277:tyElem Tryz.prog 277=some 273:=by kernel_rfl
theorem r1:tyRow Tryz.prog 1=some (some (.nilFunc),1,8):=by kernel_rfl
theorem r3:tyRow Tryz.prog 3=some (some (.int .i64 0),1,8):=by kernel_rfl
theorem r5:tyRow Tryz.prog 5=some (some (.int .u8 0),1,1):=by kernel_rfl
theorem r9:tyRow Tryz.prog 9=some (some (.string ⟨#[]⟩),1,16):=by kernel_rfl
theorem r29:tyRow Tryz.prog 29=some (some (.agg #[.int .i64 0,.int .i64 0,.int .i64 0,.int .i64 0]),4,32):=by kernel_rfl
theorem r40:tyRow Tryz.prog 40=some (some (.agg #[.int .i64 0,.int .i64 0,.string ⟨#[]⟩,.string ⟨#[]⟩,.string ⟨#[]⟩,.string ⟨#[]⟩,.int .i64 0,.int .i64 0]),8,96):=by kernel_rfl
theorem r63:tyRow Tryz.prog 63=some (some (.slice none 0 0),1,24):=by kernel_rfl
theorem r94:tyRow Tryz.prog 94=some (some (.agg #[.int .i64 0,.int .i64 0]),2,16):=by kernel_rfl
theorem r137:tyRow Tryz.prog 137=some (some (.agg #[.string ⟨#[]⟩,.pointer none]),2,24):=by kernel_rfl
theorem r140:tyRow Tryz.prog 140=some (some (.agg #[.int .i64 0,.int .i64 0]),2,16):=by kernel_rfl
theorem r143:tyRow Tryz.prog 143=some (some (.agg #[.int .i64 0,.int .i64 0,.int .i64 0,.int .i64 0,.int .i64 0,.int .i64 0,.int .i64 0,.int .i64 0]),8,64):=by kernel_rfl
theorem r166:tyRow Tryz.prog 166=some (some (.agg #[.int .i64 0,.string ⟨#[]⟩,.bool false,.int .i64 0,.int .i64 0,.int .i64 0]),6,56):=by kernel_rfl
theorem r189:tyRow Tryz.prog 189=some (some (.agg #[.string ⟨#[]⟩,.int .i64 0,.int .i64 0,.int .i64 0,.int .i64 0]),5,48):=by kernel_rfl
theorem r231:tyRow Tryz.prog 231=some (some (.agg #[.string ⟨#[]⟩,.string ⟨#[]⟩,.int .i64 0,.int .i64 0,.int .i64 0,.int .i64 0,.int .i64 0,.int .i64 0]),8,80):=by kernel_rfl
theorem r251:tyRow Tryz.prog 251=some (some (.agg #[.string ⟨#[]⟩,.string ⟨#[]⟩,.int .i64 0,.int .i64 0,.int .i64 0,.int .i64 0,.int .i64 0,.int .i64 0]),8,80):=by kernel_rfl
theorem r273:tyRow Tryz.prog 273=some (some (.pointer none),1,8):=by kernel_rfl
end Ty
end Go.Proofs.YtlmhakmoioogaaaGreat
end
