/-
  Closed facts on the types of this program.
-/
import Derived.Test.YtlmhakmoioogaaaGreatEconCuM2
import Derived.Test.YtlmhakmoioogaaaGreatRows
set_option maxHeartbeats 16000000
set_option maxRecDepth 100000
section
namespace Go.Proofs.YtlmhakmoioogaaaGreat
open Go.Sl
namespace Ty
theorem z2:s8 Tryz.prog 2=some [.I 0]:=by kernel_rfl
theorem z3:s8 Tryz.prog 3=some [.I 0]:=by kernel_rfl
theorem z4:s8 Tryz.prog 4=some [.bool false]:=by kernel_rfl
theorem z5:s8 Tryz.prog 5=some [.int .u8 0]:=by kernel_rfl
theorem z6:s8 Tryz.prog 6=some [.int .u8 0]:=by kernel_rfl
theorem z7:s8 Tryz.prog 7=some [.I 0,.I 0,.bool false,.int .u8 0]:=by kernel_rfl
theorem z8:s8 Tryz.prog 8=some [.I 0,.I 0,.bool false,.int .u8 0]:=by kernel_rfl
theorem z9:s8 Tryz.prog 9=some [.string ⟨#[]⟩]:=by kernel_rfl
theorem z19:s8 Tryz.prog 19=some [.pointer none]:=by kernel_rfl
theorem z23:s8 Tryz.prog 23=some [.pointer none]:=by kernel_rfl
theorem z25:s8 Tryz.prog 25=some [.string ⟨#[]⟩,.string ⟨#[]⟩]:=by kernel_rfl
theorem z26:s8 Tryz.prog 26=some [.string ⟨#[]⟩,.string ⟨#[]⟩]:=by kernel_rfl
theorem z27:s8 Tryz.prog 27=some [.I 0]:=by kernel_rfl
theorem z28:s8 Tryz.prog 28=some [.I 0,.I 0,.I 0,.I 0]:=by kernel_rfl
theorem z29:s8 Tryz.prog 29=some [.I 0,.I 0,.I 0,.I 0]:=by kernel_rfl
theorem z31:s8 Tryz.prog 31=some [.I 0,.I 0,.I 0,.I 0,.I 0,.I 0]:=by kernel_rfl
theorem z35:s8 Tryz.prog 35=some [.I 0,.I 0,.I 0,.string ⟨#[]⟩,.string ⟨#[]⟩,.string ⟨#[]⟩,.string ⟨#[]⟩,.I 0,.I 0,.I 0,.bool false,.I 0]:=by kernel_rfl
theorem z36:s8 Tryz.prog 36=some [.slice none 0 0]:=by kernel_rfl
theorem e36:x9 Tryz.prog 36=some 40:=by kernel_rfl
theorem z39:s8 Tryz.prog 39=some [.I 0,.I 0,.string ⟨#[]⟩,.string ⟨#[]⟩,.string ⟨#[]⟩,.string ⟨#[]⟩,.I 0,.I 0]:=by kernel_rfl
theorem z40:s8 Tryz.prog 40=some [.I 0,.I 0,.string ⟨#[]⟩,.string ⟨#[]⟩,.string ⟨#[]⟩,.string ⟨#[]⟩,.I 0,.I 0]:=by kernel_rfl
theorem z45:s8 Tryz.prog 45=some [.pointer none]:=by kernel_rfl
theorem z46:s8 Tryz.prog 46=some [.slice none 0 0]:=by kernel_rfl
theorem e46:x9 Tryz.prog 46=some 137:=by kernel_rfl
theorem e47:x9 Tryz.prog 47=some 143:=by kernel_rfl
theorem e48:x9 Tryz.prog 48=some 140:=by kernel_rfl
theorem z50:s8 Tryz.prog 50=some [.slice none 0 0,.slice none 0 0,.slice none 0 0,.slice none 0 0]:=by kernel_rfl
theorem z53:s8 Tryz.prog 53=some [.string ⟨#[]⟩,.string ⟨#[]⟩]:=by kernel_rfl
theorem e58:x9 Tryz.prog 58=some 9:=by kernel_rfl
theorem e62:x9 Tryz.prog 62=some 3:=by kernel_rfl
theorem z63:s8 Tryz.prog 63=some [.slice none 0 0]:=by kernel_rfl
theorem e63:x9 Tryz.prog 63=some 5:=by kernel_rfl
theorem z87:s8 Tryz.prog 87=some [.nilFunc,.nilFunc,.nilFunc,.nilFunc,.nilFunc,.nilFunc,.nilFunc,.nilFunc]:=by kernel_rfl
theorem z90:s8 Tryz.prog 90=some [.I 0,.I 0,.I 0,.I 0,.I 0,.I 0,.I 0]:=by kernel_rfl
theorem e91:x9 Tryz.prog 91=some 94:=by kernel_rfl
theorem z94:s8 Tryz.prog 94=some [.I 0,.I 0]:=by kernel_rfl
theorem e109:x9 Tryz.prog 109=some 29:=by kernel_rfl
theorem z119:s8 Tryz.prog 119=some [.slice none 0 0]:=by kernel_rfl
theorem z166:s8 Tryz.prog 166=some [.I 0,.string ⟨#[]⟩,.bool false,.I 0,.I 0,.I 0]:=by kernel_rfl
theorem e184:x9 Tryz.prog 184=some 189:=by kernel_rfl
theorem e185:x9 Tryz.prog 185=some 166:=by kernel_rfl
theorem z189:s8 Tryz.prog 189=some [.string ⟨#[]⟩,.I 0,.I 0,.I 0,.I 0]:=by kernel_rfl
theorem e196:x9 Tryz.prog 196=some 63:=by kernel_rfl
theorem z207:s8 Tryz.prog 207=some [.I 0,.I 0,.I 0,.string ⟨#[]⟩,.string ⟨#[]⟩,.string ⟨#[]⟩,.string ⟨#[]⟩,.I 0,.I 0,.I 0,.bool false,.I 0]:=by kernel_rfl
theorem z208:s8 Tryz.prog 208=some [.nilFunc,.nilFunc,.nilFunc,.nilFunc,.nilFunc,.nilFunc,.nilFunc,.nilFunc]:=by kernel_rfl
theorem gU4:s8 Tryz.prog 218=some [.slice none 0 0]:=by kernel_rfl
theorem e227:x9 Tryz.prog 227=some 231:=by kernel_rfl
theorem z231:s8 Tryz.prog 231=some [.string ⟨#[]⟩,.string ⟨#[]⟩,.I 0,.I 0,.I 0,.I 0,.I 0,.I 0]:=by kernel_rfl
theorem e247:x9 Tryz.prog 247=some 251:=by kernel_rfl
theorem z251:s8 Tryz.prog 251=some [.string ⟨#[]⟩,.string ⟨#[]⟩,.I 0,.I 0,.I 0,.I 0,.I 0,.I 0]:=by kernel_rfl
theorem e269:x9 Tryz.prog 269=some 166:=by kernel_rfl
theorem e277:x9 Tryz.prog 277=some 273:=by kernel_rfl
theorem r1:D9 Tryz.prog 1=some (some (.nilFunc),1,8):=by kernel_rfl
theorem r3:D9 Tryz.prog 3=some (some (.I 0),1,8):=by kernel_rfl
theorem r5:D9 Tryz.prog 5=some (some (.int .u8 0),1,1):=by kernel_rfl
theorem r9:D9 Tryz.prog 9=some (some (.string ⟨#[]⟩),1,16):=by kernel_rfl
theorem r29:D9 Tryz.prog 29=some (some (.agg #[.I 0,.I 0,.I 0,.I 0]),4,32):=by kernel_rfl
theorem r40:D9 Tryz.prog 40=some (some (.agg #[.I 0,.I 0,.string ⟨#[]⟩,.string ⟨#[]⟩,.string ⟨#[]⟩,.string ⟨#[]⟩,.I 0,.I 0]),8,96):=by kernel_rfl
theorem r63:D9 Tryz.prog 63=some (some (.slice none 0 0),1,24):=by kernel_rfl
theorem r94:D9 Tryz.prog 94=some (some (.agg #[.I 0,.I 0]),2,16):=by kernel_rfl
theorem r137:D9 Tryz.prog 137=some (some (.agg #[.string ⟨#[]⟩,.pointer none]),2,24):=by kernel_rfl
theorem r140:D9 Tryz.prog 140=some (some (.agg #[.I 0,.I 0]),2,16):=by kernel_rfl
theorem r143:D9 Tryz.prog 143=some (some (.agg #[.I 0,.I 0,.I 0,.I 0,.I 0,.I 0,.I 0,.I 0]),8,64):=by kernel_rfl
theorem r166:D9 Tryz.prog 166=some (some (.agg #[.I 0,.string ⟨#[]⟩,.bool false,.I 0,.I 0,.I 0]),6,56):=by kernel_rfl
theorem r189:D9 Tryz.prog 189=some (some (.agg #[.string ⟨#[]⟩,.I 0,.I 0,.I 0,.I 0]),5,48):=by kernel_rfl
theorem r231:D9 Tryz.prog 231=some (some (.agg #[.string ⟨#[]⟩,.string ⟨#[]⟩,.I 0,.I 0,.I 0,.I 0,.I 0,.I 0]),8,80):=by kernel_rfl
theorem r251:D9 Tryz.prog 251=some (some (.agg #[.string ⟨#[]⟩,.string ⟨#[]⟩,.I 0,.I 0,.I 0,.I 0,.I 0,.I 0]),8,80):=by kernel_rfl
theorem r273:D9 Tryz.prog 273=some (some (.pointer none),1,8):=by kernel_rfl
end Ty
end Go.Proofs.YtlmhakmoioogaaaGreat
end
