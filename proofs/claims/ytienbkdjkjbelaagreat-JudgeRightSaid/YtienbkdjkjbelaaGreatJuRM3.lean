/-
  Closed facts on the types of this program.
-/
import Derived.Test.YtienbkdjkjbelaaGreatJuRM2
import Derived.Test.YtienbkdjkjbelaaGreatRows
set_option maxHeartbeats 16000000
set_option maxRecDepth 100000
section
namespace Go.Proofs.YtienbkdjkjbelaaGreat
open Go.Sl
namespace Ty
theorem z2:m5 Tryz.prog 2=some [.I 0]:=by kernel_rfl
theorem z3:m5 Tryz.prog 3=some [.I 0]:=by kernel_rfl
theorem z4:m5 Tryz.prog 4=some [.bool false]:=by kernel_rfl
theorem z5:m5 Tryz.prog 5=some [.int .u8 0]:=by kernel_rfl
theorem z6:m5 Tryz.prog 6=some [.int .u8 0]:=by kernel_rfl
theorem z7:m5 Tryz.prog 7=some [.I 0,.I 0,.bool false,.int .u8 0]:=by kernel_rfl
theorem z8:m5 Tryz.prog 8=some [.I 0,.I 0,.bool false,.int .u8 0]:=by kernel_rfl
theorem z9:m5 Tryz.prog 9=some [.string ⟨#[]⟩]:=by kernel_rfl
theorem z19:m5 Tryz.prog 19=some [.pointer none]:=by kernel_rfl
theorem z22:m5 Tryz.prog 22=some [.slice none 0 0]:=by kernel_rfl
theorem e22:t7 Tryz.prog 22=some 31:=by kernel_rfl
theorem z23:m5 Tryz.prog 23=some [.slice none 0 0]:=by kernel_rfl
theorem e23:t7 Tryz.prog 23=some 27:=by kernel_rfl
theorem z25:m5 Tryz.prog 25=some [.slice none 0 0]:=by kernel_rfl
theorem z26:m5 Tryz.prog 26=some [.slice none 0 0]:=by kernel_rfl
theorem z27:m5 Tryz.prog 27=some [.slice none 0 0]:=by kernel_rfl
theorem e27:t7 Tryz.prog 27=some 38:=by kernel_rfl
theorem z28:m5 Tryz.prog 28=some [.string ⟨#[]⟩,.string ⟨#[]⟩]:=by kernel_rfl
theorem z29:m5 Tryz.prog 29=some [.string ⟨#[]⟩,.string ⟨#[]⟩]:=by kernel_rfl
theorem z31:m5 Tryz.prog 31=some [.I 0,.I 0,.I 0,.string ⟨#[]⟩,.string ⟨#[]⟩,.string ⟨#[]⟩,.string ⟨#[]⟩,.I 0,.I 0,.I 0,.bool false,.I 0]:=by kernel_rfl
theorem z32:m5 Tryz.prog 32=some [.I 0]:=by kernel_rfl
theorem z33:m5 Tryz.prog 33=some [.I 0,.I 0,.I 0,.I 0]:=by kernel_rfl
theorem z34:m5 Tryz.prog 34=some [.I 0,.I 0,.I 0,.I 0]:=by kernel_rfl
theorem z35:m5 Tryz.prog 35=some [.I 0,.I 0,.I 0,.I 0,.I 0,.I 0]:=by kernel_rfl
theorem z36:m5 Tryz.prog 36=some [.I 0,.I 0,.I 0,.I 0,.I 0,.I 0]:=by kernel_rfl
theorem z38:m5 Tryz.prog 38=some [.I 0,.I 0,.I 0,.string ⟨#[]⟩,.string ⟨#[]⟩,.string ⟨#[]⟩,.string ⟨#[]⟩,.I 0,.I 0,.I 0,.bool false,.I 0,.I 0,.I 0,.I 0,.I 0,.I 0,.I 0]:=by kernel_rfl
theorem z39:m5 Tryz.prog 39=some [.I 0,.I 0,.I 0,.string ⟨#[]⟩,.string ⟨#[]⟩,.string ⟨#[]⟩,.string ⟨#[]⟩,.I 0,.I 0,.I 0,.bool false,.I 0,.I 0,.I 0,.I 0,.I 0,.I 0,.I 0]:=by kernel_rfl
theorem z40:m5 Tryz.prog 40=some [.slice none 0 0]:=by kernel_rfl
theorem e40:t7 Tryz.prog 40=some 76:=by kernel_rfl
theorem z41:m5 Tryz.prog 41=some [.slice none 0 0]:=by kernel_rfl
theorem e41:t7 Tryz.prog 41=some 77:=by kernel_rfl
theorem e48:t7 Tryz.prog 48=some 36:=by kernel_rfl
theorem z55:m5 Tryz.prog 55=some [.slice none 0 0]:=by kernel_rfl
theorem z57:m5 Tryz.prog 57=some [.I 0,.I 0,.slice none 0 0]:=by kernel_rfl
theorem z66:m5 Tryz.prog 66=some [.pointer none]:=by kernel_rfl
theorem z76:m5 Tryz.prog 76=some [.I 0,.I 0,.I 0,.I 0,.I 0,.string ⟨#[]⟩,.string ⟨#[]⟩,.string ⟨#[]⟩,.string ⟨#[]⟩,.I 0,.I 0,.I 0,.bool false,.I 0]:=by kernel_rfl
theorem z77:m5 Tryz.prog 77=some [.I 0,.I 0,.I 0,.I 0,.I 0,.string ⟨#[]⟩,.string ⟨#[]⟩,.string ⟨#[]⟩,.string ⟨#[]⟩,.I 0,.I 0,.I 0,.bool false,.I 0]:=by kernel_rfl
theorem e81:t7 Tryz.prog 81=some 137:=by kernel_rfl
theorem e82:t7 Tryz.prog 82=some 141:=by kernel_rfl
theorem e83:t7 Tryz.prog 83=some 97:=by kernel_rfl
theorem e84:t7 Tryz.prog 84=some 144:=by kernel_rfl
theorem e93:t7 Tryz.prog 93=some 34:=by kernel_rfl
theorem z97:m5 Tryz.prog 97=some [.I 0,.I 0,.string ⟨#[]⟩,.string ⟨#[]⟩,.string ⟨#[]⟩,.string ⟨#[]⟩,.I 0,.I 0]:=by kernel_rfl
theorem z121:m5 Tryz.prog 121=some [.I 0,.I 0,.I 0,.I 0,.I 0,.I 0,.I 0]:=by kernel_rfl
theorem z127:m5 Tryz.prog 127=some [.I 0,.I 0]:=by kernel_rfl
theorem z152:m5 Tryz.prog 152=some [.nilFunc,.nilFunc,.nilFunc,.nilFunc,.nilFunc,.nilFunc,.nilFunc,.nilFunc]:=by kernel_rfl
theorem e166:t7 Tryz.prog 166=some 171:=by kernel_rfl
theorem e167:t7 Tryz.prog 167=some 173:=by kernel_rfl
theorem z173:m5 Tryz.prog 173=some [.I 0,.string ⟨#[]⟩,.bool false,.I 0,.I 0,.I 0]:=by kernel_rfl
theorem e225:t7 Tryz.prog 225=some 230:=by kernel_rfl
theorem z230:m5 Tryz.prog 230=some [.string ⟨#[]⟩,.string ⟨#[]⟩,.I 0,.I 0,.I 0,.I 0,.I 0,.I 0]:=by kernel_rfl
theorem z234:m5 Tryz.prog 234=some [.I 0,.I 0,.I 0,.string ⟨#[]⟩,.string ⟨#[]⟩,.string ⟨#[]⟩,.string ⟨#[]⟩,.I 0,.I 0,.I 0,.bool false,.I 0]:=by kernel_rfl
theorem z235:m5 Tryz.prog 235=some [.nilFunc,.nilFunc,.nilFunc,.nilFunc,.nilFunc,.nilFunc,.nilFunc,.nilFunc]:=by kernel_rfl
theorem e240:t7 Tryz.prog 240=some 243:=by kernel_rfl
theorem z243:m5 Tryz.prog 243=some [.string ⟨#[]⟩,.string ⟨#[]⟩,.I 0,.I 0,.I 0,.I 0,.I 0,.I 0]:=by kernel_rfl
theorem e251:t7 Tryz.prog 251=some 253:=by kernel_rfl
theorem e254:t7 Tryz.prog 254=some 173:=by kernel_rfl
theorem r3:B8 Tryz.prog 3=some (some (.I 0),1,8):=by kernel_rfl
theorem r5:B8 Tryz.prog 5=some (some (.int .u8 0),1,1):=by kernel_rfl
theorem r27:B8 Tryz.prog 27=some (some (.slice none 0 0),1,24):=by kernel_rfl
theorem r31:B8 Tryz.prog 31=some (some (.agg #[.I 0,.I 0,.I 0,.string ⟨#[]⟩,.string ⟨#[]⟩,.string ⟨#[]⟩,.string ⟨#[]⟩,.I 0,.I 0,.I 0,.bool false,.I 0]),12,128):=by kernel_rfl
theorem r34:B8 Tryz.prog 34=some (some (.agg #[.I 0,.I 0,.I 0,.I 0]),4,32):=by kernel_rfl
theorem r36:B8 Tryz.prog 36=some (some (.agg #[.I 0,.I 0,.I 0,.I 0,.I 0,.I 0]),6,48):=by kernel_rfl
theorem r38:B8 Tryz.prog 38=some (some (.agg #[.I 0,.I 0,.I 0,.string ⟨#[]⟩,.string ⟨#[]⟩,.string ⟨#[]⟩,.string ⟨#[]⟩,.I 0,.I 0,.I 0,.bool false,.I 0,.I 0,.I 0,.I 0,.I 0,.I 0,.I 0]),18,176):=by kernel_rfl
theorem r76:B8 Tryz.prog 76=some (some (.agg #[.I 0,.I 0,.I 0,.I 0,.I 0,.string ⟨#[]⟩,.string ⟨#[]⟩,.string ⟨#[]⟩,.string ⟨#[]⟩,.I 0,.I 0,.I 0,.bool false,.I 0]),14,144):=by kernel_rfl
theorem r77:B8 Tryz.prog 77=some (some (.agg #[.I 0,.I 0,.I 0,.I 0,.I 0,.string ⟨#[]⟩,.string ⟨#[]⟩,.string ⟨#[]⟩,.string ⟨#[]⟩,.I 0,.I 0,.I 0,.bool false,.I 0]),14,144):=by kernel_rfl
theorem r97:B8 Tryz.prog 97=some (some (.agg #[.I 0,.I 0,.string ⟨#[]⟩,.string ⟨#[]⟩,.string ⟨#[]⟩,.string ⟨#[]⟩,.I 0,.I 0]),8,96):=by kernel_rfl
theorem r137:B8 Tryz.prog 137=some (some (.agg #[.string ⟨#[]⟩,.pointer none]),2,24):=by kernel_rfl
theorem r141:B8 Tryz.prog 141=some (some (.agg #[.I 0,.I 0,.I 0,.I 0,.I 0,.I 0,.I 0,.I 0]),8,64):=by kernel_rfl
theorem r144:B8 Tryz.prog 144=some (some (.agg #[.I 0,.I 0]),2,16):=by kernel_rfl
theorem r171:B8 Tryz.prog 171=some (some (.agg #[.string ⟨#[]⟩,.I 0,.I 0,.I 0,.I 0]),5,48):=by kernel_rfl
theorem r173:B8 Tryz.prog 173=some (some (.agg #[.I 0,.string ⟨#[]⟩,.bool false,.I 0,.I 0,.I 0]),6,56):=by kernel_rfl
theorem r230:B8 Tryz.prog 230=some (some (.agg #[.string ⟨#[]⟩,.string ⟨#[]⟩,.I 0,.I 0,.I 0,.I 0,.I 0,.I 0]),8,80):=by kernel_rfl
theorem r243:B8 Tryz.prog 243=some (some (.agg #[.string ⟨#[]⟩,.string ⟨#[]⟩,.I 0,.I 0,.I 0,.I 0,.I 0,.I 0]),8,80):=by kernel_rfl
theorem r253:B8 Tryz.prog 253=some (some (.pointer none),1,8):=by kernel_rfl
end Ty
end Go.Proofs.YtienbkdjkjbelaaGreat
end
