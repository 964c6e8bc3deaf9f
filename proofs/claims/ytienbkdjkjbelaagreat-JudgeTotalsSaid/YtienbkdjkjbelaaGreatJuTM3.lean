/-
  Closed facts on the types of this program.
-/
import Derived.Test.YtienbkdjkjbelaaGreatJuTM2
import Derived.Test.YtienbkdjkjbelaaGreatRows
set_option maxHeartbeats 16000000
set_option maxRecDepth 100000
section
namespace Go.Proofs.YtienbkdjkjbelaaGreat
open Go.Sl
namespace Ty
theorem z2:m6 Tryz.prog 2=some [.I 0]:=by kernel_rfl
theorem z3:m6 Tryz.prog 3=some [.I 0]:=by kernel_rfl
theorem z4:m6 Tryz.prog 4=some [.bool false]:=by kernel_rfl
theorem z5:m6 Tryz.prog 5=some [.int .u8 0]:=by kernel_rfl
theorem z6:m6 Tryz.prog 6=some [.int .u8 0]:=by kernel_rfl
theorem z7:m6 Tryz.prog 7=some [.I 0,.I 0,.bool false,.int .u8 0]:=by kernel_rfl
theorem z8:m6 Tryz.prog 8=some [.I 0,.I 0,.bool false,.int .u8 0]:=by kernel_rfl
theorem z9:m6 Tryz.prog 9=some [.string ⟨#[]⟩]:=by kernel_rfl
theorem z19:m6 Tryz.prog 19=some [.pointer none]:=by kernel_rfl
theorem z22:m6 Tryz.prog 22=some [.slice none 0 0]:=by kernel_rfl
theorem e22:s5 Tryz.prog 22=some 31:=by kernel_rfl
theorem z23:m6 Tryz.prog 23=some [.slice none 0 0]:=by kernel_rfl
theorem e23:s5 Tryz.prog 23=some 27:=by kernel_rfl
theorem z25:m6 Tryz.prog 25=some [.slice none 0 0]:=by kernel_rfl
theorem z26:m6 Tryz.prog 26=some [.slice none 0 0]:=by kernel_rfl
theorem z27:m6 Tryz.prog 27=some [.slice none 0 0]:=by kernel_rfl
theorem e27:s5 Tryz.prog 27=some 38:=by kernel_rfl
theorem z28:m6 Tryz.prog 28=some [.string ⟨#[]⟩,.string ⟨#[]⟩]:=by kernel_rfl
theorem z29:m6 Tryz.prog 29=some [.string ⟨#[]⟩,.string ⟨#[]⟩]:=by kernel_rfl
theorem z31:m6 Tryz.prog 31=some [.I 0,.I 0,.I 0,.string ⟨#[]⟩,.string ⟨#[]⟩,.string ⟨#[]⟩,.string ⟨#[]⟩,.I 0,.I 0,.I 0,.bool false,.I 0]:=by kernel_rfl
theorem z32:m6 Tryz.prog 32=some [.I 0]:=by kernel_rfl
theorem z33:m6 Tryz.prog 33=some [.I 0,.I 0,.I 0,.I 0]:=by kernel_rfl
theorem z34:m6 Tryz.prog 34=some [.I 0,.I 0,.I 0,.I 0]:=by kernel_rfl
theorem z35:m6 Tryz.prog 35=some [.I 0,.I 0,.I 0,.I 0,.I 0,.I 0]:=by kernel_rfl
theorem z36:m6 Tryz.prog 36=some [.I 0,.I 0,.I 0,.I 0,.I 0,.I 0]:=by kernel_rfl
theorem z38:m6 Tryz.prog 38=some [.I 0,.I 0,.I 0,.string ⟨#[]⟩,.string ⟨#[]⟩,.string ⟨#[]⟩,.string ⟨#[]⟩,.I 0,.I 0,.I 0,.bool false,.I 0,.I 0,.I 0,.I 0,.I 0,.I 0,.I 0]:=by kernel_rfl
theorem z39:m6 Tryz.prog 39=some [.I 0,.I 0,.I 0,.string ⟨#[]⟩,.string ⟨#[]⟩,.string ⟨#[]⟩,.string ⟨#[]⟩,.I 0,.I 0,.I 0,.bool false,.I 0,.I 0,.I 0,.I 0,.I 0,.I 0,.I 0]:=by kernel_rfl
theorem z40:m6 Tryz.prog 40=some [.slice none 0 0]:=by kernel_rfl
theorem e40:s5 Tryz.prog 40=some 76:=by kernel_rfl
theorem z41:m6 Tryz.prog 41=some [.slice none 0 0]:=by kernel_rfl
theorem e41:s5 Tryz.prog 41=some 77:=by kernel_rfl
theorem e48:s5 Tryz.prog 48=some 36:=by kernel_rfl
theorem z55:m6 Tryz.prog 55=some [.slice none 0 0]:=by kernel_rfl
theorem e55:s5 Tryz.prog 55=some 22:=by kernel_rfl
theorem z57:m6 Tryz.prog 57=some [.I 0,.I 0,.slice none 0 0]:=by kernel_rfl
theorem e59:s5 Tryz.prog 59=some 66:=by kernel_rfl
theorem e60:s5 Tryz.prog 60=some 49:=by kernel_rfl
theorem z66:m6 Tryz.prog 66=some [.pointer none]:=by kernel_rfl
theorem z76:m6 Tryz.prog 76=some [.I 0,.I 0,.I 0,.I 0,.I 0,.string ⟨#[]⟩,.string ⟨#[]⟩,.string ⟨#[]⟩,.string ⟨#[]⟩,.I 0,.I 0,.I 0,.bool false,.I 0]:=by kernel_rfl
theorem z77:m6 Tryz.prog 77=some [.I 0,.I 0,.I 0,.I 0,.I 0,.string ⟨#[]⟩,.string ⟨#[]⟩,.string ⟨#[]⟩,.string ⟨#[]⟩,.I 0,.I 0,.I 0,.bool false,.I 0]:=by kernel_rfl
theorem e81:s5 Tryz.prog 81=some 137:=by kernel_rfl
theorem e82:s5 Tryz.prog 82=some 141:=by kernel_rfl
theorem e83:s5 Tryz.prog 83=some 97:=by kernel_rfl
theorem e84:s5 Tryz.prog 84=some 144:=by kernel_rfl
theorem z92:m6 Tryz.prog 92=some [.I 0,.string ⟨#[]⟩,.string ⟨#[]⟩,.I 0,.I 0,.I 0,.I 0,.string ⟨#[]⟩,.I 0]:=by kernel_rfl
theorem e93:s5 Tryz.prog 93=some 34:=by kernel_rfl
theorem z97:m6 Tryz.prog 97=some [.I 0,.I 0,.string ⟨#[]⟩,.string ⟨#[]⟩,.string ⟨#[]⟩,.string ⟨#[]⟩,.I 0,.I 0]:=by kernel_rfl
theorem e101:s5 Tryz.prog 101=some 9:=by kernel_rfl
theorem z121:m6 Tryz.prog 121=some [.I 0,.I 0,.I 0,.I 0,.I 0,.I 0,.I 0]:=by kernel_rfl
theorem e124:s5 Tryz.prog 124=some 127:=by kernel_rfl
theorem z127:m6 Tryz.prog 127=some [.I 0,.I 0]:=by kernel_rfl
theorem z152:m6 Tryz.prog 152=some [.nilFunc,.nilFunc,.nilFunc,.nilFunc,.nilFunc,.nilFunc,.nilFunc,.nilFunc]:=by kernel_rfl
theorem e166:s5 Tryz.prog 166=some 171:=by kernel_rfl
theorem e167:s5 Tryz.prog 167=some 173:=by kernel_rfl
theorem z171:m6 Tryz.prog 171=some [.string ⟨#[]⟩,.I 0,.I 0,.I 0,.I 0]:=by kernel_rfl
theorem z173:m6 Tryz.prog 173=some [.I 0,.string ⟨#[]⟩,.bool false,.I 0,.I 0,.I 0]:=by kernel_rfl
theorem e225:s5 Tryz.prog 225=some 230:=by kernel_rfl
theorem z230:m6 Tryz.prog 230=some [.string ⟨#[]⟩,.string ⟨#[]⟩,.I 0,.I 0,.I 0,.I 0,.I 0,.I 0]:=by kernel_rfl
theorem z234:m6 Tryz.prog 234=some [.I 0,.I 0,.I 0,.string ⟨#[]⟩,.string ⟨#[]⟩,.string ⟨#[]⟩,.string ⟨#[]⟩,.I 0,.I 0,.I 0,.bool false,.I 0]:=by kernel_rfl
theorem z235:m6 Tryz.prog 235=some [.nilFunc,.nilFunc,.nilFunc,.nilFunc,.nilFunc,.nilFunc,.nilFunc,.nilFunc]:=by kernel_rfl
theorem e240:s5 Tryz.prog 240=some 243:=by kernel_rfl
theorem z243:m6 Tryz.prog 243=some [.string ⟨#[]⟩,.string ⟨#[]⟩,.I 0,.I 0,.I 0,.I 0,.I 0,.I 0]:=by kernel_rfl
theorem e251:s5 Tryz.prog 251=some 253:=by kernel_rfl
theorem e254:s5 Tryz.prog 254=some 173:=by kernel_rfl
theorem r3:A8 Tryz.prog 3=some (some (.I 0),1,8):=by kernel_rfl
theorem r5:A8 Tryz.prog 5=some (some (.int .u8 0),1,1):=by kernel_rfl
theorem r9:A8 Tryz.prog 9=some (some (.string ⟨#[]⟩),1,16):=by kernel_rfl
theorem r22:A8 Tryz.prog 22=some (some (.slice none 0 0),1,24):=by kernel_rfl
theorem r27:A8 Tryz.prog 27=some (some (.slice none 0 0),1,24):=by kernel_rfl
theorem r31:A8 Tryz.prog 31=some (some (.agg #[.I 0,.I 0,.I 0,.string ⟨#[]⟩,.string ⟨#[]⟩,.string ⟨#[]⟩,.string ⟨#[]⟩,.I 0,.I 0,.I 0,.bool false,.I 0]),12,128):=by kernel_rfl
theorem r34:A8 Tryz.prog 34=some (some (.agg #[.I 0,.I 0,.I 0,.I 0]),4,32):=by kernel_rfl
theorem r36:A8 Tryz.prog 36=some (some (.agg #[.I 0,.I 0,.I 0,.I 0,.I 0,.I 0]),6,48):=by kernel_rfl
theorem r38:A8 Tryz.prog 38=some (some (.agg #[.I 0,.I 0,.I 0,.string ⟨#[]⟩,.string ⟨#[]⟩,.string ⟨#[]⟩,.string ⟨#[]⟩,.I 0,.I 0,.I 0,.bool false,.I 0,.I 0,.I 0,.I 0,.I 0,.I 0,.I 0]),18,176):=by kernel_rfl
theorem r49:A8 Tryz.prog 49=some (some (.pointer none),1,8):=by kernel_rfl
theorem r66:A8 Tryz.prog 66=some (some (.pointer none),1,8):=by kernel_rfl
theorem r76:A8 Tryz.prog 76=some (some (.agg #[.I 0,.I 0,.I 0,.I 0,.I 0,.string ⟨#[]⟩,.string ⟨#[]⟩,.string ⟨#[]⟩,.string ⟨#[]⟩,.I 0,.I 0,.I 0,.bool false,.I 0]),14,144):=by kernel_rfl
theorem r77:A8 Tryz.prog 77=some (some (.agg #[.I 0,.I 0,.I 0,.I 0,.I 0,.string ⟨#[]⟩,.string ⟨#[]⟩,.string ⟨#[]⟩,.string ⟨#[]⟩,.I 0,.I 0,.I 0,.bool false,.I 0]),14,144):=by kernel_rfl
theorem r97:A8 Tryz.prog 97=some (some (.agg #[.I 0,.I 0,.string ⟨#[]⟩,.string ⟨#[]⟩,.string ⟨#[]⟩,.string ⟨#[]⟩,.I 0,.I 0]),8,96):=by kernel_rfl
theorem r127:A8 Tryz.prog 127=some (some (.agg #[.I 0,.I 0]),2,16):=by kernel_rfl
theorem r137:A8 Tryz.prog 137=some (some (.agg #[.string ⟨#[]⟩,.pointer none]),2,24):=by kernel_rfl
theorem r141:A8 Tryz.prog 141=some (some (.agg #[.I 0,.I 0,.I 0,.I 0,.I 0,.I 0,.I 0,.I 0]),8,64):=by kernel_rfl
theorem r144:A8 Tryz.prog 144=some (some (.agg #[.I 0,.I 0]),2,16):=by kernel_rfl
theorem r171:A8 Tryz.prog 171=some (some (.agg #[.string ⟨#[]⟩,.I 0,.I 0,.I 0,.I 0]),5,48):=by kernel_rfl
theorem r173:A8 Tryz.prog 173=some (some (.agg #[.I 0,.string ⟨#[]⟩,.bool false,.I 0,.I 0,.I 0]),6,56):=by kernel_rfl
theorem r230:A8 Tryz.prog 230=some (some (.agg #[.string ⟨#[]⟩,.string ⟨#[]⟩,.I 0,.I 0,.I 0,.I 0,.I 0,.I 0]),8,80):=by kernel_rfl
theorem r243:A8 Tryz.prog 243=some (some (.agg #[.string ⟨#[]⟩,.string ⟨#[]⟩,.I 0,.I 0,.I 0,.I 0,.I 0,.I 0]),8,80):=by kernel_rfl
theorem r253:A8 Tryz.prog 253=some (some (.pointer none),1,8):=by kernel_rfl
end Ty
end Go.Proofs.YtienbkdjkjbelaaGreat
end
