/-
  Closed facts on the types of this program.
-/
import Derived.Test.YtjcfifkjbaffnaaGreatPkQM2
import Derived.Test.YtjcfifkjbaffnaaGreatRows
set_option maxHeartbeats 16000000
set_option maxRecDepth 100000
section
namespace Go.Proofs.YtjcfifkjbaffnaaGreat
open Go.Sl
namespace Ty
theorem z2:j7 Tryz.prog 2=some [.I 0]:=by kernel_rfl
theorem z3:j7 Tryz.prog 3=some [.I 0]:=by kernel_rfl
theorem z4:j7 Tryz.prog 4=some [.bool false]:=by kernel_rfl
theorem z5:j7 Tryz.prog 5=some [.int .u8 0]:=by kernel_rfl
theorem z6:j7 Tryz.prog 6=some [.int .u8 0]:=by kernel_rfl
theorem z7:j7 Tryz.prog 7=some [.I 0,.I 0,.bool false,.int .u8 0]:=by kernel_rfl
theorem z8:j7 Tryz.prog 8=some [.I 0,.I 0,.bool false,.int .u8 0]:=by kernel_rfl
theorem z9:j7 Tryz.prog 9=some [.string ⟨#[]⟩]:=by kernel_rfl
theorem z22:j7 Tryz.prog 22=some [.slice none 0 0]:=by kernel_rfl
theorem e22:j5 Tryz.prog 22=some 55:=by kernel_rfl
theorem z24:j7 Tryz.prog 24=some [.I 0,.I 0,.slice none 0 0]:=by kernel_rfl
theorem z25:j7 Tryz.prog 25=some [.slice none 0 0]:=by kernel_rfl
theorem e25:j5 Tryz.prog 25=some 3:=by kernel_rfl
theorem e26:j5 Tryz.prog 26=some 34:=by kernel_rfl
theorem e31:j5 Tryz.prog 31=some 64:=by kernel_rfl
theorem z34:j7 Tryz.prog 34=some [.I 0,.I 0,.string ⟨#[]⟩]:=by kernel_rfl
theorem e38:j5 Tryz.prog 38=some 71:=by kernel_rfl
theorem z46:j7 Tryz.prog 46=some [.slice none 0 0]:=by kernel_rfl
theorem e46:j5 Tryz.prog 46=some 5:=by kernel_rfl
theorem z53:j7 Tryz.prog 53=some [.string ⟨#[]⟩,.string ⟨#[]⟩]:=by kernel_rfl
theorem z55:j7 Tryz.prog 55=some [.I 0,.string ⟨#[]⟩,.string ⟨#[]⟩,.I 0,.I 0,.I 0,.I 0,.string ⟨#[]⟩,.I 0]:=by kernel_rfl
theorem z66:j7 Tryz.prog 66=some [.pointer none]:=by kernel_rfl
theorem e67:j5 Tryz.prog 67=some 4:=by kernel_rfl
theorem z71:j7 Tryz.prog 71=some [.I 0,.I 0,.string ⟨#[]⟩]:=by kernel_rfl
theorem z80:j7 Tryz.prog 80=some [.slice none 0 0]:=by kernel_rfl
theorem z96:j7 Tryz.prog 96=some [.I 0,.I 0]:=by kernel_rfl
theorem e97:j5 Tryz.prog 97=some 96:=by kernel_rfl
theorem e103:j5 Tryz.prog 103=some 53:=by kernel_rfl
theorem e114:j5 Tryz.prog 114=some 75:=by kernel_rfl
theorem z122:j7 Tryz.prog 122=some [.nilFunc,.nilFunc,.nilFunc,.nilFunc]:=by kernel_rfl
theorem e126:j5 Tryz.prog 126=some 46:=by kernel_rfl
theorem r3:k8 Tryz.prog 3=some (some (.I 0),1,8):=by kernel_rfl
theorem r4:k8 Tryz.prog 4=some (some (.bool false),1,1):=by kernel_rfl
theorem r5:k8 Tryz.prog 5=some (some (.int .u8 0),1,1):=by kernel_rfl
theorem r34:k8 Tryz.prog 34=some (some (.agg #[.I 0,.I 0,.string ⟨#[]⟩]),3,32):=by kernel_rfl
theorem r46:k8 Tryz.prog 46=some (some (.slice none 0 0),1,24):=by kernel_rfl
theorem r53:k8 Tryz.prog 53=some (some (.agg #[.string ⟨#[]⟩,.string ⟨#[]⟩]),2,32):=by kernel_rfl
theorem r55:k8 Tryz.prog 55=some (some (.agg #[.I 0,.string ⟨#[]⟩,.string ⟨#[]⟩,.I 0,.I 0,.I 0,.I 0,.string ⟨#[]⟩,.I 0]),9,96):=by kernel_rfl
theorem r64:k8 Tryz.prog 64=some (some (.agg #[.I 0,.I 0,.I 0,.I 0,.string ⟨#[]⟩]),5,48):=by kernel_rfl
theorem r71:k8 Tryz.prog 71=some (some (.agg #[.I 0,.I 0,.string ⟨#[]⟩]),3,32):=by kernel_rfl
theorem r75:k8 Tryz.prog 75=some (some (.pointer none),1,8):=by kernel_rfl
theorem r96:k8 Tryz.prog 96=some (some (.agg #[.I 0,.I 0]),2,16):=by kernel_rfl
end Ty
end Go.Proofs.YtjcfifkjbaffnaaGreat
end
