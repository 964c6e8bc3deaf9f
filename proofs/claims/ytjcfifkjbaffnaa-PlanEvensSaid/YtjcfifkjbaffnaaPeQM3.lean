/-
  Closed facts on the types of this program.
-/
import Derived.Test.YtjcfifkjbaffnaaPeQM2
import Derived.Test.YtjcfifkjbaffnaaRows
set_option maxHeartbeats 16000000
set_option maxRecDepth 100000
section
namespace Go.Proofs.Ytjcfifkjbaffnaa
open Go.Sl
namespace Ty
theorem z2:i7 Try.prog 2=some [.I 0]:=by kernel_rfl
theorem z3:i7 Try.prog 3=some [.I 0]:=by kernel_rfl
theorem z4:i7 Try.prog 4=some [.bool false]:=by kernel_rfl
theorem z5:i7 Try.prog 5=some [.int .u8 0]:=by kernel_rfl
theorem z6:i7 Try.prog 6=some [.int .u8 0]:=by kernel_rfl
theorem z7:i7 Try.prog 7=some [.I 0,.I 0,.bool false,.int .u8 0]:=by kernel_rfl
theorem z8:i7 Try.prog 8=some [.I 0,.I 0,.bool false,.int .u8 0]:=by kernel_rfl
theorem z9:i7 Try.prog 9=some [.string ⟨#[]⟩]:=by kernel_rfl
theorem z22:i7 Try.prog 22=some [.slice none 0 0]:=by kernel_rfl
theorem e22:k8 Try.prog 22=some 3:=by kernel_rfl
theorem e24:k8 Try.prog 24=some 32:=by kernel_rfl
theorem z25:i7 Try.prog 25=some [.I 0,.I 0,.slice none 0 0]:=by kernel_rfl
theorem z26:i7 Try.prog 26=some [.I 0,.I 0,.slice none 0 0]:=by kernel_rfl
theorem e27:k8 Try.prog 27=some 35:=by kernel_rfl
theorem z30:i7 Try.prog 30=some [.string ⟨#[]⟩,.string ⟨#[]⟩]:=by kernel_rfl
theorem z32:i7 Try.prog 32=some [.I 0,.string ⟨#[]⟩,.string ⟨#[]⟩,.I 0,.I 0,.I 0,.I 0,.string ⟨#[]⟩,.I 0]:=by kernel_rfl
theorem e33:k8 Try.prog 33=some 5:=by kernel_rfl
theorem z35:i7 Try.prog 35=some [.I 0,.I 0,.string ⟨#[]⟩]:=by kernel_rfl
theorem z36:i7 Try.prog 36=some [.I 0,.I 0,.I 0]:=by kernel_rfl
theorem e37:k8 Try.prog 37=some 42:=by kernel_rfl
theorem z39:i7 Try.prog 39=some [.I 0,.I 0]:=by kernel_rfl
theorem z50:i7 Try.prog 50=some [.I 0]:=by kernel_rfl
theorem e65:k8 Try.prog 65=some 30:=by kernel_rfl
theorem z76:i7 Try.prog 76=some [.slice none 0 0]:=by kernel_rfl
theorem z77:i7 Try.prog 77=some [.slice none 0 0]:=by kernel_rfl
theorem z93:i7 Try.prog 93=some [.I 0,.I 0]:=by kernel_rfl
theorem e94:k8 Try.prog 94=some 93:=by kernel_rfl
theorem e105:k8 Try.prog 105=some 72:=by kernel_rfl
theorem z114:i7 Try.prog 114=some [.nilFunc,.nilFunc,.nilFunc,.nilFunc]:=by kernel_rfl
theorem e117:k8 Try.prog 117=some 33:=by kernel_rfl
theorem r3:m9 Try.prog 3=some (some (.I 0),1,8):=by kernel_rfl
theorem r5:m9 Try.prog 5=some (some (.int .u8 0),1,1):=by kernel_rfl
theorem r30:m9 Try.prog 30=some (some (.agg #[.string ⟨#[]⟩,.string ⟨#[]⟩]),2,32):=by kernel_rfl
theorem r32:m9 Try.prog 32=some (some (.agg #[.I 0,.string ⟨#[]⟩,.string ⟨#[]⟩,.I 0,.I 0,.I 0,.I 0,.string ⟨#[]⟩,.I 0]),9,96):=by kernel_rfl
theorem r33:m9 Try.prog 33=some (some (.slice none 0 0),1,24):=by kernel_rfl
theorem r35:m9 Try.prog 35=some (some (.agg #[.I 0,.I 0,.string ⟨#[]⟩]),3,32):=by kernel_rfl
theorem r42:m9 Try.prog 42=some (some (.agg #[.I 0,.I 0,.I 0,.I 0,.string ⟨#[]⟩]),5,48):=by kernel_rfl
theorem r72:m9 Try.prog 72=some (some (.pointer none),1,8):=by kernel_rfl
theorem r93:m9 Try.prog 93=some (some (.agg #[.I 0,.I 0]),2,16):=by kernel_rfl
end Ty
end Go.Proofs.Ytjcfifkjbaffnaa
end
