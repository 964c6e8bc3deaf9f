/-
  Hits that come in.
-/
import Derived.Test.YtjcfifkjbaffnaaPeQM6
import Derived.Test.YtjcfifkjbaffnaaPeQM23
set_option maxHeartbeats 16000000
set_option maxRecDepth 100000
set_option linter.unusedSimpArgs false
set_option linter.unusedVariables false
section
namespace Go.Proofs.Ytjcfifkjbaffnaa
open Go.Joins Go.ChangeShapes Go.WideShapes Go.RowKit Go.Deep Go.Sl
section
variable{H:Type}{enc:TypeId×Value->H}{w:World}{base:Nat}{spare:Nat->Bool}{held:Bool}
theorem open_intsP{r:Reach}{b0:Nat}{v:Value}{d:DataW H}{p:List MemPlace}(hv:Value.okWide Try.prog w r b0 22 v)(h:DataW.Trod enc Try.prog w base spare held 22 v d p):∃xs,c9 hC 1 w v xs:=
 DY7 hC 0 DG7 (by decide) Try.underlying22 (by kernel_rfl) (fun n cs y _ h => by obtain⟨k,e,_⟩:=DataW.trod_int Try.underlying3 h;exact⟨k,e⟩) hv h
end
end Go.Proofs.Ytjcfifkjbaffnaa
end
