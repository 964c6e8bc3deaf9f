/-
  No cell of these rows narrows 'for every input' (looked for: loops, veiled, ifaces, maps, wideKeys, modest, calm, conditions, laid).
  DERIVED. THE GIVEN ROWS OF THIS SEAT. 4 by the template 'for every input the law returns true; each argument reads behind the call as it read before'; 0 by the template 'total and deterministic' (their statements: YtjcfifkjbaffnaaTotals.lean).
  GIVEN WITH THE SEED: the statements are not yours to turn. If you find one false, say at which input.
  Laid BY PROGRAM, IN A SANDBOX (cutbox-rows.mjs): the forced cells as the released guide's own fill.sh prints them over the translation 8c8733a0b06fc2e8… (all of the seat's roots in one cut). By AI agents, Wed Nov 11 2026. No macro, syntax, notation, axiom, sorry.
-/
import Derived.Test.YtjcfifkjbaffnaaChecked
import GoSem.Claim
import GoSem.ClaimJoined
import GoSem.ClaimMapViews
import Derived.JoinedTies
import Derived.KernelRfl
namespace Go.Proofs.Ytjcfifkjbaffnaa
/- THE CELL 'sum', in the pinned program and in every row, IS THE sha256 OF THE DUMP (.gsa) THAT YtjcfifkjbaffnaaProg.lean LOADS. Nothing in Lean hashes anything: it is a label: what it is worth is what the hold of that sum in a sandbox is worth. -/
noncomputable def Try.pinned : Pinned := { name := "ytjcfifkjbaffnaa", sum := "8c8733a0b06fc2e80270b5431790028fcda9f788bcbcf1843308fd5d40733fe0", checked := Try.checked }
namespace Rows
def none {H : Type} : Left H := { results := [], args := [] }

/-- 'satrapylaw20.PlanEvens': WHATEVER THE INPUT: true; the input reads as it did. -/
def planEvensSpec : ChangeSpec := { name := "planEvens", fn := fun _ => fun
  | [d] => { results := [.lit (.bool true)], args := [d] }
  | _ => none }
def planEvensRow : OpenClaim := { program := "ytjcfifkjbaffnaa", sum := "8c8733a0b06fc2e80270b5431790028fcda9f788bcbcf1843308fd5d40733fe0", func := "satrapy/satrapylaw20.PlanEvens", spec := "planEvens", unfollowed := true, recurses := true, apart := false }
def PlanEvensSaid : Prop := planEvensRow.holds Try.pinned (OpenSpec.ofChange planEvensSpec)

/-- ITS FALSE NEIGHBOUR: 'it returns false'. Refute it at one input. -/
def planEvensWrong : ChangeSpec := { name := "planEvens", fn := fun _ => fun
  | [d] => { results := [.lit (.bool false)], args := [d] }
  | _ => none }
def PlanEvensWrongFalsely : Prop := planEvensRow.holds Try.pinned (OpenSpec.ofChange planEvensWrong)

/-- 'satrapylaw20.PlanBusy': WHATEVER THE INPUT: true; the input reads as it did. -/
def planBusySpec : ChangeSpec := { name := "planBusy", fn := fun _ => fun
  | [d1, d2, d3, d4] => { results := [.lit (.bool true)], args := [d1, d2, d3, d4] }
  | _ => none }
def planBusyRow : OpenClaim := { program := "ytjcfifkjbaffnaa", sum := "8c8733a0b06fc2e80270b5431790028fcda9f788bcbcf1843308fd5d40733fe0", func := "satrapy/satrapylaw20.PlanBusy", spec := "planBusy", unfollowed := true, recurses := true, apart := false }
def PlanBusySaid : Prop := planBusyRow.holds Try.pinned (OpenSpec.ofChange planBusySpec)

/-- ITS FALSE NEIGHBOUR: 'it returns false'. Refute it at one input. -/
def planBusyWrong : ChangeSpec := { name := "planBusy", fn := fun _ => fun
  | [d1, d2, d3, d4] => { results := [.lit (.bool false)], args := [d1, d2, d3, d4] }
  | _ => none }
def PlanBusyWrongFalsely : Prop := planBusyRow.holds Try.pinned (OpenSpec.ofChange planBusyWrong)

/-- 'satrapylaw20.PlanHot': WHATEVER THE INPUT: true; the input reads as it did. -/
def planHotSpec : ChangeSpec := { name := "planHot", fn := fun _ => fun
  | [d1, d2, d3] => { results := [.lit (.bool true)], args := [d1, d2, d3] }
  | _ => none }
def planHotRow : OpenClaim := { program := "ytjcfifkjbaffnaa", sum := "8c8733a0b06fc2e80270b5431790028fcda9f788bcbcf1843308fd5d40733fe0", func := "satrapy/satrapylaw20.PlanHot", spec := "planHot", unfollowed := true, recurses := true, apart := false }
def PlanHotSaid : Prop := planHotRow.holds Try.pinned (OpenSpec.ofChange planHotSpec)

/-- ITS FALSE NEIGHBOUR: 'it returns false'. Refute it at one input. -/
def planHotWrong : ChangeSpec := { name := "planHot", fn := fun _ => fun
  | [d1, d2, d3] => { results := [.lit (.bool false)], args := [d1, d2, d3] }
  | _ => none }
def PlanHotWrongFalsely : Prop := planHotRow.holds Try.pinned (OpenSpec.ofChange planHotWrong)

/-- 'satrapylaw20.PlanCold': WHATEVER THE INPUT: true; the input reads as it did. -/
def planColdSpec : ChangeSpec := { name := "planCold", fn := fun _ => fun
  | [d1, d2, d3, d4] => { results := [.lit (.bool true)], args := [d1, d2, d3, d4] }
  | _ => none }
def planColdRow : OpenClaim := { program := "ytjcfifkjbaffnaa", sum := "8c8733a0b06fc2e80270b5431790028fcda9f788bcbcf1843308fd5d40733fe0", func := "satrapy/satrapylaw20.PlanCold", spec := "planCold", unfollowed := true, recurses := true, apart := false }
def PlanColdSaid : Prop := planColdRow.holds Try.pinned (OpenSpec.ofChange planColdSpec)

/-- ITS FALSE NEIGHBOUR: 'it returns false'. Refute it at one input. -/
def planColdWrong : ChangeSpec := { name := "planCold", fn := fun _ => fun
  | [d1, d2, d3, d4] => { results := [.lit (.bool false)], args := [d1, d2, d3, d4] }
  | _ => none }
def PlanColdWrongFalsely : Prop := planColdRow.holds Try.pinned (OpenSpec.ofChange planColdWrong)

/- THE SECOND FORM. 'bulk': how many values and letters a reading holds, each counted each time it is reached (what is shared counts as often as it is met; a slice's spare places count too). A statement '..UptoSaid' is the law's where the arguments, and the package variables that the reading takes, are together of bulk at most 1048576: NARROWER than '..Said'. Prove '..Said' where nothing that the law and all that it calls make is longer than what came in: it says more and counts as full. Else prove '..UptoSaid'. A law counts once. -/
mutual
def uptoBulk {H : Type} : DataW H → Nat
  | .lit (.string bytes) => bytes.length + 1
  | .lit _ => 1
  | .nil => 1
  | .ptr d => uptoBulk d + 1
  | .slice elems spare => uptoBulkAll elems + uptoBulkAll spare + 1
  | .agg parts => uptoBulkAll parts + 1
  | .iface _ d => uptoBulk d + 1
  | .map entries => uptoBulkEntries entries + 1
  | .held _ => 1
def uptoBulkAll {H : Type} : List (DataW H) → Nat
  | [] => 0
  | d :: r => uptoBulk d + uptoBulkAll r
def uptoBulkEntries {H : Type} : List (Lit × DataW H) → Nat
  | [] => 0
  | x :: r => uptoBulkEntry x + uptoBulkEntries r
def uptoBulkEntry {H : Type} : Lit × DataW H → Nat
  | (.string bytes, d) => bytes.length + uptoBulk d + 1
  | (_, d) => uptoBulk d + 1
 end
def uptoSmall : (H : Type) → List (DataW H) → Bool := fun _ ds => decide (uptoBulkAll ds ≤ 1048576)
def OpenSpec.upto (s : _root_.Go.ChangeSpec) : _root_.Go.OpenSpec := { _root_.Go.OpenSpec.ofChange s with cond := some uptoSmall }

/-- 'satrapylaw20.PlanEvens', WHERE WHAT IT READS IS OF BULK AT MOST 1048576: true; the input reads as it did. -/
def planEvensUptoRow : OpenClaim := { program := "ytjcfifkjbaffnaa", sum := "8c8733a0b06fc2e80270b5431790028fcda9f788bcbcf1843308fd5d40733fe0", func := "satrapy/satrapylaw20.PlanEvens", spec := "planEvens", unfollowed := true, recurses := true, apart := false, narrowed := true }
def PlanEvensUptoSaid : Prop := planEvensUptoRow.holds Try.pinned (OpenSpec.upto planEvensSpec)

/-- 'satrapylaw20.PlanBusy', WHERE WHAT IT READS IS OF BULK AT MOST 1048576: true; the input reads as it did. -/
def planBusyUptoRow : OpenClaim := { program := "ytjcfifkjbaffnaa", sum := "8c8733a0b06fc2e80270b5431790028fcda9f788bcbcf1843308fd5d40733fe0", func := "satrapy/satrapylaw20.PlanBusy", spec := "planBusy", unfollowed := true, recurses := true, apart := false, narrowed := true }
def PlanBusyUptoSaid : Prop := planBusyUptoRow.holds Try.pinned (OpenSpec.upto planBusySpec)

/-- 'satrapylaw20.PlanHot', WHERE WHAT IT READS IS OF BULK AT MOST 1048576: true; the input reads as it did. -/
def planHotUptoRow : OpenClaim := { program := "ytjcfifkjbaffnaa", sum := "8c8733a0b06fc2e80270b5431790028fcda9f788bcbcf1843308fd5d40733fe0", func := "satrapy/satrapylaw20.PlanHot", spec := "planHot", unfollowed := true, recurses := true, apart := false, narrowed := true }
def PlanHotUptoSaid : Prop := planHotUptoRow.holds Try.pinned (OpenSpec.upto planHotSpec)

/-- 'satrapylaw20.PlanCold', WHERE WHAT IT READS IS OF BULK AT MOST 1048576: true; the input reads as it did. -/
def planColdUptoRow : OpenClaim := { program := "ytjcfifkjbaffnaa", sum := "8c8733a0b06fc2e80270b5431790028fcda9f788bcbcf1843308fd5d40733fe0", func := "satrapy/satrapylaw20.PlanCold", spec := "planCold", unfollowed := true, recurses := true, apart := false, narrowed := true }
def PlanColdUptoSaid : Prop := planColdUptoRow.holds Try.pinned (OpenSpec.upto planColdSpec)

end Rows
end Go.Proofs.Ytjcfifkjbaffnaa
