/-
  No cell of these rows narrows 'for every input' (looked for: loops, veiled, ifaces, maps, wideKeys, modest, calm, conditions, laid).
  DERIVED. THE GIVEN ROWS OF THIS SEAT. 4 by the template 'for every input the law returns true; each argument reads behind the call as it read before'; 0 by the template 'total and deterministic' (their statements: YtienbkdjkjbelaaGreatTotals.lean).
  GIVEN WITH THE SEED: the statements are not yours to turn. If you find one false, say at which input.
  Laid BY PROGRAM, IN A SANDBOX (cutbox-rows.mjs): the forced cells as the released guide's own fill.sh prints them over the translation 2635fd620cce26f4… (all of the seat's roots in one cut). By AI agents, Wed Nov 11 2026. No macro, syntax, notation, axiom, sorry.
-/
import Derived.Test.YtienbkdjkjbelaaGreatChecked
import GoSem.Claim
import GoSem.ClaimJoined
import GoSem.ClaimMapViews
import Derived.JoinedTies
import Derived.KernelRfl
namespace Go.Proofs.YtienbkdjkjbelaaGreat
/- THE CELL 'sum', in the pinned program and in every row, IS THE sha256 OF THE DUMP (.gsa) THAT YtienbkdjkjbelaaGreatProg.lean LOADS. Nothing in Lean hashes anything: it is a label: what it is worth is what the hold of that sum in a sandbox is worth. -/
noncomputable def Tryz.pinned : Pinned := { name := "ytienbkdjkjbelaagreat", sum := "2635fd620cce26f4cd4843eab6069eb9a3b2f6aa0833c10ed261fbd5df9dfcb1", checked := Tryz.checked }
namespace Rows
def none {H : Type} : Left H := { results := [], args := [] }

/-- 'satrapylaw27.JudgeWrong': WHATEVER THE INPUT: true; the input reads as it did. -/
def judgeWrongSpec : ChangeSpec := { name := "judgeWrong", fn := fun _ => fun
  | [d1, d2] => { results := [.lit (.bool true)], args := [d1, d2] }
  | _ => none }
def judgeWrongRow : OpenClaim := { program := "ytienbkdjkjbelaagreat", sum := "2635fd620cce26f4cd4843eab6069eb9a3b2f6aa0833c10ed261fbd5df9dfcb1", func := "satrapy/satrapylaw27.JudgeWrong", spec := "judgeWrong", unfollowed := true, recurses := true, plainKeys := false, apart := false }
def JudgeWrongSaid : Prop := judgeWrongRow.holds Tryz.pinned (OpenSpec.ofChange judgeWrongSpec)

/-- ITS FALSE NEIGHBOUR: 'it returns false'. Refute it at one input. -/
def judgeWrongWrong : ChangeSpec := { name := "judgeWrong", fn := fun _ => fun
  | [d1, d2] => { results := [.lit (.bool false)], args := [d1, d2] }
  | _ => none }
def JudgeWrongWrongFalsely : Prop := judgeWrongRow.holds Tryz.pinned (OpenSpec.ofChange judgeWrongWrong)

/-- 'satrapylaw27.JudgeRight': WHATEVER THE INPUT: true; the input reads as it did. -/
def judgeRightSpec : ChangeSpec := { name := "judgeRight", fn := fun _ => fun
  | [d1, d2] => { results := [.lit (.bool true)], args := [d1, d2] }
  | _ => none }
def judgeRightRow : OpenClaim := { program := "ytienbkdjkjbelaagreat", sum := "2635fd620cce26f4cd4843eab6069eb9a3b2f6aa0833c10ed261fbd5df9dfcb1", func := "satrapy/satrapylaw27.JudgeRight", spec := "judgeRight", unfollowed := true, recurses := true, plainKeys := false, apart := false }
def JudgeRightSaid : Prop := judgeRightRow.holds Tryz.pinned (OpenSpec.ofChange judgeRightSpec)

/-- ITS FALSE NEIGHBOUR: 'it returns false'. Refute it at one input. -/
def judgeRightWrong : ChangeSpec := { name := "judgeRight", fn := fun _ => fun
  | [d1, d2] => { results := [.lit (.bool false)], args := [d1, d2] }
  | _ => none }
def JudgeRightWrongFalsely : Prop := judgeRightRow.holds Tryz.pinned (OpenSpec.ofChange judgeRightWrong)

/-- 'satrapylaw27.JudgeTotals': WHATEVER THE INPUT: true; the input reads as it did. -/
def judgeTotalsSpec : ChangeSpec := { name := "judgeTotals", fn := fun _ => fun
  | [d1, d2, d3] => { results := [.lit (.bool true)], args := [d1, d2, d3] }
  | _ => none }
def judgeTotalsRow : OpenClaim := { program := "ytienbkdjkjbelaagreat", sum := "2635fd620cce26f4cd4843eab6069eb9a3b2f6aa0833c10ed261fbd5df9dfcb1", func := "satrapy/satrapylaw27.JudgeTotals", spec := "judgeTotals", unfollowed := true, recurses := true, plainKeys := false, apart := false }
def JudgeTotalsSaid : Prop := judgeTotalsRow.holds Tryz.pinned (OpenSpec.ofChange judgeTotalsSpec)

/-- ITS FALSE NEIGHBOUR: 'it returns false'. Refute it at one input. -/
def judgeTotalsWrong : ChangeSpec := { name := "judgeTotals", fn := fun _ => fun
  | [d1, d2, d3] => { results := [.lit (.bool false)], args := [d1, d2, d3] }
  | _ => none }
def JudgeTotalsWrongFalsely : Prop := judgeTotalsRow.holds Tryz.pinned (OpenSpec.ofChange judgeTotalsWrong)

/-- 'satrapylaw27.JudgeOrders': WHATEVER THE INPUT: true; the input reads as it did. -/
def judgeOrdersSpec : ChangeSpec := { name := "judgeOrders", fn := fun _ => fun
  | [d] => { results := [.lit (.bool true)], args := [d] }
  | _ => none }
def judgeOrdersRow : OpenClaim := { program := "ytienbkdjkjbelaagreat", sum := "2635fd620cce26f4cd4843eab6069eb9a3b2f6aa0833c10ed261fbd5df9dfcb1", func := "satrapy/satrapylaw27.JudgeOrders", spec := "judgeOrders", unfollowed := true, recurses := true, plainKeys := false, apart := false }
def JudgeOrdersSaid : Prop := judgeOrdersRow.holds Tryz.pinned (OpenSpec.ofChange judgeOrdersSpec)

/-- ITS FALSE NEIGHBOUR: 'it returns false'. Refute it at one input. -/
def judgeOrdersWrong : ChangeSpec := { name := "judgeOrders", fn := fun _ => fun
  | [d] => { results := [.lit (.bool false)], args := [d] }
  | _ => none }
def JudgeOrdersWrongFalsely : Prop := judgeOrdersRow.holds Tryz.pinned (OpenSpec.ofChange judgeOrdersWrong)

/- THE SECOND FORM. 'bulk': how many values and letters a reading holds, each counted each time it is reached (what is shared counts as often as it is met; a slice's spare places count too). A statement '..UptoSaid' is the law's where the arguments, and the package variables that the reading takes, are together of bulk at most 1048576: NARROWER than '..Said'. Prove '..Said' where nothing that the law and all that it calls make is longer than what came in: it says more and counts as full. Else prove '..UptoSaid'. A law counts once. -/
mutual
def uptoBulk {H : Type} : DataW H → Nat
  | .lit (.string bytes) => bytes.length + 1
  | .lit _ => 1
  | .nil => 1
  | .ptr d => uptoBulk d + 1
  | .slice elems spare => uptoBulkAll elems + uptoBulkAll spare + 1
  | .agg parts => uptoBulkAll parts + 1
  | .iface _ d => uptoBulk d + 1
  | .map entries => uptoBulkEntries entries + 1
  | .held _ => 1
def uptoBulkAll {H : Type} : List (DataW H) → Nat
  | [] => 0
  | d :: r => uptoBulk d + uptoBulkAll r
def uptoBulkEntries {H : Type} : List (Lit × DataW H) → Nat
  | [] => 0
  | x :: r => uptoBulkEntry x + uptoBulkEntries r
def uptoBulkEntry {H : Type} : Lit × DataW H → Nat
  | (.string bytes, d) => bytes.length + uptoBulk d + 1
  | (_, d) => uptoBulk d + 1
 end
def uptoSmall : (H : Type) → List (DataW H) → Bool := fun _ ds => decide (uptoBulkAll ds ≤ 1048576)
def OpenSpec.upto (s : _root_.Go.ChangeSpec) : _root_.Go.OpenSpec := { _root_.Go.OpenSpec.ofChange s with cond := some uptoSmall }

/-- 'satrapylaw27.JudgeWrong', WHERE WHAT IT READS IS OF BULK AT MOST 1048576: true; the input reads as it did. -/
def judgeWrongUptoRow : OpenClaim := { program := "ytienbkdjkjbelaagreat", sum := "2635fd620cce26f4cd4843eab6069eb9a3b2f6aa0833c10ed261fbd5df9dfcb1", func := "satrapy/satrapylaw27.JudgeWrong", spec := "judgeWrong", unfollowed := true, recurses := true, plainKeys := false, apart := false, narrowed := true }
def JudgeWrongUptoSaid : Prop := judgeWrongUptoRow.holds Tryz.pinned (OpenSpec.upto judgeWrongSpec)

/-- 'satrapylaw27.JudgeRight', WHERE WHAT IT READS IS OF BULK AT MOST 1048576: true; the input reads as it did. -/
def judgeRightUptoRow : OpenClaim := { program := "ytienbkdjkjbelaagreat", sum := "2635fd620cce26f4cd4843eab6069eb9a3b2f6aa0833c10ed261fbd5df9dfcb1", func := "satrapy/satrapylaw27.JudgeRight", spec := "judgeRight", unfollowed := true, recurses := true, plainKeys := false, apart := false, narrowed := true }
def JudgeRightUptoSaid : Prop := judgeRightUptoRow.holds Tryz.pinned (OpenSpec.upto judgeRightSpec)

/-- 'satrapylaw27.JudgeTotals', WHERE WHAT IT READS IS OF BULK AT MOST 1048576: true; the input reads as it did. -/
def judgeTotalsUptoRow : OpenClaim := { program := "ytienbkdjkjbelaagreat", sum := "2635fd620cce26f4cd4843eab6069eb9a3b2f6aa0833c10ed261fbd5df9dfcb1", func := "satrapy/satrapylaw27.JudgeTotals", spec := "judgeTotals", unfollowed := true, recurses := true, plainKeys := false, apart := false, narrowed := true }
def JudgeTotalsUptoSaid : Prop := judgeTotalsUptoRow.holds Tryz.pinned (OpenSpec.upto judgeTotalsSpec)

/-- 'satrapylaw27.JudgeOrders', WHERE WHAT IT READS IS OF BULK AT MOST 1048576: true; the input reads as it did. -/
def judgeOrdersUptoRow : OpenClaim := { program := "ytienbkdjkjbelaagreat", sum := "2635fd620cce26f4cd4843eab6069eb9a3b2f6aa0833c10ed261fbd5df9dfcb1", func := "satrapy/satrapylaw27.JudgeOrders", spec := "judgeOrders", unfollowed := true, recurses := true, plainKeys := false, apart := false, narrowed := true }
def JudgeOrdersUptoSaid : Prop := judgeOrdersUptoRow.holds Tryz.pinned (OpenSpec.upto judgeOrdersSpec)

end Rows
end Go.Proofs.YtienbkdjkjbelaaGreat
