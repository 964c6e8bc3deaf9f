/-
  No cell of these rows narrows 'for every input' (looked for: loops, veiled, ifaces, maps, wideKeys, modest, calm, conditions, laid).
  DERIVED. THE GIVEN ROWS OF THIS SEAT. 11 by the template 'for every input the law returns true; each argument reads behind the call as it read before'; 0 by the template 'total and deterministic' (their statements: YtlmhakmoioogaaaGreatTotals.lean).
  GIVEN WITH THE SEED: the statements are not yours to turn. If you find one false, say at which input.
  Laid BY PROGRAM, IN A SANDBOX (cutbox-rows.mjs): the forced cells as the released guide's own fill.sh prints them over the translation a63061d117f08cf0… (all of the seat's roots in one cut). By AI agents, Wed Nov 11 2026. No macro, syntax, notation, axiom, sorry.
-/
import Derived.Test.YtlmhakmoioogaaaGreatChecked
import GoSem.Claim
import GoSem.ClaimJoined
import GoSem.ClaimMapViews
import Derived.JoinedTies
import Derived.KernelRfl
namespace Go.Proofs.YtlmhakmoioogaaaGreat
/- THE CELL 'sum', in the pinned program and in every row, IS THE sha256 OF THE DUMP (.gsa) THAT YtlmhakmoioogaaaGreatProg.lean LOADS. Nothing in Lean hashes anything: it is a label: what it is worth is what the hold of that sum in a sandbox is worth. -/
noncomputable def Tryz.pinned : Pinned := { name := "ytlmhakmoioogaaagreat", sum := "a63061d117f08cf077aeed81fc83de6e3508789b2e0c3cf35907b16a0e002d83", checked := Tryz.checked }
namespace Rows
def none {H : Type} : Left H := { results := [], args := [] }

/-- 'satrapylaw13.EconSends': WHATEVER THE INPUT: true; the input reads as it did. -/
def econSendsSpec : ChangeSpec := { name := "econSends", fn := fun _ => fun
  | [d1, d2, d3] => { results := [.lit (.bool true)], args := [d1, d2, d3] }
  | _ => none }
def econSendsRow : OpenClaim := { program := "ytlmhakmoioogaaagreat", sum := "a63061d117f08cf077aeed81fc83de6e3508789b2e0c3cf35907b16a0e002d83", func := "satrapy/satrapylaw13.EconSends", spec := "econSends", unfollowed := true, recurses := true, plainKeys := false, apart := false }
def EconSendsSaid : Prop := econSendsRow.holds Tryz.pinned (OpenSpec.ofChange econSendsSpec)

/-- ITS FALSE NEIGHBOUR: 'it returns false'. Refute it at one input. -/
def econSendsWrong : ChangeSpec := { name := "econSends", fn := fun _ => fun
  | [d1, d2, d3] => { results := [.lit (.bool false)], args := [d1, d2, d3] }
  | _ => none }
def EconSendsWrongFalsely : Prop := econSendsRow.holds Tryz.pinned (OpenSpec.ofChange econSendsWrong)

/-- 'satrapylaw13.EconTotal': WHATEVER THE INPUT: true; the input reads as it did. -/
def econTotalSpec : ChangeSpec := { name := "econTotal", fn := fun _ => fun
  | [d] => { results := [.lit (.bool true)], args := [d] }
  | _ => none }
def econTotalRow : OpenClaim := { program := "ytlmhakmoioogaaagreat", sum := "a63061d117f08cf077aeed81fc83de6e3508789b2e0c3cf35907b16a0e002d83", func := "satrapy/satrapylaw13.EconTotal", spec := "econTotal", unfollowed := true, recurses := true, plainKeys := false, apart := false }
def EconTotalSaid : Prop := econTotalRow.holds Tryz.pinned (OpenSpec.ofChange econTotalSpec)

/-- ITS FALSE NEIGHBOUR: 'it returns false'. Refute it at one input. -/
def econTotalWrong : ChangeSpec := { name := "econTotal", fn := fun _ => fun
  | [d] => { results := [.lit (.bool false)], args := [d] }
  | _ => none }
def EconTotalWrongFalsely : Prop := econTotalRow.holds Tryz.pinned (OpenSpec.ofChange econTotalWrong)

/-- 'satrapylaw13.EconSpans': WHATEVER THE INPUT: true; the input reads as it did. -/
def econSpansSpec : ChangeSpec := { name := "econSpans", fn := fun _ => fun
  | [d1, d2] => { results := [.lit (.bool true)], args := [d1, d2] }
  | _ => none }
def econSpansRow : OpenClaim := { program := "ytlmhakmoioogaaagreat", sum := "a63061d117f08cf077aeed81fc83de6e3508789b2e0c3cf35907b16a0e002d83", func := "satrapy/satrapylaw13.EconSpans", spec := "econSpans", inPlace := ["maps.clone"], unfollowed := true, recurses := true, plainKeys := false, apart := false }
def EconSpansSaid : Prop := econSpansRow.holds Tryz.pinned (OpenSpec.ofChange econSpansSpec)

/-- ITS FALSE NEIGHBOUR: 'it returns false'. Refute it at one input. -/
def econSpansWrong : ChangeSpec := { name := "econSpans", fn := fun _ => fun
  | [d1, d2] => { results := [.lit (.bool false)], args := [d1, d2] }
  | _ => none }
def EconSpansWrongFalsely : Prop := econSpansRow.holds Tryz.pinned (OpenSpec.ofChange econSpansWrong)

/-- 'satrapylaw13.EconOnce': WHATEVER THE INPUT: true; the input reads as it did. -/
def econOnceSpec : ChangeSpec := { name := "econOnce", fn := fun _ => fun
  | [d1, d2] => { results := [.lit (.bool true)], args := [d1, d2] }
  | _ => none }
def econOnceRow : OpenClaim := { program := "ytlmhakmoioogaaagreat", sum := "a63061d117f08cf077aeed81fc83de6e3508789b2e0c3cf35907b16a0e002d83", func := "satrapy/satrapylaw13.EconOnce", spec := "econOnce", unfollowed := true, recurses := true, plainKeys := false, apart := false }
def EconOnceSaid : Prop := econOnceRow.holds Tryz.pinned (OpenSpec.ofChange econOnceSpec)

/-- ITS FALSE NEIGHBOUR: 'it returns false'. Refute it at one input. -/
def econOnceWrong : ChangeSpec := { name := "econOnce", fn := fun _ => fun
  | [d1, d2] => { results := [.lit (.bool false)], args := [d1, d2] }
  | _ => none }
def EconOnceWrongFalsely : Prop := econOnceRow.holds Tryz.pinned (OpenSpec.ofChange econOnceWrong)

/-- 'satrapylaw13.EconPlays': WHATEVER THE INPUT: true; the input reads as it did. -/
def econPlaysSpec : ChangeSpec := { name := "econPlays", fn := fun _ => fun
  | [d] => { results := [.lit (.bool true)], args := [d] }
  | _ => none }
def econPlaysRow : OpenClaim := { program := "ytlmhakmoioogaaagreat", sum := "a63061d117f08cf077aeed81fc83de6e3508789b2e0c3cf35907b16a0e002d83", func := "satrapy/satrapylaw13.EconPlays", spec := "econPlays", unfollowed := true, recurses := true, plainKeys := false, apart := false }
def EconPlaysSaid : Prop := econPlaysRow.holds Tryz.pinned (OpenSpec.ofChange econPlaysSpec)

/-- ITS FALSE NEIGHBOUR: 'it returns false'. Refute it at one input. -/
def econPlaysWrong : ChangeSpec := { name := "econPlays", fn := fun _ => fun
  | [d] => { results := [.lit (.bool false)], args := [d] }
  | _ => none }
def EconPlaysWrongFalsely : Prop := econPlaysRow.holds Tryz.pinned (OpenSpec.ofChange econPlaysWrong)

/-- 'satrapylaw13.EconJoins': WHATEVER THE INPUT: true; the input reads as it did. -/
def econJoinsSpec : ChangeSpec := { name := "econJoins", fn := fun _ => fun
  | [d1, d2] => { results := [.lit (.bool true)], args := [d1, d2] }
  | _ => none }
def econJoinsRow : OpenClaim := { program := "ytlmhakmoioogaaagreat", sum := "a63061d117f08cf077aeed81fc83de6e3508789b2e0c3cf35907b16a0e002d83", func := "satrapy/satrapylaw13.EconJoins", spec := "econJoins", unfollowed := true, recurses := true, plainKeys := false, apart := false }
def EconJoinsSaid : Prop := econJoinsRow.holds Tryz.pinned (OpenSpec.ofChange econJoinsSpec)

/-- ITS FALSE NEIGHBOUR: 'it returns false'. Refute it at one input. -/
def econJoinsWrong : ChangeSpec := { name := "econJoins", fn := fun _ => fun
  | [d1, d2] => { results := [.lit (.bool false)], args := [d1, d2] }
  | _ => none }
def EconJoinsWrongFalsely : Prop := econJoinsRow.holds Tryz.pinned (OpenSpec.ofChange econJoinsWrong)

/-- 'satrapylaw13.EconWhole': WHATEVER THE INPUT: true; the input reads as it did. -/
def econWholeSpec : ChangeSpec := { name := "econWhole", fn := fun _ => fun
  | [d1, d2] => { results := [.lit (.bool true)], args := [d1, d2] }
  | _ => none }
def econWholeRow : OpenClaim := { program := "ytlmhakmoioogaaagreat", sum := "a63061d117f08cf077aeed81fc83de6e3508789b2e0c3cf35907b16a0e002d83", func := "satrapy/satrapylaw13.EconWhole", spec := "econWhole", inPlace := ["maps.clone"], unfollowed := true, recurses := true, plainKeys := false, apart := false }
def EconWholeSaid : Prop := econWholeRow.holds Tryz.pinned (OpenSpec.ofChange econWholeSpec)

/-- ITS FALSE NEIGHBOUR: 'it returns false'. Refute it at one input. -/
def econWholeWrong : ChangeSpec := { name := "econWhole", fn := fun _ => fun
  | [d1, d2] => { results := [.lit (.bool false)], args := [d1, d2] }
  | _ => none }
def EconWholeWrongFalsely : Prop := econWholeRow.holds Tryz.pinned (OpenSpec.ofChange econWholeWrong)

/-- 'satrapylaw13.EconCuts': WHATEVER THE INPUT: true; the input reads as it did. -/
def econCutsSpec : ChangeSpec := { name := "econCuts", fn := fun _ => fun
  | [d1, d2, d3] => { results := [.lit (.bool true)], args := [d1, d2, d3] }
  | _ => none }
def econCutsRow : OpenClaim := { program := "ytlmhakmoioogaaagreat", sum := "a63061d117f08cf077aeed81fc83de6e3508789b2e0c3cf35907b16a0e002d83", func := "satrapy/satrapylaw13.EconCuts", spec := "econCuts", inPlace := ["maps.clone"], unfollowed := true, recurses := true, plainKeys := false, apart := false }
def EconCutsSaid : Prop := econCutsRow.holds Tryz.pinned (OpenSpec.ofChange econCutsSpec)

/-- ITS FALSE NEIGHBOUR: 'it returns false'. Refute it at one input. -/
def econCutsWrong : ChangeSpec := { name := "econCuts", fn := fun _ => fun
  | [d1, d2, d3] => { results := [.lit (.bool false)], args := [d1, d2, d3] }
  | _ => none }
def EconCutsWrongFalsely : Prop := econCutsRow.holds Tryz.pinned (OpenSpec.ofChange econCutsWrong)

/-- 'satrapylaw13.EconOfNothing': WHATEVER THE INPUT: true; the input reads as it did. -/
def econOfNothingSpec : ChangeSpec := { name := "econOfNothing", fn := fun _ => fun
  | [d1, d2] => { results := [.lit (.bool true)], args := [d1, d2] }
  | _ => none }
def econOfNothingRow : OpenClaim := { program := "ytlmhakmoioogaaagreat", sum := "a63061d117f08cf077aeed81fc83de6e3508789b2e0c3cf35907b16a0e002d83", func := "satrapy/satrapylaw13.EconOfNothing", spec := "econOfNothing", inPlace := ["maps.clone"], unfollowed := true, recurses := true, plainKeys := false, apart := false }
def EconOfNothingSaid : Prop := econOfNothingRow.holds Tryz.pinned (OpenSpec.ofChange econOfNothingSpec)

/-- ITS FALSE NEIGHBOUR: 'it returns false'. Refute it at one input. -/
def econOfNothingWrong : ChangeSpec := { name := "econOfNothing", fn := fun _ => fun
  | [d1, d2] => { results := [.lit (.bool false)], args := [d1, d2] }
  | _ => none }
def EconOfNothingWrongFalsely : Prop := econOfNothingRow.holds Tryz.pinned (OpenSpec.ofChange econOfNothingWrong)

/-- 'satrapylaw13.EconDecodes': WHATEVER THE INPUT: true; the input reads as it did. -/
def econDecodesSpec : ChangeSpec := { name := "econDecodes", fn := fun _ => fun
  | [d] => { results := [.lit (.bool true)], args := [d] }
  | _ => none }
def econDecodesRow : OpenClaim := { program := "ytlmhakmoioogaaagreat", sum := "a63061d117f08cf077aeed81fc83de6e3508789b2e0c3cf35907b16a0e002d83", func := "satrapy/satrapylaw13.EconDecodes", spec := "econDecodes", unfollowed := true, recurses := true, plainKeys := false, apart := false }
def EconDecodesSaid : Prop := econDecodesRow.holds Tryz.pinned (OpenSpec.ofChange econDecodesSpec)

/-- ITS FALSE NEIGHBOUR: 'it returns false'. Refute it at one input. -/
def econDecodesWrong : ChangeSpec := { name := "econDecodes", fn := fun _ => fun
  | [d] => { results := [.lit (.bool false)], args := [d] }
  | _ => none }
def EconDecodesWrongFalsely : Prop := econDecodesRow.holds Tryz.pinned (OpenSpec.ofChange econDecodesWrong)

/-- 'satrapylaw13.EconBack': WHATEVER THE INPUT: true; the input reads as it did. -/
def econBackSpec : ChangeSpec := { name := "econBack", fn := fun _ => fun
  | [d1, d2] => { results := [.lit (.bool true)], args := [d1, d2] }
  | _ => none }
def econBackRow : OpenClaim := { program := "ytlmhakmoioogaaagreat", sum := "a63061d117f08cf077aeed81fc83de6e3508789b2e0c3cf35907b16a0e002d83", func := "satrapy/satrapylaw13.EconBack", spec := "econBack", unfollowed := true, recurses := true, plainKeys := false, apart := false }
def EconBackSaid : Prop := econBackRow.holds Tryz.pinned (OpenSpec.ofChange econBackSpec)

/-- ITS FALSE NEIGHBOUR: 'it returns false'. Refute it at one input. -/
def econBackWrong : ChangeSpec := { name := "econBack", fn := fun _ => fun
  | [d1, d2] => { results := [.lit (.bool false)], args := [d1, d2] }
  | _ => none }
def EconBackWrongFalsely : Prop := econBackRow.holds Tryz.pinned (OpenSpec.ofChange econBackWrong)

/- THE SECOND FORM. 'bulk': how many values and letters a reading holds, each counted each time it is reached (what is shared counts as often as it is met; a slice's spare places count too). A statement '..UptoSaid' is the law's where the arguments, and the package variables that the reading takes, are together of bulk at most 1048576: NARROWER than '..Said'. Prove '..Said' where nothing that the law and all that it calls make is longer than what came in: it says more and counts as full. Else prove '..UptoSaid'. A law counts once. -/
mutual
def uptoBulk {H : Type} : DataW H → Nat
  | .lit (.string bytes) => bytes.length + 1
  | .lit _ => 1
  | .nil => 1
  | .ptr d => uptoBulk d + 1
  | .slice elems spare => uptoBulkAll elems + uptoBulkAll spare + 1
  | .agg parts => uptoBulkAll parts + 1
  | .iface _ d => uptoBulk d + 1
  | .map entries => uptoBulkEntries entries + 1
  | .held _ => 1
def uptoBulkAll {H : Type} : List (DataW H) → Nat
  | [] => 0
  | d :: r => uptoBulk d + uptoBulkAll r
def uptoBulkEntries {H : Type} : List (Lit × DataW H) → Nat
  | [] => 0
  | x :: r => uptoBulkEntry x + uptoBulkEntries r
def uptoBulkEntry {H : Type} : Lit × DataW H → Nat
  | (.string bytes, d) => bytes.length + uptoBulk d + 1
  | (_, d) => uptoBulk d + 1
 end
def uptoSmall : (H : Type) → List (DataW H) → Bool := fun _ ds => decide (uptoBulkAll ds ≤ 1048576)
def OpenSpec.upto (s : _root_.Go.ChangeSpec) : _root_.Go.OpenSpec := { _root_.Go.OpenSpec.ofChange s with cond := some uptoSmall }

/-- 'satrapylaw13.EconSends', WHERE WHAT IT READS IS OF BULK AT MOST 1048576: true; the input reads as it did. -/
def econSendsUptoRow : OpenClaim := { program := "ytlmhakmoioogaaagreat", sum := "a63061d117f08cf077aeed81fc83de6e3508789b2e0c3cf35907b16a0e002d83", func := "satrapy/satrapylaw13.EconSends", spec := "econSends", unfollowed := true, recurses := true, plainKeys := false, apart := false, narrowed := true }
def EconSendsUptoSaid : Prop := econSendsUptoRow.holds Tryz.pinned (OpenSpec.upto econSendsSpec)

/-- 'satrapylaw13.EconTotal', WHERE WHAT IT READS IS OF BULK AT MOST 1048576: true; the input reads as it did. -/
def econTotalUptoRow : OpenClaim := { program := "ytlmhakmoioogaaagreat", sum := "a63061d117f08cf077aeed81fc83de6e3508789b2e0c3cf35907b16a0e002d83", func := "satrapy/satrapylaw13.EconTotal", spec := "econTotal", unfollowed := true, recurses := true, plainKeys := false, apart := false, narrowed := true }
def EconTotalUptoSaid : Prop := econTotalUptoRow.holds Tryz.pinned (OpenSpec.upto econTotalSpec)

/-- 'satrapylaw13.EconSpans', WHERE WHAT IT READS IS OF BULK AT MOST 1048576: true; the input reads as it did. -/
def econSpansUptoRow : OpenClaim := { program := "ytlmhakmoioogaaagreat", sum := "a63061d117f08cf077aeed81fc83de6e3508789b2e0c3cf35907b16a0e002d83", func := "satrapy/satrapylaw13.EconSpans", spec := "econSpans", inPlace := ["maps.clone"], unfollowed := true, recurses := true, plainKeys := false, apart := false, narrowed := true }
def EconSpansUptoSaid : Prop := econSpansUptoRow.holds Tryz.pinned (OpenSpec.upto econSpansSpec)

/-- 'satrapylaw13.EconOnce', WHERE WHAT IT READS IS OF BULK AT MOST 1048576: true; the input reads as it did. -/
def econOnceUptoRow : OpenClaim := { program := "ytlmhakmoioogaaagreat", sum := "a63061d117f08cf077aeed81fc83de6e3508789b2e0c3cf35907b16a0e002d83", func := "satrapy/satrapylaw13.EconOnce", spec := "econOnce", unfollowed := true, recurses := true, plainKeys := false, apart := false, narrowed := true }
def EconOnceUptoSaid : Prop := econOnceUptoRow.holds Tryz.pinned (OpenSpec.upto econOnceSpec)

/-- 'satrapylaw13.EconPlays', WHERE WHAT IT READS IS OF BULK AT MOST 1048576: true; the input reads as it did. -/
def econPlaysUptoRow : OpenClaim := { program := "ytlmhakmoioogaaagreat", sum := "a63061d117f08cf077aeed81fc83de6e3508789b2e0c3cf35907b16a0e002d83", func := "satrapy/satrapylaw13.EconPlays", spec := "econPlays", unfollowed := true, recurses := true, plainKeys := false, apart := false, narrowed := true }
def EconPlaysUptoSaid : Prop := econPlaysUptoRow.holds Tryz.pinned (OpenSpec.upto econPlaysSpec)

/-- 'satrapylaw13.EconJoins', WHERE WHAT IT READS IS OF BULK AT MOST 1048576: true; the input reads as it did. -/
def econJoinsUptoRow : OpenClaim := { program := "ytlmhakmoioogaaagreat", sum := "a63061d117f08cf077aeed81fc83de6e3508789b2e0c3cf35907b16a0e002d83", func := "satrapy/satrapylaw13.EconJoins", spec := "econJoins", unfollowed := true, recurses := true, plainKeys := false, apart := false, narrowed := true }
def EconJoinsUptoSaid : Prop := econJoinsUptoRow.holds Tryz.pinned (OpenSpec.upto econJoinsSpec)

/-- 'satrapylaw13.EconWhole', WHERE WHAT IT READS IS OF BULK AT MOST 1048576: true; the input reads as it did. -/
def econWholeUptoRow : OpenClaim := { program := "ytlmhakmoioogaaagreat", sum := "a63061d117f08cf077aeed81fc83de6e3508789b2e0c3cf35907b16a0e002d83", func := "satrapy/satrapylaw13.EconWhole", spec := "econWhole", inPlace := ["maps.clone"], unfollowed := true, recurses := true, plainKeys := false, apart := false, narrowed := true }
def EconWholeUptoSaid : Prop := econWholeUptoRow.holds Tryz.pinned (OpenSpec.upto econWholeSpec)

/-- 'satrapylaw13.EconCuts', WHERE WHAT IT READS IS OF BULK AT MOST 1048576: true; the input reads as it did. -/
def econCutsUptoRow : OpenClaim := { program := "ytlmhakmoioogaaagreat", sum := "a63061d117f08cf077aeed81fc83de6e3508789b2e0c3cf35907b16a0e002d83", func := "satrapy/satrapylaw13.EconCuts", spec := "econCuts", inPlace := ["maps.clone"], unfollowed := true, recurses := true, plainKeys := false, apart := false, narrowed := true }
def EconCutsUptoSaid : Prop := econCutsUptoRow.holds Tryz.pinned (OpenSpec.upto econCutsSpec)

/-- 'satrapylaw13.EconOfNothing', WHERE WHAT IT READS IS OF BULK AT MOST 1048576: true; the input reads as it did. -/
def econOfNothingUptoRow : OpenClaim := { program := "ytlmhakmoioogaaagreat", sum := "a63061d117f08cf077aeed81fc83de6e3508789b2e0c3cf35907b16a0e002d83", func := "satrapy/satrapylaw13.EconOfNothing", spec := "econOfNothing", inPlace := ["maps.clone"], unfollowed := true, recurses := true, plainKeys := false, apart := false, narrowed := true }
def EconOfNothingUptoSaid : Prop := econOfNothingUptoRow.holds Tryz.pinned (OpenSpec.upto econOfNothingSpec)

/-- 'satrapylaw13.EconDecodes', WHERE WHAT IT READS IS OF BULK AT MOST 1048576: true; the input reads as it did. -/
def econDecodesUptoRow : OpenClaim := { program := "ytlmhakmoioogaaagreat", sum := "a63061d117f08cf077aeed81fc83de6e3508789b2e0c3cf35907b16a0e002d83", func := "satrapy/satrapylaw13.EconDecodes", spec := "econDecodes", unfollowed := true, recurses := true, plainKeys := false, apart := false, narrowed := true }
def EconDecodesUptoSaid : Prop := econDecodesUptoRow.holds Tryz.pinned (OpenSpec.upto econDecodesSpec)

/-- 'satrapylaw13.EconBack', WHERE WHAT IT READS IS OF BULK AT MOST 1048576: true; the input reads as it did. -/
def econBackUptoRow : OpenClaim := { program := "ytlmhakmoioogaaagreat", sum := "a63061d117f08cf077aeed81fc83de6e3508789b2e0c3cf35907b16a0e002d83", func := "satrapy/satrapylaw13.EconBack", spec := "econBack", unfollowed := true, recurses := true, plainKeys := false, apart := false, narrowed := true }
def EconBackUptoSaid : Prop := econBackUptoRow.holds Tryz.pinned (OpenSpec.upto econBackSpec)

end Rows
end Go.Proofs.YtlmhakmoioogaaaGreat
