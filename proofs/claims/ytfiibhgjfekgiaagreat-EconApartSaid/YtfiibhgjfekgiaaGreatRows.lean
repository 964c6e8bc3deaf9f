/-
  No cell of these rows narrows 'for every input' (looked for: loops, veiled, ifaces, maps, wideKeys, modest, calm, conditions, laid).
  DERIVED. THE GIVEN ROWS OF THIS SEAT. 3 by the template 'for every input the law returns true; each argument reads behind the call as it read before'; 0 by the template 'total and deterministic' (their statements: YtfiibhgjfekgiaaGreatTotals.lean).
  GIVEN WITH THE SEED: the statements are not yours to turn. If you find one false, say at which input.
  Laid BY PROGRAM, IN A SANDBOX (cutbox-rows.mjs): the forced cells as the released guide's own fill.sh prints them over the translation 590e2f4264b18961… (all of the seat's roots in one cut). By AI agents, Wed Nov 11 2026. No macro, syntax, notation, axiom, sorry.
-/
import Derived.Test.YtfiibhgjfekgiaaGreatChecked
import GoSem.Claim
import GoSem.ClaimJoined
import GoSem.ClaimMapViews
import Derived.JoinedTies
import Derived.KernelRfl
namespace Go.Proofs.YtfiibhgjfekgiaaGreat
/- THE CELL 'sum', in the pinned program and in every row, IS THE sha256 OF THE DUMP (.gsa) THAT YtfiibhgjfekgiaaGreatProg.lean LOADS. Nothing in Lean hashes anything: it is a label: what it is worth is what the hold of that sum in a sandbox is worth. -/
noncomputable def Tryz.pinned : Pinned := { name := "ytfiibhgjfekgiaagreat", sum := "590e2f4264b18961f67166402182c9f33f308d6d534a0f899e0a47906a2a4eb0", checked := Tryz.checked }
namespace Rows
def none {H : Type} : Left H := { results := [], args := [] }

/-- 'satrapylaw13.EconOld': WHATEVER THE INPUT: true; the input reads as it did. -/
def econOldSpec : ChangeSpec := { name := "econOld", fn := fun _ => fun
  | [d1, d2, d3] => { results := [.lit (.bool true)], args := [d1, d2, d3] }
  | _ => none }
def econOldRow : OpenClaim := { program := "ytfiibhgjfekgiaagreat", sum := "590e2f4264b18961f67166402182c9f33f308d6d534a0f899e0a47906a2a4eb0", func := "satrapy/satrapylaw13.EconOld", spec := "econOld", unfollowed := true, recurses := true, plainKeys := false, apart := false }
def EconOldSaid : Prop := econOldRow.holds Tryz.pinned (OpenSpec.ofChange econOldSpec)

/-- ITS FALSE NEIGHBOUR: 'it returns false'. Refute it at one input. -/
def econOldWrong : ChangeSpec := { name := "econOld", fn := fun _ => fun
  | [d1, d2, d3] => { results := [.lit (.bool false)], args := [d1, d2, d3] }
  | _ => none }
def EconOldWrongFalsely : Prop := econOldRow.holds Tryz.pinned (OpenSpec.ofChange econOldWrong)

/-- 'satrapylaw13.EconApart': WHATEVER THE INPUT: true; the input reads as it did. -/
def econApartSpec : ChangeSpec := { name := "econApart", fn := fun _ => fun
  | [d1, d2] => { results := [.lit (.bool true)], args := [d1, d2] }
  | _ => none }
def econApartRow : OpenClaim := { program := "ytfiibhgjfekgiaagreat", sum := "590e2f4264b18961f67166402182c9f33f308d6d534a0f899e0a47906a2a4eb0", func := "satrapy/satrapylaw13.EconApart", spec := "econApart", unfollowed := true, recurses := true, plainKeys := false, apart := false }
def EconApartSaid : Prop := econApartRow.holds Tryz.pinned (OpenSpec.ofChange econApartSpec)

/-- ITS FALSE NEIGHBOUR: 'it returns false'. Refute it at one input. -/
def econApartWrong : ChangeSpec := { name := "econApart", fn := fun _ => fun
  | [d1, d2] => { results := [.lit (.bool false)], args := [d1, d2] }
  | _ => none }
def EconApartWrongFalsely : Prop := econApartRow.holds Tryz.pinned (OpenSpec.ofChange econApartWrong)

/-- 'satrapylaw13.EconSends': WHATEVER THE INPUT: true; the input reads as it did. -/
def econSendsSpec : ChangeSpec := { name := "econSends", fn := fun _ => fun
  | [d1, d2, d3] => { results := [.lit (.bool true)], args := [d1, d2, d3] }
  | _ => none }
def econSendsRow : OpenClaim := { program := "ytfiibhgjfekgiaagreat", sum := "590e2f4264b18961f67166402182c9f33f308d6d534a0f899e0a47906a2a4eb0", func := "satrapy/satrapylaw13.EconSends", spec := "econSends", unfollowed := true, recurses := true, plainKeys := false, apart := false }
def EconSendsSaid : Prop := econSendsRow.holds Tryz.pinned (OpenSpec.ofChange econSendsSpec)

/-- ITS FALSE NEIGHBOUR: 'it returns false'. Refute it at one input. -/
def econSendsWrong : ChangeSpec := { name := "econSends", fn := fun _ => fun
  | [d1, d2, d3] => { results := [.lit (.bool false)], args := [d1, d2, d3] }
  | _ => none }
def EconSendsWrongFalsely : Prop := econSendsRow.holds Tryz.pinned (OpenSpec.ofChange econSendsWrong)

/- THE SECOND FORM. 'bulk': how many values and letters a reading holds, each counted each time it is reached (what is shared counts as often as it is met; a slice's spare places count too). A statement '..UptoSaid' is the law's where the arguments, and the package variables that the reading takes, are together of bulk at most 1048576: NARROWER than '..Said'. Prove '..Said' where nothing that the law and all that it calls make is longer than what came in: it says more and counts as full. Else prove '..UptoSaid'. A law counts once. -/
mutual
def uptoBulk {H : Type} : DataW H → Nat
  | .lit (.string bytes) => bytes.length + 1
  | .lit _ => 1
  | .nil => 1
  | .ptr d => uptoBulk d + 1
  | .slice elems spare => uptoBulkAll elems + uptoBulkAll spare + 1
  | .agg parts => uptoBulkAll parts + 1
  | .iface _ d => uptoBulk d + 1
  | .map entries => uptoBulkEntries entries + 1
  | .held _ => 1
def uptoBulkAll {H : Type} : List (DataW H) → Nat
  | [] => 0
  | d :: r => uptoBulk d + uptoBulkAll r
def uptoBulkEntries {H : Type} : List (Lit × DataW H) → Nat
  | [] => 0
  | x :: r => uptoBulkEntry x + uptoBulkEntries r
def uptoBulkEntry {H : Type} : Lit × DataW H → Nat
  | (.string bytes, d) => bytes.length + uptoBulk d + 1
  | (_, d) => uptoBulk d + 1
 end
def uptoSmall : (H : Type) → List (DataW H) → Bool := fun _ ds => decide (uptoBulkAll ds ≤ 1048576)
def OpenSpec.upto (s : _root_.Go.ChangeSpec) : _root_.Go.OpenSpec := { _root_.Go.OpenSpec.ofChange s with cond := some uptoSmall }

/-- 'satrapylaw13.EconOld', WHERE WHAT IT READS IS OF BULK AT MOST 1048576: true; the input reads as it did. -/
def econOldUptoRow : OpenClaim := { program := "ytfiibhgjfekgiaagreat", sum := "590e2f4264b18961f67166402182c9f33f308d6d534a0f899e0a47906a2a4eb0", func := "satrapy/satrapylaw13.EconOld", spec := "econOld", unfollowed := true, recurses := true, plainKeys := false, apart := false, narrowed := true }
def EconOldUptoSaid : Prop := econOldUptoRow.holds Tryz.pinned (OpenSpec.upto econOldSpec)

/-- 'satrapylaw13.EconApart', WHERE WHAT IT READS IS OF BULK AT MOST 1048576: true; the input reads as it did. -/
def econApartUptoRow : OpenClaim := { program := "ytfiibhgjfekgiaagreat", sum := "590e2f4264b18961f67166402182c9f33f308d6d534a0f899e0a47906a2a4eb0", func := "satrapy/satrapylaw13.EconApart", spec := "econApart", unfollowed := true, recurses := true, plainKeys := false, apart := false, narrowed := true }
def EconApartUptoSaid : Prop := econApartUptoRow.holds Tryz.pinned (OpenSpec.upto econApartSpec)

/-- 'satrapylaw13.EconSends', WHERE WHAT IT READS IS OF BULK AT MOST 1048576: true; the input reads as it did. -/
def econSendsUptoRow : OpenClaim := { program := "ytfiibhgjfekgiaagreat", sum := "590e2f4264b18961f67166402182c9f33f308d6d534a0f899e0a47906a2a4eb0", func := "satrapy/satrapylaw13.EconSends", spec := "econSends", unfollowed := true, recurses := true, plainKeys := false, apart := false, narrowed := true }
def EconSendsUptoSaid : Prop := econSendsUptoRow.holds Tryz.pinned (OpenSpec.upto econSendsSpec)

end Rows
end Go.Proofs.YtfiibhgjfekgiaaGreat
