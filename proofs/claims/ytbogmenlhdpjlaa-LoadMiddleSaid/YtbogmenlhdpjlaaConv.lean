/-
  A string out of bytes: the walk's rule. Over any program.
-/
import Derived.Test.YtbogmenlhdpjlaaSlw
import Derived.Laws.BytesString
set_option linter.unusedSimpArgs false
set_option linter.unusedVariables false
namespace Go.Sl
open Go.RowKit
def bstr (ns : List Int) : ByteArray := ns.foldl (fun r n => r.push (UInt8.ofNat n.toNat)) ByteArray.empty
section
variable {P : Program} {ops : Array Oper} {Q : Exit → Act → World → Prop} {a : Act} {w : World} {W : World} {L : List HP} {rest : List Oper} {o : Oper}
theorem wl_bytesStr {src dst e : TypeId} {x : Operand} {b off n c : Nat} {ns : List Int} (hS : St W L w) (ho : o.op = .convert src dst x) (hg : Region.wanted o (yielded ops a.tmps) = true) (hx : a.eval x = .slice (some ⟨b, off, none⟩) n c)
    (hs : P.underlying src = some (.slice e)) (he : P.underlying e = some (.int .u8)) (hd : P.underlying dst = some .string) (hc : Cells L b off (ns.map (Value.int .u8))) (hn : n = ns.length)
    (h : wpList P ops Q rest (a.put o.dst (.string (bstr ns))) w) : wpList P ops Q (o :: rest) a w := by
  refine wpList_run hg (v := .string (bstr ns)) (w' := w) ?_ h
  have h1 := run_loadCells_list (P := P) w ⟨b, off, none⟩ (ns.map (Value.int .u8)) (fun j v hj => by rw [Addr.add_lit]; exact hc j v hj W w hS)
  rw [List.length_map, ← hn] at h1
  have h2 := run_bytesToString (P := P) w ⟨b, off, none⟩ n c ns h1
  unfold execOp
  simp [ho, hx, run_convert_bytes_string w src dst e (some ⟨b, off, none⟩) n c hs he hd, h2, bstr]
end
end Go.Sl
