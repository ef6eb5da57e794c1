/-
  No cell of these rows narrows 'for every input' (looked for: loops, veiled, ifaces, maps, wideKeys, modest, calm, conditions, laid).
  DERIVED. THE GIVEN ROWS OF THIS SEAT. 3 by the template 'for every input the law returns true; each argument reads behind the call as it read before'; 0 by the template 'total and deterministic' (their statements: YtbchneelmiflaaaTotals.lean).
  GIVEN WITH THE SEED: the statements are not yours to turn. If you find one false, say at which input.
  Laid BY PROGRAM, IN A SANDBOX (cutbox-rows.mjs): the forced cells as the released guide's own fill.sh prints them over the translation 3bd422d2e8d6f187… (all of the seat's roots in one cut). By AI agents, Wed Nov 11 2026. No macro, syntax, notation, axiom, sorry.
-/
import Derived.Test.YtbchneelmiflaaaChecked
import GoSem.Claim
import GoSem.ClaimJoined
import GoSem.ClaimMapViews
import Derived.JoinedTies
import Derived.KernelRfl
namespace Go.Proofs.Ytbchneelmiflaaa
/- THE CELL 'sum', in the pinned program and in every row, IS THE sha256 OF THE DUMP (.gsa) THAT YtbchneelmiflaaaProg.lean LOADS. Nothing in Lean hashes anything: it is a label: what it is worth is what the hold of that sum in a sandbox is worth. -/
noncomputable def Try.pinned : Pinned := { name := "ytbchneelmiflaaa", sum := "3bd422d2e8d6f18751148b1f9099599b697a897f1dc15d98ab2343928b8e9974", checked := Try.checked }
namespace Rows
def none {H : Type} : Left H := { results := [], args := [] }

/-- 'barbicanlaw10.ExecLong': WHATEVER THE INPUT: true; the input reads as it did. -/
def execLongSpec : ChangeSpec := { name := "execLong", fn := fun _ => fun
  | [d1, d2, d3] => { results := [.lit (.bool true)], args := [d1, d2, d3] }
  | _ => none }
def execLongRow : OpenClaim := { program := "ytbchneelmiflaaa", sum := "3bd422d2e8d6f18751148b1f9099599b697a897f1dc15d98ab2343928b8e9974", func := "barbican/barbicanlaw10.ExecLong", spec := "execLong", unfollowed := true, recurses := true, apart := false }
def ExecLongSaid : Prop := execLongRow.holds Try.pinned (OpenSpec.ofChange execLongSpec)

/-- ITS FALSE NEIGHBOUR: 'it returns false'. Refute it at one input. -/
def execLongWrong : ChangeSpec := { name := "execLong", fn := fun _ => fun
  | [d1, d2, d3] => { results := [.lit (.bool false)], args := [d1, d2, d3] }
  | _ => none }
def ExecLongWrongFalsely : Prop := execLongRow.holds Try.pinned (OpenSpec.ofChange execLongWrong)

/-- 'barbicanlaw10.ExecEnds': WHATEVER THE INPUT: true; the input reads as it did. -/
def execEndsSpec : ChangeSpec := { name := "execEnds", fn := fun _ => fun
  | [d1, d2] => { results := [.lit (.bool true)], args := [d1, d2] }
  | _ => none }
def execEndsRow : OpenClaim := { program := "ytbchneelmiflaaa", sum := "3bd422d2e8d6f18751148b1f9099599b697a897f1dc15d98ab2343928b8e9974", func := "barbican/barbicanlaw10.ExecEnds", spec := "execEnds", unfollowed := true, recurses := true, apart := false }
def ExecEndsSaid : Prop := execEndsRow.holds Try.pinned (OpenSpec.ofChange execEndsSpec)

/-- ITS FALSE NEIGHBOUR: 'it returns false'. Refute it at one input. -/
def execEndsWrong : ChangeSpec := { name := "execEnds", fn := fun _ => fun
  | [d1, d2] => { results := [.lit (.bool false)], args := [d1, d2] }
  | _ => none }
def ExecEndsWrongFalsely : Prop := execEndsRow.holds Try.pinned (OpenSpec.ofChange execEndsWrong)

/-- 'barbicanlaw10.ExecUnder': WHATEVER THE INPUT: true; the input reads as it did. -/
def execUnderSpec : ChangeSpec := { name := "execUnder", fn := fun _ => fun
  | [d1, d2, d3] => { results := [.lit (.bool true)], args := [d1, d2, d3] }
  | _ => none }
def execUnderRow : OpenClaim := { program := "ytbchneelmiflaaa", sum := "3bd422d2e8d6f18751148b1f9099599b697a897f1dc15d98ab2343928b8e9974", func := "barbican/barbicanlaw10.ExecUnder", spec := "execUnder", unfollowed := true, recurses := true, apart := false }
def ExecUnderSaid : Prop := execUnderRow.holds Try.pinned (OpenSpec.ofChange execUnderSpec)

/-- ITS FALSE NEIGHBOUR: 'it returns false'. Refute it at one input. -/
def execUnderWrong : ChangeSpec := { name := "execUnder", fn := fun _ => fun
  | [d1, d2, d3] => { results := [.lit (.bool false)], args := [d1, d2, d3] }
  | _ => none }
def ExecUnderWrongFalsely : Prop := execUnderRow.holds Try.pinned (OpenSpec.ofChange execUnderWrong)

/- THE SECOND FORM. 'bulk': how many values and letters a reading holds, each counted each time it is reached (what is shared counts as often as it is met; a slice's spare places count too). A statement '..UptoSaid' is the law's where the arguments, and the package variables that the reading takes, are together of bulk at most 1048576: NARROWER than '..Said'. Prove '..Said' where nothing that the law and all that it calls make is longer than what came in: it says more and counts as full. Else prove '..UptoSaid'. A law counts once. -/
mutual
def uptoBulk {H : Type} : DataW H → Nat
  | .lit (.string bytes) => bytes.length + 1
  | .lit _ => 1
  | .nil => 1
  | .ptr d => uptoBulk d + 1
  | .slice elems spare => uptoBulkAll elems + uptoBulkAll spare + 1
  | .agg parts => uptoBulkAll parts + 1
  | .iface _ d => uptoBulk d + 1
  | .map entries => uptoBulkEntries entries + 1
  | .held _ => 1
def uptoBulkAll {H : Type} : List (DataW H) → Nat
  | [] => 0
  | d :: r => uptoBulk d + uptoBulkAll r
def uptoBulkEntries {H : Type} : List (Lit × DataW H) → Nat
  | [] => 0
  | x :: r => uptoBulkEntry x + uptoBulkEntries r
def uptoBulkEntry {H : Type} : Lit × DataW H → Nat
  | (.string bytes, d) => bytes.length + uptoBulk d + 1
  | (_, d) => uptoBulk d + 1
 end
def uptoSmall : (H : Type) → List (DataW H) → Bool := fun _ ds => decide (uptoBulkAll ds ≤ 1048576)
def OpenSpec.upto (s : _root_.Go.ChangeSpec) : _root_.Go.OpenSpec := { _root_.Go.OpenSpec.ofChange s with cond := some uptoSmall }

/-- 'barbicanlaw10.ExecLong', WHERE WHAT IT READS IS OF BULK AT MOST 1048576: true; the input reads as it did. -/
def execLongUptoRow : OpenClaim := { program := "ytbchneelmiflaaa", sum := "3bd422d2e8d6f18751148b1f9099599b697a897f1dc15d98ab2343928b8e9974", func := "barbican/barbicanlaw10.ExecLong", spec := "execLong", unfollowed := true, recurses := true, apart := false, narrowed := true }
def ExecLongUptoSaid : Prop := execLongUptoRow.holds Try.pinned (OpenSpec.upto execLongSpec)

/-- 'barbicanlaw10.ExecEnds', WHERE WHAT IT READS IS OF BULK AT MOST 1048576: true; the input reads as it did. -/
def execEndsUptoRow : OpenClaim := { program := "ytbchneelmiflaaa", sum := "3bd422d2e8d6f18751148b1f9099599b697a897f1dc15d98ab2343928b8e9974", func := "barbican/barbicanlaw10.ExecEnds", spec := "execEnds", unfollowed := true, recurses := true, apart := false, narrowed := true }
def ExecEndsUptoSaid : Prop := execEndsUptoRow.holds Try.pinned (OpenSpec.upto execEndsSpec)

/-- 'barbicanlaw10.ExecUnder', WHERE WHAT IT READS IS OF BULK AT MOST 1048576: true; the input reads as it did. -/
def execUnderUptoRow : OpenClaim := { program := "ytbchneelmiflaaa", sum := "3bd422d2e8d6f18751148b1f9099599b697a897f1dc15d98ab2343928b8e9974", func := "barbican/barbicanlaw10.ExecUnder", spec := "execUnder", unfollowed := true, recurses := true, apart := false, narrowed := true }
def ExecUnderUptoSaid : Prop := execUnderUptoRow.holds Try.pinned (OpenSpec.upto execUnderSpec)

end Rows
end Go.Proofs.Ytbchneelmiflaaa
