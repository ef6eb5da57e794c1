/-
  No cell of these rows narrows 'for every input' (looked for: loops, veiled, ifaces, maps, wideKeys, modest, calm, conditions, laid).
  DERIVED. THE GIVEN ROWS OF THIS SEAT. 9 by the template 'for every input the law returns true; each argument reads behind the call as it read before'; 0 by the template 'total and deterministic' (their statements: YtdlmkfnjljlmgaaTotals.lean).
  GIVEN WITH THE SEED: the statements are not yours to turn. If you find one false, say at which input.
  Laid BY PROGRAM, IN A SANDBOX (cutbox-rows.mjs): the forced cells as the released guide's own fill.sh prints them over the translation e1eb3f78b82e040f… (all of the seat's roots in one cut). By AI agents, Wed Nov 11 2026. No macro, syntax, notation, axiom, sorry.
-/
import Derived.Test.YtdlmkfnjljlmgaaChecked
import GoSem.Claim
import GoSem.ClaimJoined
import GoSem.ClaimMapViews
import Derived.JoinedTies
import Derived.KernelRfl
namespace Go.Proofs.Ytdlmkfnjljlmgaa
/- THE CELL 'sum', in the pinned program and in every row, IS THE sha256 OF THE DUMP (.gsa) THAT YtdlmkfnjljlmgaaProg.lean LOADS. Nothing in Lean hashes anything: it is a label: what it is worth is what the hold of that sum in a sandbox is worth. -/
noncomputable def Try.pinned : Pinned := { name := "ytdlmkfnjljlmgaa", sum := "e1eb3f78b82e040fadd40f5f19b7368ed758c6ad75da5a65729ee42b4dc0aff8", checked := Try.checked }
namespace Rows
def none {H : Type} : Left H := { results := [], args := [] }

/-- 'barbicanlaw06.InsRight': WHATEVER THE INPUT: true; the input reads as it did. -/
def insRightSpec : ChangeSpec := { name := "insRight", fn := fun _ => fun
  | [d1, d2] => { results := [.lit (.bool true)], args := [d1, d2] }
  | _ => none }
def insRightRow : OpenClaim := { program := "ytdlmkfnjljlmgaa", sum := "e1eb3f78b82e040fadd40f5f19b7368ed758c6ad75da5a65729ee42b4dc0aff8", func := "barbican/barbicanlaw06.InsRight", spec := "insRight", recurses := true, apart := false }
def InsRightSaid : Prop := insRightRow.holds Try.pinned (OpenSpec.ofChange insRightSpec)

/-- ITS FALSE NEIGHBOUR: 'it returns false'. Refute it at one input. -/
def insRightWrong : ChangeSpec := { name := "insRight", fn := fun _ => fun
  | [d1, d2] => { results := [.lit (.bool false)], args := [d1, d2] }
  | _ => none }
def InsRightWrongFalsely : Prop := insRightRow.holds Try.pinned (OpenSpec.ofChange insRightWrong)

/-- 'barbicanlaw06.InsBytes': WHATEVER THE INPUT: true; the input reads as it did. -/
def insBytesSpec : ChangeSpec := { name := "insBytes", fn := fun _ => fun
  | [d1, d2] => { results := [.lit (.bool true)], args := [d1, d2] }
  | _ => none }
def insBytesRow : OpenClaim := { program := "ytdlmkfnjljlmgaa", sum := "e1eb3f78b82e040fadd40f5f19b7368ed758c6ad75da5a65729ee42b4dc0aff8", func := "barbican/barbicanlaw06.InsBytes", spec := "insBytes", recurses := true, apart := false }
def InsBytesSaid : Prop := insBytesRow.holds Try.pinned (OpenSpec.ofChange insBytesSpec)

/-- ITS FALSE NEIGHBOUR: 'it returns false'. Refute it at one input. -/
def insBytesWrong : ChangeSpec := { name := "insBytes", fn := fun _ => fun
  | [d1, d2] => { results := [.lit (.bool false)], args := [d1, d2] }
  | _ => none }
def InsBytesWrongFalsely : Prop := insBytesRow.holds Try.pinned (OpenSpec.ofChange insBytesWrong)

/-- 'barbicanlaw06.InsLong': WHATEVER THE INPUT: true; the input reads as it did. -/
def insLongSpec : ChangeSpec := { name := "insLong", fn := fun _ => fun
  | [d1, d2] => { results := [.lit (.bool true)], args := [d1, d2] }
  | _ => none }
def insLongRow : OpenClaim := { program := "ytdlmkfnjljlmgaa", sum := "e1eb3f78b82e040fadd40f5f19b7368ed758c6ad75da5a65729ee42b4dc0aff8", func := "barbican/barbicanlaw06.InsLong", spec := "insLong", recurses := true, apart := false }
def InsLongSaid : Prop := insLongRow.holds Try.pinned (OpenSpec.ofChange insLongSpec)

/-- ITS FALSE NEIGHBOUR: 'it returns false'. Refute it at one input. -/
def insLongWrong : ChangeSpec := { name := "insLong", fn := fun _ => fun
  | [d1, d2] => { results := [.lit (.bool false)], args := [d1, d2] }
  | _ => none }
def InsLongWrongFalsely : Prop := insLongRow.holds Try.pinned (OpenSpec.ofChange insLongWrong)

/-- 'barbicanlaw06.InsBack': WHATEVER THE INPUT: true; the input reads as it did. -/
def insBackSpec : ChangeSpec := { name := "insBack", fn := fun _ => fun
  | [d1, d2, d3] => { results := [.lit (.bool true)], args := [d1, d2, d3] }
  | _ => none }
def insBackRow : OpenClaim := { program := "ytdlmkfnjljlmgaa", sum := "e1eb3f78b82e040fadd40f5f19b7368ed758c6ad75da5a65729ee42b4dc0aff8", func := "barbican/barbicanlaw06.InsBack", spec := "insBack", recurses := true, apart := false }
def InsBackSaid : Prop := insBackRow.holds Try.pinned (OpenSpec.ofChange insBackSpec)

/-- ITS FALSE NEIGHBOUR: 'it returns false'. Refute it at one input. -/
def insBackWrong : ChangeSpec := { name := "insBack", fn := fun _ => fun
  | [d1, d2, d3] => { results := [.lit (.bool false)], args := [d1, d2, d3] }
  | _ => none }
def InsBackWrongFalsely : Prop := insBackRow.holds Try.pinned (OpenSpec.ofChange insBackWrong)

/-- 'barbicanlaw06.InsEach': WHATEVER THE INPUT: true; the input reads as it did. -/
def insEachSpec : ChangeSpec := { name := "insEach", fn := fun _ => fun
  | [] => { results := [.lit (.bool true)], args := [] }
  | _ => none }
def insEachRow : OpenClaim := { program := "ytdlmkfnjljlmgaa", sum := "e1eb3f78b82e040fadd40f5f19b7368ed758c6ad75da5a65729ee42b4dc0aff8", func := "barbican/barbicanlaw06.InsEach", spec := "insEach", recurses := true, apart := false }
def InsEachSaid : Prop := insEachRow.holds Try.pinned (OpenSpec.ofChange insEachSpec)

/-- ITS FALSE NEIGHBOUR: 'it returns false'. Refute it at one input. -/
def insEachWrong : ChangeSpec := { name := "insEach", fn := fun _ => fun
  | [] => { results := [.lit (.bool false)], args := [] }
  | _ => none }
def InsEachWrongFalsely : Prop := insEachRow.holds Try.pinned (OpenSpec.ofChange insEachWrong)

/-- 'barbicanlaw08.FormChecks': WHATEVER THE INPUT: true; the input reads as it did. -/
def formChecksSpec : ChangeSpec := { name := "formChecks", fn := fun _ => fun
  | [d] => { results := [.lit (.bool true)], args := [d] }
  | _ => none }
def formChecksRow : OpenClaim := { program := "ytdlmkfnjljlmgaa", sum := "e1eb3f78b82e040fadd40f5f19b7368ed758c6ad75da5a65729ee42b4dc0aff8", func := "barbican/barbicanlaw08.FormChecks", spec := "formChecks", unfollowed := true, recurses := true, apart := false }
def FormChecksSaid : Prop := formChecksRow.holds Try.pinned (OpenSpec.ofChange formChecksSpec)

/-- ITS FALSE NEIGHBOUR: 'it returns false'. Refute it at one input. -/
def formChecksWrong : ChangeSpec := { name := "formChecks", fn := fun _ => fun
  | [d] => { results := [.lit (.bool false)], args := [d] }
  | _ => none }
def FormChecksWrongFalsely : Prop := formChecksRow.holds Try.pinned (OpenSpec.ofChange formChecksWrong)

/-- 'barbicanlaw08.FormLong': WHATEVER THE INPUT: true; the input reads as it did. -/
def formLongSpec : ChangeSpec := { name := "formLong", fn := fun _ => fun
  | [d1, d2] => { results := [.lit (.bool true)], args := [d1, d2] }
  | _ => none }
def formLongRow : OpenClaim := { program := "ytdlmkfnjljlmgaa", sum := "e1eb3f78b82e040fadd40f5f19b7368ed758c6ad75da5a65729ee42b4dc0aff8", func := "barbican/barbicanlaw08.FormLong", spec := "formLong", unfollowed := true, recurses := true, apart := false }
def FormLongSaid : Prop := formLongRow.holds Try.pinned (OpenSpec.ofChange formLongSpec)

/-- ITS FALSE NEIGHBOUR: 'it returns false'. Refute it at one input. -/
def formLongWrong : ChangeSpec := { name := "formLong", fn := fun _ => fun
  | [d1, d2] => { results := [.lit (.bool false)], args := [d1, d2] }
  | _ => none }
def FormLongWrongFalsely : Prop := formLongRow.holds Try.pinned (OpenSpec.ofChange formLongWrong)

/-- 'barbicanlaw08.FormEnds': WHATEVER THE INPUT: true; the input reads as it did. -/
def formEndsSpec : ChangeSpec := { name := "formEnds", fn := fun _ => fun
  | [d1, d2, d3] => { results := [.lit (.bool true)], args := [d1, d2, d3] }
  | _ => none }
def formEndsRow : OpenClaim := { program := "ytdlmkfnjljlmgaa", sum := "e1eb3f78b82e040fadd40f5f19b7368ed758c6ad75da5a65729ee42b4dc0aff8", func := "barbican/barbicanlaw08.FormEnds", spec := "formEnds", unfollowed := true, recurses := true, apart := false }
def FormEndsSaid : Prop := formEndsRow.holds Try.pinned (OpenSpec.ofChange formEndsSpec)

/-- ITS FALSE NEIGHBOUR: 'it returns false'. Refute it at one input. -/
def formEndsWrong : ChangeSpec := { name := "formEnds", fn := fun _ => fun
  | [d1, d2, d3] => { results := [.lit (.bool false)], args := [d1, d2, d3] }
  | _ => none }
def FormEndsWrongFalsely : Prop := formEndsRow.holds Try.pinned (OpenSpec.ofChange formEndsWrong)

/-- 'barbicanlaw08.FormCut': WHATEVER THE INPUT: true; the input reads as it did. -/
def formCutSpec : ChangeSpec := { name := "formCut", fn := fun _ => fun
  | [d1, d2] => { results := [.lit (.bool true)], args := [d1, d2] }
  | _ => none }
def formCutRow : OpenClaim := { program := "ytdlmkfnjljlmgaa", sum := "e1eb3f78b82e040fadd40f5f19b7368ed758c6ad75da5a65729ee42b4dc0aff8", func := "barbican/barbicanlaw08.FormCut", spec := "formCut", unfollowed := true, recurses := true, apart := false }
def FormCutSaid : Prop := formCutRow.holds Try.pinned (OpenSpec.ofChange formCutSpec)

/-- ITS FALSE NEIGHBOUR: 'it returns false'. Refute it at one input. -/
def formCutWrong : ChangeSpec := { name := "formCut", fn := fun _ => fun
  | [d1, d2] => { results := [.lit (.bool false)], args := [d1, d2] }
  | _ => none }
def FormCutWrongFalsely : Prop := formCutRow.holds Try.pinned (OpenSpec.ofChange formCutWrong)

/- THE SECOND FORM. 'bulk': how many values and letters a reading holds, each counted each time it is reached (what is shared counts as often as it is met; a slice's spare places count too). A statement '..UptoSaid' is the law's where the arguments, and the package variables that the reading takes, are together of bulk at most 1048576: NARROWER than '..Said'. Prove '..Said' where nothing that the law and all that it calls make is longer than what came in: it says more and counts as full. Else prove '..UptoSaid'. A law counts once. -/
mutual
def uptoBulk {H : Type} : DataW H → Nat
  | .lit (.string bytes) => bytes.length + 1
  | .lit _ => 1
  | .nil => 1
  | .ptr d => uptoBulk d + 1
  | .slice elems spare => uptoBulkAll elems + uptoBulkAll spare + 1
  | .agg parts => uptoBulkAll parts + 1
  | .iface _ d => uptoBulk d + 1
  | .map entries => uptoBulkEntries entries + 1
  | .held _ => 1
def uptoBulkAll {H : Type} : List (DataW H) → Nat
  | [] => 0
  | d :: r => uptoBulk d + uptoBulkAll r
def uptoBulkEntries {H : Type} : List (Lit × DataW H) → Nat
  | [] => 0
  | x :: r => uptoBulkEntry x + uptoBulkEntries r
def uptoBulkEntry {H : Type} : Lit × DataW H → Nat
  | (.string bytes, d) => bytes.length + uptoBulk d + 1
  | (_, d) => uptoBulk d + 1
 end
def uptoSmall : (H : Type) → List (DataW H) → Bool := fun _ ds => decide (uptoBulkAll ds ≤ 1048576)
def OpenSpec.upto (s : _root_.Go.ChangeSpec) : _root_.Go.OpenSpec := { _root_.Go.OpenSpec.ofChange s with cond := some uptoSmall }

/-- 'barbicanlaw06.InsRight', WHERE WHAT IT READS IS OF BULK AT MOST 1048576: true; the input reads as it did. -/
def insRightUptoRow : OpenClaim := { program := "ytdlmkfnjljlmgaa", sum := "e1eb3f78b82e040fadd40f5f19b7368ed758c6ad75da5a65729ee42b4dc0aff8", func := "barbican/barbicanlaw06.InsRight", spec := "insRight", recurses := true, apart := false, narrowed := true }
def InsRightUptoSaid : Prop := insRightUptoRow.holds Try.pinned (OpenSpec.upto insRightSpec)

/-- 'barbicanlaw06.InsBytes', WHERE WHAT IT READS IS OF BULK AT MOST 1048576: true; the input reads as it did. -/
def insBytesUptoRow : OpenClaim := { program := "ytdlmkfnjljlmgaa", sum := "e1eb3f78b82e040fadd40f5f19b7368ed758c6ad75da5a65729ee42b4dc0aff8", func := "barbican/barbicanlaw06.InsBytes", spec := "insBytes", recurses := true, apart := false, narrowed := true }
def InsBytesUptoSaid : Prop := insBytesUptoRow.holds Try.pinned (OpenSpec.upto insBytesSpec)

/-- 'barbicanlaw06.InsLong', WHERE WHAT IT READS IS OF BULK AT MOST 1048576: true; the input reads as it did. -/
def insLongUptoRow : OpenClaim := { program := "ytdlmkfnjljlmgaa", sum := "e1eb3f78b82e040fadd40f5f19b7368ed758c6ad75da5a65729ee42b4dc0aff8", func := "barbican/barbicanlaw06.InsLong", spec := "insLong", recurses := true, apart := false, narrowed := true }
def InsLongUptoSaid : Prop := insLongUptoRow.holds Try.pinned (OpenSpec.upto insLongSpec)

/-- 'barbicanlaw06.InsBack', WHERE WHAT IT READS IS OF BULK AT MOST 1048576: true; the input reads as it did. -/
def insBackUptoRow : OpenClaim := { program := "ytdlmkfnjljlmgaa", sum := "e1eb3f78b82e040fadd40f5f19b7368ed758c6ad75da5a65729ee42b4dc0aff8", func := "barbican/barbicanlaw06.InsBack", spec := "insBack", recurses := true, apart := false, narrowed := true }
def InsBackUptoSaid : Prop := insBackUptoRow.holds Try.pinned (OpenSpec.upto insBackSpec)

/-- 'barbicanlaw06.InsEach', WHERE WHAT IT READS IS OF BULK AT MOST 1048576: true; the input reads as it did. -/
def insEachUptoRow : OpenClaim := { program := "ytdlmkfnjljlmgaa", sum := "e1eb3f78b82e040fadd40f5f19b7368ed758c6ad75da5a65729ee42b4dc0aff8", func := "barbican/barbicanlaw06.InsEach", spec := "insEach", recurses := true, apart := false, narrowed := true }
def InsEachUptoSaid : Prop := insEachUptoRow.holds Try.pinned (OpenSpec.upto insEachSpec)

/-- 'barbicanlaw08.FormChecks', WHERE WHAT IT READS IS OF BULK AT MOST 1048576: true; the input reads as it did. -/
def formChecksUptoRow : OpenClaim := { program := "ytdlmkfnjljlmgaa", sum := "e1eb3f78b82e040fadd40f5f19b7368ed758c6ad75da5a65729ee42b4dc0aff8", func := "barbican/barbicanlaw08.FormChecks", spec := "formChecks", unfollowed := true, recurses := true, apart := false, narrowed := true }
def FormChecksUptoSaid : Prop := formChecksUptoRow.holds Try.pinned (OpenSpec.upto formChecksSpec)

/-- 'barbicanlaw08.FormLong', WHERE WHAT IT READS IS OF BULK AT MOST 1048576: true; the input reads as it did. -/
def formLongUptoRow : OpenClaim := { program := "ytdlmkfnjljlmgaa", sum := "e1eb3f78b82e040fadd40f5f19b7368ed758c6ad75da5a65729ee42b4dc0aff8", func := "barbican/barbicanlaw08.FormLong", spec := "formLong", unfollowed := true, recurses := true, apart := false, narrowed := true }
def FormLongUptoSaid : Prop := formLongUptoRow.holds Try.pinned (OpenSpec.upto formLongSpec)

/-- 'barbicanlaw08.FormEnds', WHERE WHAT IT READS IS OF BULK AT MOST 1048576: true; the input reads as it did. -/
def formEndsUptoRow : OpenClaim := { program := "ytdlmkfnjljlmgaa", sum := "e1eb3f78b82e040fadd40f5f19b7368ed758c6ad75da5a65729ee42b4dc0aff8", func := "barbican/barbicanlaw08.FormEnds", spec := "formEnds", unfollowed := true, recurses := true, apart := false, narrowed := true }
def FormEndsUptoSaid : Prop := formEndsUptoRow.holds Try.pinned (OpenSpec.upto formEndsSpec)

/-- 'barbicanlaw08.FormCut', WHERE WHAT IT READS IS OF BULK AT MOST 1048576: true; the input reads as it did. -/
def formCutUptoRow : OpenClaim := { program := "ytdlmkfnjljlmgaa", sum := "e1eb3f78b82e040fadd40f5f19b7368ed758c6ad75da5a65729ee42b4dc0aff8", func := "barbican/barbicanlaw08.FormCut", spec := "formCut", unfollowed := true, recurses := true, apart := false, narrowed := true }
def FormCutUptoSaid : Prop := formCutUptoRow.holds Try.pinned (OpenSpec.upto formCutSpec)

end Rows
end Go.Proofs.Ytdlmkfnjljlmgaa
