/-
  No cell of these rows narrows 'for every input' (looked for: loops, veiled, ifaces, maps, wideKeys, modest, calm, conditions, laid).
  DERIVED. THE GIVEN ROWS OF THIS SEAT. 3 by the template 'for every input the law returns true; each argument reads behind the call as it read before'; 0 by the template 'total and deterministic' (their statements: YthlhbjahlanneaaGreatTotals.lean).
  GIVEN WITH THE SEED: the statements are not yours to turn. If you find one false, say at which input.
  Laid BY PROGRAM, IN A SANDBOX (cutbox-rows.mjs): the forced cells as the released guide's own fill.sh prints them over the translation d2ab1246c9e4ab6c… (all of the seat's roots in one cut). By AI agents, Wed Nov 11 2026. No macro, syntax, notation, axiom, sorry.
-/
import Derived.Test.YthlhbjahlanneaaGreatChecked
import GoSem.Claim
import GoSem.ClaimJoined
import GoSem.ClaimMapViews
import Derived.JoinedTies
import Derived.KernelRfl
namespace Go.Proofs.YthlhbjahlanneaaGreat
/- THE CELL 'sum', in the pinned program and in every row, IS THE sha256 OF THE DUMP (.gsa) THAT YthlhbjahlanneaaGreatProg.lean LOADS. Nothing in Lean hashes anything: it is a label: what it is worth is what the hold of that sum in a sandbox is worth. -/
noncomputable def Tryz.pinned : Pinned := { name := "ythlhbjahlanneaagreat", sum := "d2ab1246c9e4ab6c46a961b4b1e8c2e3b7da77a824b66d1973b9a535dbd8500a", checked := Tryz.checked }
namespace Rows
def none {H : Type} : Left H := { results := [], args := [] }

/-- 'barbicanlaw27.RegistryDoes': WHATEVER THE INPUT: true; the input reads as it did. -/
def registryDoesSpec : ChangeSpec := { name := "registryDoes", fn := fun _ => fun
  | [d1, d2, d3] => { results := [.lit (.bool true)], args := [d1, d2, d3] }
  | _ => none }
def registryDoesRow : OpenClaim := { program := "ythlhbjahlanneaagreat", sum := "d2ab1246c9e4ab6c46a961b4b1e8c2e3b7da77a824b66d1973b9a535dbd8500a", func := "barbican/barbicanlaw27.RegistryDoes", spec := "registryDoes", unfollowed := true, recurses := true, apart := false }
def RegistryDoesSaid : Prop := registryDoesRow.holds Tryz.pinned (OpenSpec.ofChange registryDoesSpec)

/-- ITS FALSE NEIGHBOUR: 'it returns false'. Refute it at one input. -/
def registryDoesWrong : ChangeSpec := { name := "registryDoes", fn := fun _ => fun
  | [d1, d2, d3] => { results := [.lit (.bool false)], args := [d1, d2, d3] }
  | _ => none }
def RegistryDoesWrongFalsely : Prop := registryDoesRow.holds Tryz.pinned (OpenSpec.ofChange registryDoesWrong)

/-- 'barbicanlaw27.RegistryRight': WHATEVER THE INPUT: true; the input reads as it did. -/
def registryRightSpec : ChangeSpec := { name := "registryRight", fn := fun _ => fun
  | [d1, d2] => { results := [.lit (.bool true)], args := [d1, d2] }
  | _ => none }
def registryRightRow : OpenClaim := { program := "ythlhbjahlanneaagreat", sum := "d2ab1246c9e4ab6c46a961b4b1e8c2e3b7da77a824b66d1973b9a535dbd8500a", func := "barbican/barbicanlaw27.RegistryRight", spec := "registryRight", unfollowed := true, recurses := true, apart := false }
def RegistryRightSaid : Prop := registryRightRow.holds Tryz.pinned (OpenSpec.ofChange registryRightSpec)

/-- ITS FALSE NEIGHBOUR: 'it returns false'. Refute it at one input. -/
def registryRightWrong : ChangeSpec := { name := "registryRight", fn := fun _ => fun
  | [d1, d2] => { results := [.lit (.bool false)], args := [d1, d2] }
  | _ => none }
def RegistryRightWrongFalsely : Prop := registryRightRow.holds Tryz.pinned (OpenSpec.ofChange registryRightWrong)

/-- 'barbicanlaw27.RegistryPhases': WHATEVER THE INPUT: true; the input reads as it did. -/
def registryPhasesSpec : ChangeSpec := { name := "registryPhases", fn := fun _ => fun
  | [d1, d2] => { results := [.lit (.bool true)], args := [d1, d2] }
  | _ => none }
def registryPhasesRow : OpenClaim := { program := "ythlhbjahlanneaagreat", sum := "d2ab1246c9e4ab6c46a961b4b1e8c2e3b7da77a824b66d1973b9a535dbd8500a", func := "barbican/barbicanlaw27.RegistryPhases", spec := "registryPhases", unfollowed := true, recurses := true, apart := false }
def RegistryPhasesSaid : Prop := registryPhasesRow.holds Tryz.pinned (OpenSpec.ofChange registryPhasesSpec)

/-- ITS FALSE NEIGHBOUR: 'it returns false'. Refute it at one input. -/
def registryPhasesWrong : ChangeSpec := { name := "registryPhases", fn := fun _ => fun
  | [d1, d2] => { results := [.lit (.bool false)], args := [d1, d2] }
  | _ => none }
def RegistryPhasesWrongFalsely : Prop := registryPhasesRow.holds Tryz.pinned (OpenSpec.ofChange registryPhasesWrong)

/- THE SECOND FORM. 'bulk': how many values and letters a reading holds, each counted each time it is reached (what is shared counts as often as it is met; a slice's spare places count too). A statement '..UptoSaid' is the law's where the arguments, and the package variables that the reading takes, are together of bulk at most 1048576: NARROWER than '..Said'. Prove '..Said' where nothing that the law and all that it calls make is longer than what came in: it says more and counts as full. Else prove '..UptoSaid'. A law counts once. -/
mutual
def uptoBulk {H : Type} : DataW H → Nat
  | .lit (.string bytes) => bytes.length + 1
  | .lit _ => 1
  | .nil => 1
  | .ptr d => uptoBulk d + 1
  | .slice elems spare => uptoBulkAll elems + uptoBulkAll spare + 1
  | .agg parts => uptoBulkAll parts + 1
  | .iface _ d => uptoBulk d + 1
  | .map entries => uptoBulkEntries entries + 1
  | .held _ => 1
def uptoBulkAll {H : Type} : List (DataW H) → Nat
  | [] => 0
  | d :: r => uptoBulk d + uptoBulkAll r
def uptoBulkEntries {H : Type} : List (Lit × DataW H) → Nat
  | [] => 0
  | x :: r => uptoBulkEntry x + uptoBulkEntries r
def uptoBulkEntry {H : Type} : Lit × DataW H → Nat
  | (.string bytes, d) => bytes.length + uptoBulk d + 1
  | (_, d) => uptoBulk d + 1
 end
def uptoSmall : (H : Type) → List (DataW H) → Bool := fun _ ds => decide (uptoBulkAll ds ≤ 1048576)
def OpenSpec.upto (s : _root_.Go.ChangeSpec) : _root_.Go.OpenSpec := { _root_.Go.OpenSpec.ofChange s with cond := some uptoSmall }

/-- 'barbicanlaw27.RegistryDoes', WHERE WHAT IT READS IS OF BULK AT MOST 1048576: true; the input reads as it did. -/
def registryDoesUptoRow : OpenClaim := { program := "ythlhbjahlanneaagreat", sum := "d2ab1246c9e4ab6c46a961b4b1e8c2e3b7da77a824b66d1973b9a535dbd8500a", func := "barbican/barbicanlaw27.RegistryDoes", spec := "registryDoes", unfollowed := true, recurses := true, apart := false, narrowed := true }
def RegistryDoesUptoSaid : Prop := registryDoesUptoRow.holds Tryz.pinned (OpenSpec.upto registryDoesSpec)

/-- 'barbicanlaw27.RegistryRight', WHERE WHAT IT READS IS OF BULK AT MOST 1048576: true; the input reads as it did. -/
def registryRightUptoRow : OpenClaim := { program := "ythlhbjahlanneaagreat", sum := "d2ab1246c9e4ab6c46a961b4b1e8c2e3b7da77a824b66d1973b9a535dbd8500a", func := "barbican/barbicanlaw27.RegistryRight", spec := "registryRight", unfollowed := true, recurses := true, apart := false, narrowed := true }
def RegistryRightUptoSaid : Prop := registryRightUptoRow.holds Tryz.pinned (OpenSpec.upto registryRightSpec)

/-- 'barbicanlaw27.RegistryPhases', WHERE WHAT IT READS IS OF BULK AT MOST 1048576: true; the input reads as it did. -/
def registryPhasesUptoRow : OpenClaim := { program := "ythlhbjahlanneaagreat", sum := "d2ab1246c9e4ab6c46a961b4b1e8c2e3b7da77a824b66d1973b9a535dbd8500a", func := "barbican/barbicanlaw27.RegistryPhases", spec := "registryPhases", unfollowed := true, recurses := true, apart := false, narrowed := true }
def RegistryPhasesUptoSaid : Prop := registryPhasesUptoRow.holds Tryz.pinned (OpenSpec.upto registryPhasesSpec)

end Rows
end Go.Proofs.YthlhbjahlanneaaGreat
