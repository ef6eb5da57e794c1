/-
  No cell of these rows narrows 'for every input' (looked for: loops, veiled, ifaces, maps, wideKeys, modest, calm, conditions, laid).
  DERIVED. THE GIVEN ROWS OF THIS SEAT. 4 by the template 'for every input the law returns true; each argument reads behind the call as it read before'; 0 by the template 'total and deterministic' (their statements: YthhhfnfgmijggaaGreatTotals.lean).
  GIVEN WITH THE SEED: the statements are not yours to turn. If you find one false, say at which input.
  Laid BY PROGRAM, IN A SANDBOX (cutbox-rows.mjs): the forced cells as the released guide's own fill.sh prints them over the translation ce08da63ebad85da… (all of the seat's roots in one cut). By AI agents, Wed Nov 11 2026. No macro, syntax, notation, axiom, sorry.
-/
import Derived.Test.YthhhfnfgmijggaaGreatChecked
import GoSem.Claim
import GoSem.ClaimJoined
import GoSem.ClaimMapViews
import Derived.JoinedTies
import Derived.KernelRfl
namespace Go.Proofs.YthhhfnfgmijggaaGreat
/- THE CELL 'sum', in the pinned program and in every row, IS THE sha256 OF THE DUMP (.gsa) THAT YthhhfnfgmijggaaGreatProg.lean LOADS. Nothing in Lean hashes anything: it is a label: what it is worth is what the hold of that sum in a sandbox is worth. -/
noncomputable def Tryz.pinned : Pinned := { name := "ythhhfnfgmijggaagreat", sum := "ce08da63ebad85daaabec4bd97b7ae4e1a1b12b774a9f760d5dd26c6b1a3853e", checked := Tryz.checked }
namespace Rows
def none {H : Type} : Left H := { results := [], args := [] }

/-- 'barbicanlaw14.CheckHolds': WHATEVER THE INPUT: true; the input reads as it did. -/
def checkHoldsSpec : ChangeSpec := { name := "checkHolds", fn := fun _ => fun
  | [d1, d2] => { results := [.lit (.bool true)], args := [d1, d2] }
  | _ => none }
def checkHoldsRow : OpenClaim := { program := "ythhhfnfgmijggaagreat", sum := "ce08da63ebad85daaabec4bd97b7ae4e1a1b12b774a9f760d5dd26c6b1a3853e", func := "barbican/barbicanlaw14.CheckHolds", spec := "checkHolds", unfollowed := true, recurses := true, apart := false }
def CheckHoldsSaid : Prop := checkHoldsRow.holds Tryz.pinned (OpenSpec.ofChange checkHoldsSpec)

/-- ITS FALSE NEIGHBOUR: 'it returns false'. Refute it at one input. -/
def checkHoldsWrong : ChangeSpec := { name := "checkHolds", fn := fun _ => fun
  | [d1, d2] => { results := [.lit (.bool false)], args := [d1, d2] }
  | _ => none }
def CheckHoldsWrongFalsely : Prop := checkHoldsRow.holds Tryz.pinned (OpenSpec.ofChange checkHoldsWrong)

/-- 'barbicanlaw14.CheckAsked': WHATEVER THE INPUT: true; the input reads as it did. -/
def checkAskedSpec : ChangeSpec := { name := "checkAsked", fn := fun _ => fun
  | [d] => { results := [.lit (.bool true)], args := [d] }
  | _ => none }
def checkAskedRow : OpenClaim := { program := "ythhhfnfgmijggaagreat", sum := "ce08da63ebad85daaabec4bd97b7ae4e1a1b12b774a9f760d5dd26c6b1a3853e", func := "barbican/barbicanlaw14.CheckAsked", spec := "checkAsked", unfollowed := true, recurses := true, apart := false }
def CheckAskedSaid : Prop := checkAskedRow.holds Tryz.pinned (OpenSpec.ofChange checkAskedSpec)

/-- ITS FALSE NEIGHBOUR: 'it returns false'. Refute it at one input. -/
def checkAskedWrong : ChangeSpec := { name := "checkAsked", fn := fun _ => fun
  | [d] => { results := [.lit (.bool false)], args := [d] }
  | _ => none }
def CheckAskedWrongFalsely : Prop := checkAskedRow.holds Tryz.pinned (OpenSpec.ofChange checkAskedWrong)

/-- 'barbicanlaw14.CheckBranch': WHATEVER THE INPUT: true; the input reads as it did. -/
def checkBranchSpec : ChangeSpec := { name := "checkBranch", fn := fun _ => fun
  | [d1, d2, d3, d4, d5] => { results := [.lit (.bool true)], args := [d1, d2, d3, d4, d5] }
  | _ => none }
def checkBranchRow : OpenClaim := { program := "ythhhfnfgmijggaagreat", sum := "ce08da63ebad85daaabec4bd97b7ae4e1a1b12b774a9f760d5dd26c6b1a3853e", func := "barbican/barbicanlaw14.CheckBranch", spec := "checkBranch", unfollowed := true, recurses := true, apart := false }
def CheckBranchSaid : Prop := checkBranchRow.holds Tryz.pinned (OpenSpec.ofChange checkBranchSpec)

/-- ITS FALSE NEIGHBOUR: 'it returns false'. Refute it at one input. -/
def checkBranchWrong : ChangeSpec := { name := "checkBranch", fn := fun _ => fun
  | [d1, d2, d3, d4, d5] => { results := [.lit (.bool false)], args := [d1, d2, d3, d4, d5] }
  | _ => none }
def CheckBranchWrongFalsely : Prop := checkBranchRow.holds Tryz.pinned (OpenSpec.ofChange checkBranchWrong)

/-- 'barbicanlaw14.CheckSound': WHATEVER THE INPUT: true; the input reads as it did. -/
def checkSoundSpec : ChangeSpec := { name := "checkSound", fn := fun _ => fun
  | [d1, d2, d3] => { results := [.lit (.bool true)], args := [d1, d2, d3] }
  | _ => none }
def checkSoundRow : OpenClaim := { program := "ythhhfnfgmijggaagreat", sum := "ce08da63ebad85daaabec4bd97b7ae4e1a1b12b774a9f760d5dd26c6b1a3853e", func := "barbican/barbicanlaw14.CheckSound", spec := "checkSound", unfollowed := true, recurses := true, apart := false }
def CheckSoundSaid : Prop := checkSoundRow.holds Tryz.pinned (OpenSpec.ofChange checkSoundSpec)

/-- ITS FALSE NEIGHBOUR: 'it returns false'. Refute it at one input. -/
def checkSoundWrong : ChangeSpec := { name := "checkSound", fn := fun _ => fun
  | [d1, d2, d3] => { results := [.lit (.bool false)], args := [d1, d2, d3] }
  | _ => none }
def CheckSoundWrongFalsely : Prop := checkSoundRow.holds Tryz.pinned (OpenSpec.ofChange checkSoundWrong)

/- THE SECOND FORM. 'bulk': how many values and letters a reading holds, each counted each time it is reached (what is shared counts as often as it is met; a slice's spare places count too). A statement '..UptoSaid' is the law's where the arguments, and the package variables that the reading takes, are together of bulk at most 1048576: NARROWER than '..Said'. Prove '..Said' where nothing that the law and all that it calls make is longer than what came in: it says more and counts as full. Else prove '..UptoSaid'. A law counts once. -/
mutual
def uptoBulk {H : Type} : DataW H → Nat
  | .lit (.string bytes) => bytes.length + 1
  | .lit _ => 1
  | .nil => 1
  | .ptr d => uptoBulk d + 1
  | .slice elems spare => uptoBulkAll elems + uptoBulkAll spare + 1
  | .agg parts => uptoBulkAll parts + 1
  | .iface _ d => uptoBulk d + 1
  | .map entries => uptoBulkEntries entries + 1
  | .held _ => 1
def uptoBulkAll {H : Type} : List (DataW H) → Nat
  | [] => 0
  | d :: r => uptoBulk d + uptoBulkAll r
def uptoBulkEntries {H : Type} : List (Lit × DataW H) → Nat
  | [] => 0
  | x :: r => uptoBulkEntry x + uptoBulkEntries r
def uptoBulkEntry {H : Type} : Lit × DataW H → Nat
  | (.string bytes, d) => bytes.length + uptoBulk d + 1
  | (_, d) => uptoBulk d + 1
 end
def uptoSmall : (H : Type) → List (DataW H) → Bool := fun _ ds => decide (uptoBulkAll ds ≤ 1048576)
def OpenSpec.upto (s : _root_.Go.ChangeSpec) : _root_.Go.OpenSpec := { _root_.Go.OpenSpec.ofChange s with cond := some uptoSmall }

/-- 'barbicanlaw14.CheckHolds', WHERE WHAT IT READS IS OF BULK AT MOST 1048576: true; the input reads as it did. -/
def checkHoldsUptoRow : OpenClaim := { program := "ythhhfnfgmijggaagreat", sum := "ce08da63ebad85daaabec4bd97b7ae4e1a1b12b774a9f760d5dd26c6b1a3853e", func := "barbican/barbicanlaw14.CheckHolds", spec := "checkHolds", unfollowed := true, recurses := true, apart := false, narrowed := true }
def CheckHoldsUptoSaid : Prop := checkHoldsUptoRow.holds Tryz.pinned (OpenSpec.upto checkHoldsSpec)

/-- 'barbicanlaw14.CheckAsked', WHERE WHAT IT READS IS OF BULK AT MOST 1048576: true; the input reads as it did. -/
def checkAskedUptoRow : OpenClaim := { program := "ythhhfnfgmijggaagreat", sum := "ce08da63ebad85daaabec4bd97b7ae4e1a1b12b774a9f760d5dd26c6b1a3853e", func := "barbican/barbicanlaw14.CheckAsked", spec := "checkAsked", unfollowed := true, recurses := true, apart := false, narrowed := true }
def CheckAskedUptoSaid : Prop := checkAskedUptoRow.holds Tryz.pinned (OpenSpec.upto checkAskedSpec)

/-- 'barbicanlaw14.CheckBranch', WHERE WHAT IT READS IS OF BULK AT MOST 1048576: true; the input reads as it did. -/
def checkBranchUptoRow : OpenClaim := { program := "ythhhfnfgmijggaagreat", sum := "ce08da63ebad85daaabec4bd97b7ae4e1a1b12b774a9f760d5dd26c6b1a3853e", func := "barbican/barbicanlaw14.CheckBranch", spec := "checkBranch", unfollowed := true, recurses := true, apart := false, narrowed := true }
def CheckBranchUptoSaid : Prop := checkBranchUptoRow.holds Tryz.pinned (OpenSpec.upto checkBranchSpec)

/-- 'barbicanlaw14.CheckSound', WHERE WHAT IT READS IS OF BULK AT MOST 1048576: true; the input reads as it did. -/
def checkSoundUptoRow : OpenClaim := { program := "ythhhfnfgmijggaagreat", sum := "ce08da63ebad85daaabec4bd97b7ae4e1a1b12b774a9f760d5dd26c6b1a3853e", func := "barbican/barbicanlaw14.CheckSound", spec := "checkSound", unfollowed := true, recurses := true, apart := false, narrowed := true }
def CheckSoundUptoSaid : Prop := checkSoundUptoRow.holds Tryz.pinned (OpenSpec.upto checkSoundSpec)

end Rows
end Go.Proofs.YthhhfnfgmijggaaGreat
