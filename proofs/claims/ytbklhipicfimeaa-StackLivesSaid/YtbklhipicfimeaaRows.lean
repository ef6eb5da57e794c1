/-
  No cell of these rows narrows 'for every input' (looked for: loops, veiled, ifaces, maps, wideKeys, modest, calm, conditions, laid).
  DERIVED. THE GIVEN ROWS OF THIS SEAT. 4 by the template 'for every input the law returns true; each argument reads behind the call as it read before'; 0 by the template 'total and deterministic' (their statements: YtbklhipicfimeaaTotals.lean).
  GIVEN WITH THE SEED: the statements are not yours to turn. If you find one false, say at which input.
  Laid BY PROGRAM, IN A SANDBOX (cutbox-rows.mjs): the forced cells as the released guide's own fill.sh prints them over the translation 7d2290f3fe6e96a7… (all of the seat's roots in one cut). By AI agents, Wed Nov 11 2026. No macro, syntax, notation, axiom, sorry.
-/
import Derived.Test.YtbklhipicfimeaaChecked
import GoSem.Claim
import GoSem.ClaimJoined
import GoSem.ClaimMapViews
import Derived.JoinedTies
import Derived.KernelRfl
namespace Go.Proofs.Ytbklhipicfimeaa
/- THE CELL 'sum', in the pinned program and in every row, IS THE sha256 OF THE DUMP (.gsa) THAT YtbklhipicfimeaaProg.lean LOADS. Nothing in Lean hashes anything: it is a label: what it is worth is what the hold of that sum in a sandbox is worth. -/
noncomputable def Try.pinned : Pinned := { name := "ytbklhipicfimeaa", sum := "7d2290f3fe6e96a77632ad243b68983e36092892d31f018cbfa636c9e8053a4c", checked := Try.checked }
namespace Rows
def none {H : Type} : Left H := { results := [], args := [] }

/-- 'barbicanlaw13.StackTells': WHATEVER THE INPUT: true; the input reads as it did. -/
def stackTellsSpec : ChangeSpec := { name := "stackTells", fn := fun _ => fun
  | [d1, d2, d3, d4] => { results := [.lit (.bool true)], args := [d1, d2, d3, d4] }
  | _ => none }
def stackTellsRow : OpenClaim := { program := "ytbklhipicfimeaa", sum := "7d2290f3fe6e96a77632ad243b68983e36092892d31f018cbfa636c9e8053a4c", func := "barbican/barbicanlaw13.StackTells", spec := "stackTells", unfollowed := true, recurses := true, apart := false }
def StackTellsSaid : Prop := stackTellsRow.holds Try.pinned (OpenSpec.ofChange stackTellsSpec)

/-- ITS FALSE NEIGHBOUR: 'it returns false'. Refute it at one input. -/
def stackTellsWrong : ChangeSpec := { name := "stackTells", fn := fun _ => fun
  | [d1, d2, d3, d4] => { results := [.lit (.bool false)], args := [d1, d2, d3, d4] }
  | _ => none }
def StackTellsWrongFalsely : Prop := stackTellsRow.holds Try.pinned (OpenSpec.ofChange stackTellsWrong)

/-- 'barbicanlaw13.StackLives': WHATEVER THE INPUT: true; the input reads as it did. -/
def stackLivesSpec : ChangeSpec := { name := "stackLives", fn := fun _ => fun
  | [d] => { results := [.lit (.bool true)], args := [d] }
  | _ => none }
def stackLivesRow : OpenClaim := { program := "ytbklhipicfimeaa", sum := "7d2290f3fe6e96a77632ad243b68983e36092892d31f018cbfa636c9e8053a4c", func := "barbican/barbicanlaw13.StackLives", spec := "stackLives", unfollowed := true, recurses := true, apart := false }
def StackLivesSaid : Prop := stackLivesRow.holds Try.pinned (OpenSpec.ofChange stackLivesSpec)

/-- ITS FALSE NEIGHBOUR: 'it returns false'. Refute it at one input. -/
def stackLivesWrong : ChangeSpec := { name := "stackLives", fn := fun _ => fun
  | [d] => { results := [.lit (.bool false)], args := [d] }
  | _ => none }
def StackLivesWrongFalsely : Prop := stackLivesRow.holds Try.pinned (OpenSpec.ofChange stackLivesWrong)

/-- 'barbicanlaw13.StackNumbers': WHATEVER THE INPUT: true; the input reads as it did. -/
def stackNumbersSpec : ChangeSpec := { name := "stackNumbers", fn := fun _ => fun
  | [] => { results := [.lit (.bool true)], args := [] }
  | _ => none }
def stackNumbersRow : OpenClaim := { program := "ytbklhipicfimeaa", sum := "7d2290f3fe6e96a77632ad243b68983e36092892d31f018cbfa636c9e8053a4c", func := "barbican/barbicanlaw13.StackNumbers", spec := "stackNumbers", unfollowed := true, recurses := true, apart := false }
def StackNumbersSaid : Prop := stackNumbersRow.holds Try.pinned (OpenSpec.ofChange stackNumbersSpec)

/-- ITS FALSE NEIGHBOUR: 'it returns false'. Refute it at one input. -/
def stackNumbersWrong : ChangeSpec := { name := "stackNumbers", fn := fun _ => fun
  | [] => { results := [.lit (.bool false)], args := [] }
  | _ => none }
def StackNumbersWrongFalsely : Prop := stackNumbersRow.holds Try.pinned (OpenSpec.ofChange stackNumbersWrong)

/-- 'barbicanlaw13.StackSet': WHATEVER THE INPUT: true; the input reads as it did. -/
def stackSetSpec : ChangeSpec := { name := "stackSet", fn := fun _ => fun
  | [d1, d2, d3, d4] => { results := [.lit (.bool true)], args := [d1, d2, d3, d4] }
  | _ => none }
def stackSetRow : OpenClaim := { program := "ytbklhipicfimeaa", sum := "7d2290f3fe6e96a77632ad243b68983e36092892d31f018cbfa636c9e8053a4c", func := "barbican/barbicanlaw13.StackSet", spec := "stackSet", unfollowed := true, recurses := true, apart := false }
def StackSetSaid : Prop := stackSetRow.holds Try.pinned (OpenSpec.ofChange stackSetSpec)

/-- ITS FALSE NEIGHBOUR: 'it returns false'. Refute it at one input. -/
def stackSetWrong : ChangeSpec := { name := "stackSet", fn := fun _ => fun
  | [d1, d2, d3, d4] => { results := [.lit (.bool false)], args := [d1, d2, d3, d4] }
  | _ => none }
def StackSetWrongFalsely : Prop := stackSetRow.holds Try.pinned (OpenSpec.ofChange stackSetWrong)

/- THE SECOND FORM. 'bulk': how many values and letters a reading holds, each counted each time it is reached (what is shared counts as often as it is met; a slice's spare places count too). A statement '..UptoSaid' is the law's where the arguments, and the package variables that the reading takes, are together of bulk at most 1048576: NARROWER than '..Said'. Prove '..Said' where nothing that the law and all that it calls make is longer than what came in: it says more and counts as full. Else prove '..UptoSaid'. A law counts once. -/
mutual
def uptoBulk {H : Type} : DataW H → Nat
  | .lit (.string bytes) => bytes.length + 1
  | .lit _ => 1
  | .nil => 1
  | .ptr d => uptoBulk d + 1
  | .slice elems spare => uptoBulkAll elems + uptoBulkAll spare + 1
  | .agg parts => uptoBulkAll parts + 1
  | .iface _ d => uptoBulk d + 1
  | .map entries => uptoBulkEntries entries + 1
  | .held _ => 1
def uptoBulkAll {H : Type} : List (DataW H) → Nat
  | [] => 0
  | d :: r => uptoBulk d + uptoBulkAll r
def uptoBulkEntries {H : Type} : List (Lit × DataW H) → Nat
  | [] => 0
  | x :: r => uptoBulkEntry x + uptoBulkEntries r
def uptoBulkEntry {H : Type} : Lit × DataW H → Nat
  | (.string bytes, d) => bytes.length + uptoBulk d + 1
  | (_, d) => uptoBulk d + 1
 end
def uptoSmall : (H : Type) → List (DataW H) → Bool := fun _ ds => decide (uptoBulkAll ds ≤ 1048576)
def OpenSpec.upto (s : _root_.Go.ChangeSpec) : _root_.Go.OpenSpec := { _root_.Go.OpenSpec.ofChange s with cond := some uptoSmall }

/-- 'barbicanlaw13.StackTells', WHERE WHAT IT READS IS OF BULK AT MOST 1048576: true; the input reads as it did. -/
def stackTellsUptoRow : OpenClaim := { program := "ytbklhipicfimeaa", sum := "7d2290f3fe6e96a77632ad243b68983e36092892d31f018cbfa636c9e8053a4c", func := "barbican/barbicanlaw13.StackTells", spec := "stackTells", unfollowed := true, recurses := true, apart := false, narrowed := true }
def StackTellsUptoSaid : Prop := stackTellsUptoRow.holds Try.pinned (OpenSpec.upto stackTellsSpec)

/-- 'barbicanlaw13.StackLives', WHERE WHAT IT READS IS OF BULK AT MOST 1048576: true; the input reads as it did. -/
def stackLivesUptoRow : OpenClaim := { program := "ytbklhipicfimeaa", sum := "7d2290f3fe6e96a77632ad243b68983e36092892d31f018cbfa636c9e8053a4c", func := "barbican/barbicanlaw13.StackLives", spec := "stackLives", unfollowed := true, recurses := true, apart := false, narrowed := true }
def StackLivesUptoSaid : Prop := stackLivesUptoRow.holds Try.pinned (OpenSpec.upto stackLivesSpec)

/-- 'barbicanlaw13.StackNumbers', WHERE WHAT IT READS IS OF BULK AT MOST 1048576: true; the input reads as it did. -/
def stackNumbersUptoRow : OpenClaim := { program := "ytbklhipicfimeaa", sum := "7d2290f3fe6e96a77632ad243b68983e36092892d31f018cbfa636c9e8053a4c", func := "barbican/barbicanlaw13.StackNumbers", spec := "stackNumbers", unfollowed := true, recurses := true, apart := false, narrowed := true }
def StackNumbersUptoSaid : Prop := stackNumbersUptoRow.holds Try.pinned (OpenSpec.upto stackNumbersSpec)

/-- 'barbicanlaw13.StackSet', WHERE WHAT IT READS IS OF BULK AT MOST 1048576: true; the input reads as it did. -/
def stackSetUptoRow : OpenClaim := { program := "ytbklhipicfimeaa", sum := "7d2290f3fe6e96a77632ad243b68983e36092892d31f018cbfa636c9e8053a4c", func := "barbican/barbicanlaw13.StackSet", spec := "stackSet", unfollowed := true, recurses := true, apart := false, narrowed := true }
def StackSetUptoSaid : Prop := stackSetUptoRow.holds Try.pinned (OpenSpec.upto stackSetSpec)

end Rows
end Go.Proofs.Ytbklhipicfimeaa
