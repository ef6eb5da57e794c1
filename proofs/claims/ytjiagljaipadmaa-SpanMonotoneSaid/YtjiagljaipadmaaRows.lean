/-
  No cell of these rows narrows 'for every input' (looked for: loops, veiled, ifaces, maps, wideKeys, modest, calm, conditions, laid).
  DERIVED. THE GIVEN ROWS OF THIS SEAT. 9 by the template 'for every input the law returns true; each argument reads behind the call as it read before'; 0 by the template 'total and deterministic' (their statements: YtjiagljaipadmaaTotals.lean).
  GIVEN WITH THE SEED: the statements are not yours to turn. If you find one false, say at which input.
  Laid BY PROGRAM, IN A SANDBOX (cutbox-rows.mjs): the forced cells as the released guide's own fill.sh prints them over the translation 4d6e49462c8c1289… (all of the seat's roots in one cut). By AI agents, Wed Nov 11 2026. No macro, syntax, notation, axiom, sorry.
-/
import Derived.Test.YtjiagljaipadmaaChecked
import GoSem.Claim
import GoSem.ClaimJoined
import GoSem.ClaimMapViews
import Derived.JoinedTies
import Derived.KernelRfl
namespace Go.Proofs.Ytjiagljaipadmaa
/- THE CELL 'sum', in the pinned program and in every row, IS THE sha256 OF THE DUMP (.gsa) THAT YtjiagljaipadmaaProg.lean LOADS. Nothing in Lean hashes anything: it is a label: what it is worth is what the hold of that sum in a sandbox is worth. -/
noncomputable def Try.pinned : Pinned := { name := "ytjiagljaipadmaa", sum := "4d6e49462c8c12899fe0cb003a1a548790ad89725fdad1a533fac11cacfc59a5", checked := Try.checked }
namespace Rows
def none {H : Type} : Left H := { results := [], args := [] }

/-- 'barbicanlaw11.SpanDoes': WHATEVER THE INPUT: true; the input reads as it did. -/
def spanDoesSpec : ChangeSpec := { name := "spanDoes", fn := fun _ => fun
  | [d1, d2, d3, d4, d5] => { results := [.lit (.bool true)], args := [d1, d2, d3, d4, d5] }
  | _ => none }
def spanDoesRow : OpenClaim := { program := "ytjiagljaipadmaa", sum := "4d6e49462c8c12899fe0cb003a1a548790ad89725fdad1a533fac11cacfc59a5", func := "barbican/barbicanlaw11.SpanDoes", spec := "spanDoes", unfollowed := true, recurses := true, apart := false }
def SpanDoesSaid : Prop := spanDoesRow.holds Try.pinned (OpenSpec.ofChange spanDoesSpec)

/-- ITS FALSE NEIGHBOUR: 'it returns false'. Refute it at one input. -/
def spanDoesWrong : ChangeSpec := { name := "spanDoes", fn := fun _ => fun
  | [d1, d2, d3, d4, d5] => { results := [.lit (.bool false)], args := [d1, d2, d3, d4, d5] }
  | _ => none }
def SpanDoesWrongFalsely : Prop := spanDoesRow.holds Try.pinned (OpenSpec.ofChange spanDoesWrong)

/-- 'barbicanlaw11.SpanMonotone': WHATEVER THE INPUT: true; the input reads as it did. -/
def spanMonotoneSpec : ChangeSpec := { name := "spanMonotone", fn := fun _ => fun
  | [d1, d2, d3, d4, d5, d6, d7, d8, d9] => { results := [.lit (.bool true)], args := [d1, d2, d3, d4, d5, d6, d7, d8, d9] }
  | _ => none }
def spanMonotoneRow : OpenClaim := { program := "ytjiagljaipadmaa", sum := "4d6e49462c8c12899fe0cb003a1a548790ad89725fdad1a533fac11cacfc59a5", func := "barbican/barbicanlaw11.SpanMonotone", spec := "spanMonotone", unfollowed := true, recurses := true, apart := false }
def SpanMonotoneSaid : Prop := spanMonotoneRow.holds Try.pinned (OpenSpec.ofChange spanMonotoneSpec)

/-- ITS FALSE NEIGHBOUR: 'it returns false'. Refute it at one input. -/
def spanMonotoneWrong : ChangeSpec := { name := "spanMonotone", fn := fun _ => fun
  | [d1, d2, d3, d4, d5, d6, d7, d8, d9] => { results := [.lit (.bool false)], args := [d1, d2, d3, d4, d5, d6, d7, d8, d9] }
  | _ => none }
def SpanMonotoneWrongFalsely : Prop := spanMonotoneRow.holds Try.pinned (OpenSpec.ofChange spanMonotoneWrong)

/-- 'barbicanlaw11.SpanTells': WHATEVER THE INPUT: true; the input reads as it did. -/
def spanTellsSpec : ChangeSpec := { name := "spanTells", fn := fun _ => fun
  | [d1, d2, d3, d4] => { results := [.lit (.bool true)], args := [d1, d2, d3, d4] }
  | _ => none }
def spanTellsRow : OpenClaim := { program := "ytjiagljaipadmaa", sum := "4d6e49462c8c12899fe0cb003a1a548790ad89725fdad1a533fac11cacfc59a5", func := "barbican/barbicanlaw11.SpanTells", spec := "spanTells", unfollowed := true, recurses := true, apart := false }
def SpanTellsSaid : Prop := spanTellsRow.holds Try.pinned (OpenSpec.ofChange spanTellsSpec)

/-- ITS FALSE NEIGHBOUR: 'it returns false'. Refute it at one input. -/
def spanTellsWrong : ChangeSpec := { name := "spanTells", fn := fun _ => fun
  | [d1, d2, d3, d4] => { results := [.lit (.bool false)], args := [d1, d2, d3, d4] }
  | _ => none }
def SpanTellsWrongFalsely : Prop := spanTellsRow.holds Try.pinned (OpenSpec.ofChange spanTellsWrong)

/-- 'barbicanlaw11.SpanLattice': WHATEVER THE INPUT: true; the input reads as it did. -/
def spanLatticeSpec : ChangeSpec := { name := "spanLattice", fn := fun _ => fun
  | [d1, d2, d3, d4] => { results := [.lit (.bool true)], args := [d1, d2, d3, d4] }
  | _ => none }
def spanLatticeRow : OpenClaim := { program := "ytjiagljaipadmaa", sum := "4d6e49462c8c12899fe0cb003a1a548790ad89725fdad1a533fac11cacfc59a5", func := "barbican/barbicanlaw11.SpanLattice", spec := "spanLattice", unfollowed := true, recurses := true, apart := false }
def SpanLatticeSaid : Prop := spanLatticeRow.holds Try.pinned (OpenSpec.ofChange spanLatticeSpec)

/-- ITS FALSE NEIGHBOUR: 'it returns false'. Refute it at one input. -/
def spanLatticeWrong : ChangeSpec := { name := "spanLattice", fn := fun _ => fun
  | [d1, d2, d3, d4] => { results := [.lit (.bool false)], args := [d1, d2, d3, d4] }
  | _ => none }
def SpanLatticeWrongFalsely : Prop := spanLatticeRow.holds Try.pinned (OpenSpec.ofChange spanLatticeWrong)

/-- 'barbicanlaw11.SpanSound': WHATEVER THE INPUT: true; the input reads as it did. -/
def spanSoundSpec : ChangeSpec := { name := "spanSound", fn := fun _ => fun
  | [d1, d2, d3, d4, d5, d6] => { results := [.lit (.bool true)], args := [d1, d2, d3, d4, d5, d6] }
  | _ => none }
def spanSoundRow : OpenClaim := { program := "ytjiagljaipadmaa", sum := "4d6e49462c8c12899fe0cb003a1a548790ad89725fdad1a533fac11cacfc59a5", func := "barbican/barbicanlaw11.SpanSound", spec := "spanSound", unfollowed := true, recurses := true, apart := false }
def SpanSoundSaid : Prop := spanSoundRow.holds Try.pinned (OpenSpec.ofChange spanSoundSpec)

/-- ITS FALSE NEIGHBOUR: 'it returns false'. Refute it at one input. -/
def spanSoundWrong : ChangeSpec := { name := "spanSound", fn := fun _ => fun
  | [d1, d2, d3, d4, d5, d6] => { results := [.lit (.bool false)], args := [d1, d2, d3, d4, d5, d6] }
  | _ => none }
def SpanSoundWrongFalsely : Prop := spanSoundRow.holds Try.pinned (OpenSpec.ofChange spanSoundWrong)

/-- 'barbicanlaw12.KindDoes': WHATEVER THE INPUT: true; the input reads as it did. -/
def kindDoesSpec : ChangeSpec := { name := "kindDoes", fn := fun _ => fun
  | [d1, d2, d3, d4] => { results := [.lit (.bool true)], args := [d1, d2, d3, d4] }
  | _ => none }
def kindDoesRow : OpenClaim := { program := "ytjiagljaipadmaa", sum := "4d6e49462c8c12899fe0cb003a1a548790ad89725fdad1a533fac11cacfc59a5", func := "barbican/barbicanlaw12.KindDoes", spec := "kindDoes", unfollowed := true, recurses := true, apart := false }
def KindDoesSaid : Prop := kindDoesRow.holds Try.pinned (OpenSpec.ofChange kindDoesSpec)

/-- ITS FALSE NEIGHBOUR: 'it returns false'. Refute it at one input. -/
def kindDoesWrong : ChangeSpec := { name := "kindDoes", fn := fun _ => fun
  | [d1, d2, d3, d4] => { results := [.lit (.bool false)], args := [d1, d2, d3, d4] }
  | _ => none }
def KindDoesWrongFalsely : Prop := kindDoesRow.holds Try.pinned (OpenSpec.ofChange kindDoesWrong)

/-- 'barbicanlaw12.KindTells': WHATEVER THE INPUT: true; the input reads as it did. -/
def kindTellsSpec : ChangeSpec := { name := "kindTells", fn := fun _ => fun
  | [d1, d2, d3, d4, d5] => { results := [.lit (.bool true)], args := [d1, d2, d3, d4, d5] }
  | _ => none }
def kindTellsRow : OpenClaim := { program := "ytjiagljaipadmaa", sum := "4d6e49462c8c12899fe0cb003a1a548790ad89725fdad1a533fac11cacfc59a5", func := "barbican/barbicanlaw12.KindTells", spec := "kindTells", unfollowed := true, recurses := true, apart := false }
def KindTellsSaid : Prop := kindTellsRow.holds Try.pinned (OpenSpec.ofChange kindTellsSpec)

/-- ITS FALSE NEIGHBOUR: 'it returns false'. Refute it at one input. -/
def kindTellsWrong : ChangeSpec := { name := "kindTells", fn := fun _ => fun
  | [d1, d2, d3, d4, d5] => { results := [.lit (.bool false)], args := [d1, d2, d3, d4, d5] }
  | _ => none }
def KindTellsWrongFalsely : Prop := kindTellsRow.holds Try.pinned (OpenSpec.ofChange kindTellsWrong)

/-- 'barbicanlaw12.KindSound': WHATEVER THE INPUT: true; the input reads as it did. -/
def kindSoundSpec : ChangeSpec := { name := "kindSound", fn := fun _ => fun
  | [d1, d2, d3, d4, d5, d6, d7, d8, d9] => { results := [.lit (.bool true)], args := [d1, d2, d3, d4, d5, d6, d7, d8, d9] }
  | _ => none }
def kindSoundRow : OpenClaim := { program := "ytjiagljaipadmaa", sum := "4d6e49462c8c12899fe0cb003a1a548790ad89725fdad1a533fac11cacfc59a5", func := "barbican/barbicanlaw12.KindSound", spec := "kindSound", unfollowed := true, recurses := true, apart := false }
def KindSoundSaid : Prop := kindSoundRow.holds Try.pinned (OpenSpec.ofChange kindSoundSpec)

/-- ITS FALSE NEIGHBOUR: 'it returns false'. Refute it at one input. -/
def kindSoundWrong : ChangeSpec := { name := "kindSound", fn := fun _ => fun
  | [d1, d2, d3, d4, d5, d6, d7, d8, d9] => { results := [.lit (.bool false)], args := [d1, d2, d3, d4, d5, d6, d7, d8, d9] }
  | _ => none }
def KindSoundWrongFalsely : Prop := kindSoundRow.holds Try.pinned (OpenSpec.ofChange kindSoundWrong)

/-- 'barbicanlaw12.KindOrders': WHATEVER THE INPUT: true; the input reads as it did. -/
def kindOrdersSpec : ChangeSpec := { name := "kindOrders", fn := fun _ => fun
  | [d1, d2, d3, d4, d5, d6] => { results := [.lit (.bool true)], args := [d1, d2, d3, d4, d5, d6] }
  | _ => none }
def kindOrdersRow : OpenClaim := { program := "ytjiagljaipadmaa", sum := "4d6e49462c8c12899fe0cb003a1a548790ad89725fdad1a533fac11cacfc59a5", func := "barbican/barbicanlaw12.KindOrders", spec := "kindOrders", unfollowed := true, recurses := true, apart := false }
def KindOrdersSaid : Prop := kindOrdersRow.holds Try.pinned (OpenSpec.ofChange kindOrdersSpec)

/-- ITS FALSE NEIGHBOUR: 'it returns false'. Refute it at one input. -/
def kindOrdersWrong : ChangeSpec := { name := "kindOrders", fn := fun _ => fun
  | [d1, d2, d3, d4, d5, d6] => { results := [.lit (.bool false)], args := [d1, d2, d3, d4, d5, d6] }
  | _ => none }
def KindOrdersWrongFalsely : Prop := kindOrdersRow.holds Try.pinned (OpenSpec.ofChange kindOrdersWrong)

/- THE SECOND FORM. 'bulk': how many values and letters a reading holds, each counted each time it is reached (what is shared counts as often as it is met; a slice's spare places count too). A statement '..UptoSaid' is the law's where the arguments, and the package variables that the reading takes, are together of bulk at most 1048576: NARROWER than '..Said'. Prove '..Said' where nothing that the law and all that it calls make is longer than what came in: it says more and counts as full. Else prove '..UptoSaid'. A law counts once. -/
mutual
def uptoBulk {H : Type} : DataW H → Nat
  | .lit (.string bytes) => bytes.length + 1
  | .lit _ => 1
  | .nil => 1
  | .ptr d => uptoBulk d + 1
  | .slice elems spare => uptoBulkAll elems + uptoBulkAll spare + 1
  | .agg parts => uptoBulkAll parts + 1
  | .iface _ d => uptoBulk d + 1
  | .map entries => uptoBulkEntries entries + 1
  | .held _ => 1
def uptoBulkAll {H : Type} : List (DataW H) → Nat
  | [] => 0
  | d :: r => uptoBulk d + uptoBulkAll r
def uptoBulkEntries {H : Type} : List (Lit × DataW H) → Nat
  | [] => 0
  | x :: r => uptoBulkEntry x + uptoBulkEntries r
def uptoBulkEntry {H : Type} : Lit × DataW H → Nat
  | (.string bytes, d) => bytes.length + uptoBulk d + 1
  | (_, d) => uptoBulk d + 1
 end
def uptoSmall : (H : Type) → List (DataW H) → Bool := fun _ ds => decide (uptoBulkAll ds ≤ 1048576)
def OpenSpec.upto (s : _root_.Go.ChangeSpec) : _root_.Go.OpenSpec := { _root_.Go.OpenSpec.ofChange s with cond := some uptoSmall }

/-- 'barbicanlaw11.SpanDoes', WHERE WHAT IT READS IS OF BULK AT MOST 1048576: true; the input reads as it did. -/
def spanDoesUptoRow : OpenClaim := { program := "ytjiagljaipadmaa", sum := "4d6e49462c8c12899fe0cb003a1a548790ad89725fdad1a533fac11cacfc59a5", func := "barbican/barbicanlaw11.SpanDoes", spec := "spanDoes", unfollowed := true, recurses := true, apart := false, narrowed := true }
def SpanDoesUptoSaid : Prop := spanDoesUptoRow.holds Try.pinned (OpenSpec.upto spanDoesSpec)

/-- 'barbicanlaw11.SpanMonotone', WHERE WHAT IT READS IS OF BULK AT MOST 1048576: true; the input reads as it did. -/
def spanMonotoneUptoRow : OpenClaim := { program := "ytjiagljaipadmaa", sum := "4d6e49462c8c12899fe0cb003a1a548790ad89725fdad1a533fac11cacfc59a5", func := "barbican/barbicanlaw11.SpanMonotone", spec := "spanMonotone", unfollowed := true, recurses := true, apart := false, narrowed := true }
def SpanMonotoneUptoSaid : Prop := spanMonotoneUptoRow.holds Try.pinned (OpenSpec.upto spanMonotoneSpec)

/-- 'barbicanlaw11.SpanTells', WHERE WHAT IT READS IS OF BULK AT MOST 1048576: true; the input reads as it did. -/
def spanTellsUptoRow : OpenClaim := { program := "ytjiagljaipadmaa", sum := "4d6e49462c8c12899fe0cb003a1a548790ad89725fdad1a533fac11cacfc59a5", func := "barbican/barbicanlaw11.SpanTells", spec := "spanTells", unfollowed := true, recurses := true, apart := false, narrowed := true }
def SpanTellsUptoSaid : Prop := spanTellsUptoRow.holds Try.pinned (OpenSpec.upto spanTellsSpec)

/-- 'barbicanlaw11.SpanLattice', WHERE WHAT IT READS IS OF BULK AT MOST 1048576: true; the input reads as it did. -/
def spanLatticeUptoRow : OpenClaim := { program := "ytjiagljaipadmaa", sum := "4d6e49462c8c12899fe0cb003a1a548790ad89725fdad1a533fac11cacfc59a5", func := "barbican/barbicanlaw11.SpanLattice", spec := "spanLattice", unfollowed := true, recurses := true, apart := false, narrowed := true }
def SpanLatticeUptoSaid : Prop := spanLatticeUptoRow.holds Try.pinned (OpenSpec.upto spanLatticeSpec)

/-- 'barbicanlaw11.SpanSound', WHERE WHAT IT READS IS OF BULK AT MOST 1048576: true; the input reads as it did. -/
def spanSoundUptoRow : OpenClaim := { program := "ytjiagljaipadmaa", sum := "4d6e49462c8c12899fe0cb003a1a548790ad89725fdad1a533fac11cacfc59a5", func := "barbican/barbicanlaw11.SpanSound", spec := "spanSound", unfollowed := true, recurses := true, apart := false, narrowed := true }
def SpanSoundUptoSaid : Prop := spanSoundUptoRow.holds Try.pinned (OpenSpec.upto spanSoundSpec)

/-- 'barbicanlaw12.KindDoes', WHERE WHAT IT READS IS OF BULK AT MOST 1048576: true; the input reads as it did. -/
def kindDoesUptoRow : OpenClaim := { program := "ytjiagljaipadmaa", sum := "4d6e49462c8c12899fe0cb003a1a548790ad89725fdad1a533fac11cacfc59a5", func := "barbican/barbicanlaw12.KindDoes", spec := "kindDoes", unfollowed := true, recurses := true, apart := false, narrowed := true }
def KindDoesUptoSaid : Prop := kindDoesUptoRow.holds Try.pinned (OpenSpec.upto kindDoesSpec)

/-- 'barbicanlaw12.KindTells', WHERE WHAT IT READS IS OF BULK AT MOST 1048576: true; the input reads as it did. -/
def kindTellsUptoRow : OpenClaim := { program := "ytjiagljaipadmaa", sum := "4d6e49462c8c12899fe0cb003a1a548790ad89725fdad1a533fac11cacfc59a5", func := "barbican/barbicanlaw12.KindTells", spec := "kindTells", unfollowed := true, recurses := true, apart := false, narrowed := true }
def KindTellsUptoSaid : Prop := kindTellsUptoRow.holds Try.pinned (OpenSpec.upto kindTellsSpec)

/-- 'barbicanlaw12.KindSound', WHERE WHAT IT READS IS OF BULK AT MOST 1048576: true; the input reads as it did. -/
def kindSoundUptoRow : OpenClaim := { program := "ytjiagljaipadmaa", sum := "4d6e49462c8c12899fe0cb003a1a548790ad89725fdad1a533fac11cacfc59a5", func := "barbican/barbicanlaw12.KindSound", spec := "kindSound", unfollowed := true, recurses := true, apart := false, narrowed := true }
def KindSoundUptoSaid : Prop := kindSoundUptoRow.holds Try.pinned (OpenSpec.upto kindSoundSpec)

/-- 'barbicanlaw12.KindOrders', WHERE WHAT IT READS IS OF BULK AT MOST 1048576: true; the input reads as it did. -/
def kindOrdersUptoRow : OpenClaim := { program := "ytjiagljaipadmaa", sum := "4d6e49462c8c12899fe0cb003a1a548790ad89725fdad1a533fac11cacfc59a5", func := "barbican/barbicanlaw12.KindOrders", spec := "kindOrders", unfollowed := true, recurses := true, apart := false, narrowed := true }
def KindOrdersUptoSaid : Prop := kindOrdersUptoRow.holds Try.pinned (OpenSpec.upto kindOrdersSpec)

end Rows
end Go.Proofs.Ytjiagljaipadmaa
