/- The keys of maps, sorted. -/
import Derived.Test.YthlhbjahlanneaaGreatTb
import Derived.Test.YthlhbjahlanneaaGreatSh
namespace Go.X
open Go.RowKit Go.V Go.Proofs
noncomputable def forkA {R : Type} (c : Bool) (x y : Option R) : Option R := @Decidable.rec (c = true) (fun _ => Option R) (fun _ => y) (fun _ => x) (instDecidableEqBool c true)
theorem forkA_eq {R : Type} (c : Bool) (x y : Option R) : forkA c x y = forkB c x y := rfl
def sorted0_sp : GSpec TT := ⟨[.fn 71 [] [.ptr 0 66 [.tm .i64 (.bool)]]], [.blk 66 [.mpo 1], .tmap .i64 (.bool)], [.row 3 (.int .i64)], fun x => sortedKeys x.1.2.1.1⟩
theorem sorted0_ok : GOk TT Tryz.prog 46 sorted0_sp := gOk_sorted Tryz.sorted0Call (by kernel_rfl)
def sorted1_sp : GSpec TT := ⟨[.fn 72 [] [.ptr 0 65 [.tm .i64 (.list (.int .u8))]]], [.blk 65 [.mpo 1], .tmap .i64 (.list (.int .u8))], [.row 3 (.int .i64)], fun x => sortedKeys x.1.2.1.1⟩
theorem sorted1_ok : GOk TT Tryz.prog 46 sorted1_sp := gOk_sorted Tryz.sorted1Call (by kernel_rfl)
end Go.X
