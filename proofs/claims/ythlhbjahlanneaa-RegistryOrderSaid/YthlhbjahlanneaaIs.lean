/- The keys of maps, sorted. -/
import Derived.Test.YthlhbjahlanneaaTb
import Derived.Test.YthlhbjahlanneaaSh
namespace Go.X
open Go.RowKit Go.V Go.Proofs
def sorted0_sp : GSpec TT := ⟨[.fn 37 [] [.ptr 0 42 [.tm .i64 (.bool)]]], [.blk 42 [.mpo 1], .tmap .i64 (.bool)], [.row 3 (.int .i64)], fun x => sortedKeys x.1.2.1.1⟩
theorem sorted0_ok : GOk TT Try.prog 24 sorted0_sp := gOk_sorted Try.sorted0Call (by kernel_rfl)
def sorted1_sp : GSpec TT := ⟨[.fn 38 [] [.ptr 0 41 [.tm .i64 (.list (.int .u8))]]], [.blk 41 [.mpo 1], .tmap .i64 (.list (.int .u8))], [.row 3 (.int .i64)], fun x => sortedKeys x.1.2.1.1⟩
theorem sorted1_ok : GOk TT Try.prog 24 sorted1_sp := gOk_sorted Try.sorted1Call (by kernel_rfl)
end Go.X
