import Derived.Test.YtnhnejjdokeikaaGreatTb
import Derived.Test.YtnhnejjdokeikaaGreatSh
set_option linter.defProp false
namespace Go.X
open Go.RowKit Go.V Go.Proofs
def qx0:GSpec TT:=⟨[.fn 45 [] [.ptr 0 57 [.tm .i64 (.bool)]]],[.blk 57 [.mpo 1],.tmap .i64 (.bool)],[.row 3 (.int .i64)],fun x=>zj3 x.1.2.1.1⟩
def qw9:GOk TT Tryz.prog 34 qx0:=je6 Tryz.sorted0Call (by kernel_rfl)
def qx2:GSpec TT:=⟨[.fn 46 [] [.ptr 0 56 [.tm .i64 (.list (.int .u8))]]],[.blk 56 [.mpo 1],.tmap .i64 (.list (.int .u8))],[.row 3 (.int .i64)],fun x=>zj3 x.1.2.1.1⟩
def qx1:GOk TT Tryz.prog 34 qx2:=je6 Tryz.sorted1Call (by kernel_rfl)
end Go.X
