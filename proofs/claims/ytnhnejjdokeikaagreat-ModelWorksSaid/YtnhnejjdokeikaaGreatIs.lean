import Derived.Test.YtnhnejjdokeikaaGreatTb
import Derived.Test.YtnhnejjdokeikaaGreatSh
set_option linter.defProp false
namespace Go.X
open Go.RowKit Go.V Go.Proofs
def qv9:GSpec TT:=⟨[.fn 45 [] [.ptr 0 57 [.tm .i64 (.bool)]]],[.blk 57 [.mpo 1],.tmap .i64 (.bool)],[.row 3 (.int .i64)],fun x=>zj2 x.1.2.1.1⟩
def qv8:GOk TT Tryz.prog 34 qv9:=jd7 Tryz.sorted0Call (by kernel_rfl)
def qw1:GSpec TT:=⟨[.fn 46 [] [.ptr 0 56 [.tm .i64 (.list (.int .u8))]]],[.blk 56 [.mpo 1],.tmap .i64 (.list (.int .u8))],[.row 3 (.int .i64)],fun x=>zj2 x.1.2.1.1⟩
def qw0:GOk TT Tryz.prog 34 qw1:=jd7 Tryz.sorted1Call (by kernel_rfl)
end Go.X
