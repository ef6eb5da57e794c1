import Derived.Test.YtampgjnliepkiaaGreatTb
import Derived.Test.YtampgjnliepkiaaGreatSh
set_option linter.defProp false
namespace Go.X
open Go.RowKit Go.V Go.Proofs Tryz IntKind
noncomputable section
def sorted0_sp:GSpec TT:=⟨[.fn 61 [] [.ptr 0 62 [.tm .i64 (.bool)]]],[.blk 62 [.mpo 1],qb7],[.row 3 (.int .i64)],fun x=>zj6 x.1.2.1.1⟩
def qz5:GOk TT prog 41 sorted0_sp:=jf5 Tryz.sorted0Call (by kernel_rfl)
def sorted1_sp:GSpec TT:=⟨[.fn 62 [] [.ptr 0 61 [.tm .i64 (.list (.int .u8))]]],[.blk 61 [.mpo 1],qb8],[.row 3 (.int .i64)],fun x=>zj6 x.1.2.1.1⟩
def qz6:GOk TT prog 41 sorted1_sp:=jf5 Tryz.sorted1Call (by kernel_rfl)
end
end Go.X
