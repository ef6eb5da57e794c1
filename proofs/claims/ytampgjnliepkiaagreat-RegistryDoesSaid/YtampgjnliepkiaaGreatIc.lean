import Derived.Test.YtampgjnliepkiaaGreatIb
import Derived.Test.YtampgjnliepkiaaGreatIm
set_option linter.defProp false
namespace Go.X
open Go.RowKit Go.V Go.Proofs Tryz IntKind
noncomputable section
variable (n:Nat) (aA aB:Int)
def wy9:Ctx TT:=ctZ [(50,qav_sp.toCall)] 0 []
def gv3:=zn0 wy9 [] f25 ⟨[],[(0,.user 0)]⟩ yt5 [.val (.user 0)]
def qcl:Option (Entry):=gv3 n (aA,aB)
def qcl_sp:FnSpec TT:=spY gv3
def vd4:zn7 25 qcl_sp:=okY (za0 (q8 vc7) v7) func25
end
end Go.X
