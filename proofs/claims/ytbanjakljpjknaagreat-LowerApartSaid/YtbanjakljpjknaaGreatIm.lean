import Derived.Test.YtbanjakljpjknaaGreatTb
set_option linter.defProp false
namespace Go.X
open Go.RowKit Go.V Go.Proofs Tryz IntKind
noncomputable section
variable (n:Nat) (aA aB:Int)
def zav4:Ctx TT:=⟨za3,[],0,[],v7,za4,za2⟩
def wu4:=ze2 zav4 [] f32 ⟨[],[]⟩ [zi4,zi4] yp5
def qdf:tZ0:=wu4 n (aA,aB)
def uv0:qdf n aA aB=some (i64.wrap ((i64.wrap (1000003*(i64.wrap (aA+7))))+aB)):=by kernel_rfl
def uv2:FnSpec TT:=spY wu4
def uv1:ze3 32 uv2:=okY q8 func32
end
end Go.X
