import Derived.Test.YtcepemagnfpmdaaGreatIc
set_option linter.defProp false
namespace Go.X
open Go.RowKit Go.V Go.Proofs
def gg5:qan w7 zd4=some ([⟨1,0,false,0,0,0,7,0,0⟩,⟨9,0,false,0,0,0,0,0,0⟩],⟨0,0⟩):=by kernel_rfl
def gg6:qan w7 ja9=some ([⟨2,0,false,0,2,0,0,0,0⟩,⟨9,0,false,0,0,0,0,0,0⟩],⟨0,0⟩):=by kernel_rfl
def yo0 (x0:List Ins):Option (List Flat×Fault):=(match (zh1 x0 zd4) with|true=>some ([⟨1,0,false,0,0,0,7,0,0⟩,⟨9,0,false,0,0,0,0,0,0⟩],⟨0,0⟩)|false=>(match (zh1 x0 ja9) with|true=>some ([⟨2,0,false,0,2,0,0,0,0⟩,⟨9,0,false,0,0,0,0,0,0⟩],⟨0,0⟩)|false=>none))
def jx5 (x0:List Ins) (y) (h:yo0 x0=some y):qan w7 x0=some y:=by
 unfold yo0 at h;split at h
 ·rename_i hb;have h0:=hb;have e0:=zb9 h0;subst e0;exact (gg5).trans h
 split at h
 ·rename_i hb;have h0:=hb;have e0:=zb9 h0;subst e0;exact (gg6).trans h
 cases h
noncomputable def lowerMakeT_sp:FnSpec TT:=⟨qan_sp.ps,qan_sp.rs,fun x=>yo0 x⟩
def yl2:zd9 TT Tryz.prog 35 lowerMakeT_sp:=yi9 gg4 fun x y h=>jx5 x y h
end Go.X
