import Derived.Test.YtcepemagnfpmdaaGreatIb
import Derived.Test.YtcepemagnfpmdaaGreatTh
set_option linter.defProp false
namespace Go.X
open Go.RowKit Go.V Go.Proofs
def gg1:qai w7 zd4=some ⟨0,0⟩:=by kernel_rfl
def gg2:qai w7 exI=some ⟨110,0⟩:=by kernel_rfl
def gg3:qai w7 ja9=some ⟨0,0⟩:=by kernel_rfl
def zf0 (x0:List Ins):Option (Fault):=(match (zh1 x0 zd4) with|true=>some ⟨0,0⟩|false=>(match (zh1 x0 exI) with|true=>some ⟨110,0⟩|false=>(match (zh1 x0 ja9) with|true=>some ⟨0,0⟩|false=>none)))
def ji9 (x0:List Ins) (y) (h:zf0 x0=some y):qai w7 x0=some y:=by
 unfold zf0 at h;split at h
 ·rename_i hb;have h0:=hb;have e0:=zb9 h0;subst e0;exact (gg1).trans h
 split at h
 ·rename_i hb;have h0:=hb;have e0:=zb9 h0;subst e0;exact (gg2).trans h
 split at h
 ·rename_i hb;have h0:=hb;have e0:=zb9 h0;subst e0;exact (gg3).trans h
 cases h
noncomputable def checkFilterT_sp:FnSpec TT:=⟨qai_sp.ps,qai_sp.rs,fun x=>zf0 x⟩
def zb6:zd9 TT Tryz.prog 14 checkFilterT_sp:=yi9 gg0 fun x y h=>ji9 x y h
end Go.X
