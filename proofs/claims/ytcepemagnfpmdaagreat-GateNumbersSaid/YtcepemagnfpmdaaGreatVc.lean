import Derived.Test.YtcepemagnfpmdaaGreatIe
set_option linter.defProp false
namespace Go.X
open Go.RowKit Go.V Go.Proofs
def gh1:qap w7 zd4=some ⟨0,0⟩:=by kernel_rfl
def gh2:qap w7 exI=some ⟨110,0⟩:=by kernel_rfl
def yc2 (x0:List Ins):Option (Fault):=(match (zh1 x0 zd4) with|true=>some ⟨0,0⟩|false=>(match (zh1 x0 exI) with|true=>some ⟨110,0⟩|false=>none))
def jl0 (x0:List Ins) (y) (h:yc2 x0=some y):qap w7 x0=some y:=by
 unfold yc2 at h;split at h
 ·rename_i hb;have h0:=hb;have e0:=zb9 h0;subst e0;exact (gh1).trans h
 split at h
 ·rename_i hb;have h0:=hb;have e0:=zb9 h0;subst e0;exact (gh2).trans h
 cases h
noncomputable def ref14FilterT_sp:FnSpec TT:=⟨qap_sp.ps,qap_sp.rs,fun x=>yc2 x⟩
def yd4:zd9 TT Tryz.prog 38 ref14FilterT_sp:=yi9 gh0 fun x y h=>jl0 x y h
def gg8:qao w7 zd4 [1]=some ⟨0,0,7,2⟩:=by kernel_rfl
def gg9:qao w7 zd4 []=some ⟨0,0,7,2⟩:=by kernel_rfl
def yw2 (x0:List Ins) (x1:List Int):Option (Outcome):=(match (zh1 x0 zd4)&&(jm5 x1 [1]) with|true=>some ⟨0,0,7,2⟩|false=>(match (zh1 x0 zd4)&&(jm5 x1 []) with|true=>some ⟨0,0,7,2⟩|false=>none))
def qw4 (x0:List Ins) (x1:List Int) (y) (h:yw2 x0 x1=some y):qao w7 x0 x1=some y:=by
 unfold yw2 at h;split at h
 ·rename_i hb;simp only [X3] at hb;obtain ⟨h0,h1⟩:=hb;have e0:=zb9 h0;subst e0;have e1:=yb2 h1;subst e1;exact (gg8).trans h
 split at h
 ·rename_i hb;simp only [X3] at hb;obtain ⟨h0,h1⟩:=hb;have e0:=zb9 h0;subst e0;have e1:=yb2 h1;subst e1;exact (gg9).trans h
 cases h
noncomputable def ref10RunT_sp:FnSpec TT:=⟨qao_sp.ps,qao_sp.rs,fun x=>yw2 x.1 x.2⟩
def yp7:zd9 TT Tryz.prog 41 ref10RunT_sp:=yi9 gg7 fun x y h=>qw4 x.1 x.2 y h
end Go.X
