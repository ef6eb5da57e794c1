import Derived.Test.YtcepemagnfpmdaaGreatIg
set_option linter.defProp false
namespace Go.X
open Go.RowKit Go.V Go.Proofs
def gh9:qaz w7 zd4=some ((zd4,()),(((zd4++zj2 8000024 0 12),0,2),())):=by kernel_rfl
def gi0:qaz w7 exI=some ((exI,()),(((exI++zj2 8000024 0 12),0,1),())):=by kernel_rfl
def zt8 (x0:List Ins):Option ((List Ins×Unit)×((List Ins×Nat×Nat)×Unit)):=(match (zh1 x0 zd4) with|true=>some ((zd4,()),(((zd4++zj2 8000024 0 12),0,2),()))|false=>(match (zh1 x0 exI) with|true=>some ((exI,()),(((exI++zj2 8000024 0 12),0,1),()))|false=>none))
def yy4 (x0:List Ins) (y) (h:zt8 x0=some y):qaz w7 x0=some y:=by
 unfold zt8 at h;split at h
 ·rename_i hb;have h0:=hb;have e0:=zb9 h0;subst e0;exact (gh9).trans h
 split at h
 ·rename_i hb;have h0:=hb;have e0:=zb9 h0;subst e0;exact (gi0).trans h
 cases h
noncomputable def kitLentIns_g1T_sp:GSpec TT:=⟨[.row 52 (.user 2)],[.row 52 (.user 2)],[.slr 52 (.user 2)],fun x=>zt8 x.1⟩
def zc3:GOk TT Tryz.prog 21 kitLentIns_g1T_sp:=zw3 gh7 fun x y h=>yy4 x.1 y h
def gh5:qay w7 (zd4++zj2 8000024 0 12) 0 2 zd4=some (((zd4++zj2 8000024 0 12),zd4,()),(true,())):=by kernel_rfl
def gh6:qay w7 (exI++zj2 8000024 0 12) 0 1 exI=some (((exI++zj2 8000024 0 12),exI,()),(true,())):=by kernel_rfl
def zt7 (x0:List Ins) (x1:Nat) (x2:Nat) (x3:List Ins):Option ((List Ins×List Ins×Unit)×(Bool×Unit)):=(match (zh1 x0 (zd4++zj2 8000024 0 12))&&(Nat.beq x1 0)&&(Nat.beq x2 2)&&(zh1 x3 zd4) with|true=>some (((zd4++zj2 8000024 0 12),zd4,()),(true,()))|false=>(match (zh1 x0 (exI++zj2 8000024 0 12))&&(Nat.beq x1 0)&&(Nat.beq x2 1)&&(zh1 x3 exI) with|true=>some (((exI++zj2 8000024 0 12),exI,()),(true,()))|false=>none))
def yy3 (x0:List Ins) (x1:Nat) (x2:Nat) (x3:List Ins) (y) (h:zt7 x0 x1 x2 x3=some y):qay w7 x0 x1 x2 x3=some y:=by
 unfold zt7 at h;split at h
 ·rename_i hb;simp only [X3,and_assoc] at hb;obtain ⟨h0,h1,h2,h3⟩:=hb;have e0:=zb9 h0;subst e0;have e1:=X1 h1;subst e1;have e2:=X1 h2;subst e2;have e3:=zb9 h3;subst e3;exact (gh5).trans h
 split at h
 ·rename_i hb;simp only [X3,and_assoc] at hb;obtain ⟨h0,h1,h2,h3⟩:=hb;have e0:=zb9 h0;subst e0;have e1:=X1 h1;subst e1;have e2:=X1 h2;subst e2;have e3:=zb9 h3;subst e3;exact (gh6).trans h
 cases h
noncomputable def kitKeptIns_g1T_sp:GSpec TT:=⟨[.slr 52 (.user 2),.row 52 (.user 2)],[.row 52 (.user 2),.row 52 (.user 2)],[.val (.bool)],fun x=>zt7 x.1.1 x.1.2.1 x.1.2.2 x.2.1⟩
def zc2:GOk TT Tryz.prog 23 kitKeptIns_g1T_sp:=zw3 gh3 fun x y h=>yy3 x.1.1 x.1.2.1 x.1.2.2 x.2.1 y h
def gi4:qba w7 (zd4++zj2 8000024 0 12) 0 2=some (((zj2 9000027 0 14),()),()):=by kernel_rfl
def gi5:qba w7 (exI++zj2 8000024 0 12) 0 1=some (((zj2 9000027 0 13),()),()):=by kernel_rfl
def zt9 (x0:List Ins) (x1:Nat) (x2:Nat):Option ((List Ins×Unit)×(Unit)):=(match (zh1 x0 (zd4++zj2 8000024 0 12))&&(Nat.beq x1 0)&&(Nat.beq x2 2) with|true=>some (((zj2 9000027 0 14),()),())|false=>(match (zh1 x0 (exI++zj2 8000024 0 12))&&(Nat.beq x1 0)&&(Nat.beq x2 1) with|true=>some (((zj2 9000027 0 13),()),())|false=>none))
def yy5 (x0:List Ins) (x1:Nat) (x2:Nat) (y) (h:zt9 x0 x1 x2=some y):qba w7 x0 x1 x2=some y:=by
 unfold zt9 at h;split at h
 ·rename_i hb;simp only [X3,and_assoc] at hb;obtain ⟨h0,h1,h2⟩:=hb;have e0:=zb9 h0;subst e0;have e1:=X1 h1;subst e1;have e2:=X1 h2;subst e2;exact (gi4).trans h
 split at h
 ·rename_i hb;simp only [X3,and_assoc] at hb;obtain ⟨h0,h1,h2⟩:=hb;have e0:=zb9 h0;subst e0;have e1:=X1 h1;subst e1;have e2:=X1 h2;subst e2;exact (gi5).trans h
 cases h
noncomputable def kitOverIns_g1T_sp:GSpec TT:=⟨[.slr 52 (.user 2)],[.row 52 (.user 2)],[],fun x=>zt9 x.1.1 x.1.2.1 x.1.2.2⟩
def zc4:GOk TT Tryz.prog 24 kitOverIns_g1T_sp:=zw3 gi2 fun x y h=>yy5 x.1.1 x.1.2.1 x.1.2.2 y h
def gk7:qca w7 [1]=some (([1],()),((1::zu3,0,1),())):=by kernel_rfl
def zp4 (x0:List Int):Option ((List Int×Unit)×((List Int×Nat×Nat)×Unit)):=(match (jm5 x0 [1]) with|true=>some (([1],()),((1::zu3,0,1),()))|false=>none)
def yo8 (x0:List Int) (y) (h:zp4 x0=some y):qca w7 x0=some y:=by
 unfold zp4 at h;split at h
 ·rename_i hb;have h0:=hb;have e0:=yb2 h0;subst e0;exact (gk7).trans h
 cases h
noncomputable def kitLentBytes_g1T_sp:GSpec TT:=⟨[.row 5 (.int .u8)],[.row 5 (.int .u8)],[.slr 5 (.int .u8)],fun x=>zp4 x.1⟩
def zb3:GOk TT Tryz.prog 26 kitLentBytes_g1T_sp:=zw3 gk5 fun x y h=>yo8 x.1 y h
def gl0:qcb w7=some ((),((zu3,0,0),())):=by kernel_rfl
def zp5:Option ((Unit)×((List Int×Nat×Nat)×Unit)):=some ((),((zu3,0,0),()))
def yo9 (y) (h:zp5=some y):qcb w7=some y:=by
 unfold zp5 at h;exact (gl0).trans h
noncomputable def kitLentBytes_g2T_sp:GSpec TT:=⟨[.nils],[],[.slr 5 (.int .u8)],fun _=>zp5⟩
def zb4:GOk TT Tryz.prog 26 kitLentBytes_g2T_sp:=zw3 gk8 fun x y h=>yo9 y h
def gk0:qby w7 (1::zu3) 0 1 [1]=some ((1::zu3,[1],()),(true,())):=by kernel_rfl
def zp2 (x0:List Int) (x1:Nat) (x2:Nat) (x3:List Int):Option ((List Int×List Int×Unit)×(Bool×Unit)):=(match (jm5 x0 (1::zu3))&&(Nat.beq x1 0)&&(Nat.beq x2 1)&&(jm5 x3 [1]) with|true=>some ((1::zu3,[1],()),(true,()))|false=>none)
def yo6 (x0:List Int) (x1:Nat) (x2:Nat) (x3:List Int) (y) (h:zp2 x0 x1 x2 x3=some y):qby w7 x0 x1 x2 x3=some y:=by
 unfold zp2 at h;split at h
 ·rename_i hb;simp only [X3,and_assoc] at hb;obtain ⟨h0,h1,h2,h3⟩:=hb;have e0:=yb2 h0;subst e0;have e1:=X1 h1;subst e1;have e2:=X1 h2;subst e2;have e3:=yb2 h3;subst e3;exact (gk0).trans h
 cases h
noncomputable def kitKeptBytes_g1T_sp:GSpec TT:=⟨[.slr 5 (.int .u8),.row 5 (.int .u8)],[.row 5 (.int .u8),.row 5 (.int .u8)],[.val (.bool)],fun x=>zp2 x.1.1 x.1.2.1 x.1.2.2 x.2.1⟩
def zb1:GOk TT Tryz.prog 28 kitKeptBytes_g1T_sp:=zw3 gj8 fun x y h=>yo6 x.1.1 x.1.2.1 x.1.2.2 x.2.1 y h
def gk3:qbz w7 zu3 0 0=some ((zu3,()),(true,())):=by kernel_rfl
def zp3 (x0:List Int) (x1:Nat) (x2:Nat):Option ((List Int×Unit)×(Bool×Unit)):=(match (jm5 x0 zu3)&&(Nat.beq x1 0)&&(Nat.beq x2 0) with|true=>some ((zu3,()),(true,()))|false=>none)
def yo7 (x0:List Int) (x1:Nat) (x2:Nat) (y) (h:zp3 x0 x1 x2=some y):qbz w7 x0 x1 x2=some y:=by
 unfold zp3 at h;split at h
 ·rename_i hb;simp only [X3,and_assoc] at hb;obtain ⟨h0,h1,h2⟩:=hb;have e0:=yb2 h0;subst e0;have e1:=X1 h1;subst e1;have e2:=X1 h2;subst e2;exact (gk3).trans h
 cases h
noncomputable def kitKeptBytes_g2T_sp:GSpec TT:=⟨[.slr 5 (.int .u8),.nils],[.row 5 (.int .u8)],[.val (.bool)],fun x=>zp3 x.1.1 x.1.2.1 x.1.2.2⟩
def zb2:GOk TT Tryz.prog 28 kitKeptBytes_g2T_sp:=zw3 gk1 fun x y h=>yo7 x.1.1 x.1.2.1 x.1.2.2 y h
end Go.X
