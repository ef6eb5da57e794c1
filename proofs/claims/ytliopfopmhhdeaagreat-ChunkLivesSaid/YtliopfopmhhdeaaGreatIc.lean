import Derived.Test.YtliopfopmhhdeaaGreatIj
import Derived.Test.YtliopfopmhhdeaaGreatAh
set_option linter.defProp false
namespace Go.X
open Go.RowKit Go.V Go.Proofs Tryz
noncomputable section
def qo_C:Ctx TT:=⟨zs0,[(27,kit_markByte_sp.toCall)],0,[],zg5,zr6,zr9⟩
def ku2:za0 TT prog qo_C.E:=zg2 (zb0 zl6) (zb9)
def jx3:List (Pos×Cut):= [([false,true,false,true,true,true],⟨[0,3,4],[],false,[],0,false⟩)]
def qo (n:Nat) (x0:List Int):Option ((Unit)×((List Int×Nat×Nat)×Unit)):=yi9 TT prog qo_C jx3 f7 (j9 f7) ⟨[],[],[],[],[]⟩ [.val (.list (.int .u8))] [] [.slr 5 (.int .u8)] n (x0,())
noncomputable abbrev gf3:=qu8 TT prog qo_C jx3 f7 (j9 f7) ⟨[],[],[],[],[]⟩ [] [.slr 5 (.int .u8)]
def jn7 (n:Nat) (s0:List Int) (s4:Int) (r0:List Int):Option ((Unit)×((List Int×Nat×Nat)×Unit)):=gf3 n [false,true,false,true,true,true] ⟨[(0,.cell ⟨.list (.int .u8),s0⟩),(3,.own 0),(4,ci s4)],[.row 5 (.int .u8) r0]⟩
def ga1 (n:Nat) (x0):qo n x0=if 0<=(0:Int)/\(0:Int)<=IntKind.i64.wrap (((x0.length:Nat):Int)+(12:Int))/\1*((IntKind.i64.wrap (((x0.length:Nat):Int)+(12:Int))).toNat)<=281474976710656/\IntKind.i64.wrap (((x0.length:Nat):Int)+(12:Int))<=9223372036854775807 then (if ((List.replicate 0 (0:Int)).length+x0.length)*1<=140737488355328 then (jn7 n x0 (0:Int) ((List.replicate 0 (0:Int))++x0)) else none) else none:=by kernel_rfl
def qj1 (n:Nat) (s0 s4 r0):jn7 (n+1) s0 s4 r0=z7 (decide (s4<(12:Int))) (j7 (zb6 BIG (1:Int) s4) fun y1=>if (r0.length+1)*1<=140737488355328 then (jn7 n s0 (IntKind.i64.wrap (s4+(1:Int))) (r0++([y1]:List Int))) else none) (if 0<=(0:Int)/\(0:Int)<=((s0.length:Nat):Int)/\((s0.length:Nat):Int)<=((r0.length:Nat):Int) then (some ((),((r0,0,(((s0.length:Nat):Int).toNat)-0),()))) else none):=by kernel_rfl
def qo_sp:GSpec TT:=⟨[.val (.list (.int .u8))],[],[.slr 5 (.int .u8)],fun x=>qo BIG x.1⟩
def ga2:GOk TT prog 7 qo_sp:=zj1 (C:=qo_C) (cuts:=jx3) (by kernel_rfl) ku2 func7 (show f7.body=some (j9 f7) by kernel_rfl) (by kernel_rfl) (by kernel_rfl) (by kernel_rfl) fun x y h=>⟨BIG,h⟩
def qj_C:Ctx TT:=⟨zs0,[],0,[],zg5,zr6,zr9⟩
def kt7:za0 TT prog qj_C.E:=zb9
def jx1:List (Pos×Cut):= [([false,true,false,true,true],⟨[0,1,5],[],false,[],0,false⟩)]
def qj (n:Nat) (x0 x1:List Int):Option (Bool):=js4 TT prog qj_C jx1 f21 (j9 f21) ⟨[],[]⟩ [.val (.list (.int .u8)),.val (.list (.int .u8))] [.val (.bool)] n (x0,x1)
noncomputable abbrev gf1:=kk2 TT prog qj_C jx1 f21 (j9 f21) ⟨[],[]⟩ [.val (.list (.int .u8)),.val (.list (.int .u8))] [.val (.bool)]
def jn5 (n:Nat) (s0 s1:List Int) (s5:Int):Option (Bool):=gf1 n [false,true,false,true,true] ⟨[(0,.cell ⟨.list (.int .u8),s0⟩),(1,.cell ⟨.list (.int .u8),s1⟩),(5,ci s5)],[]⟩
def kz6 (n:Nat) (x0 x1):qj n x0 x1=z7 (((x0.length:Nat):Int) != ((x1.length:Nat):Int)) (some false) (jn5 n x0 x1 (0:Int)):=by kernel_rfl
def qi9 (n:Nat) (s0 s1 s5):jn5 (n+1) s0 s1 s5=z7 (decide (s5<((s0.length:Nat):Int))) (if 0<=s5/\s5<((s0.length:Nat):Int) then (if 0<=s5/\s5<((s1.length:Nat):Int) then (z7 ((s0.getD s5.toNat (0:Int)) != (s1.getD s5.toNat (0:Int))) (some false) (jn5 n s0 s1 (IntKind.i64.wrap (s5+(1:Int))))) else none) else none) (some true):=by kernel_rfl
def qj_sp:FnSpec TT:=⟨[.val (.list (.int .u8)),.val (.list (.int .u8))],[.val (.bool)],fun x=>qj BIG x.1 x.2⟩
def kn2:yt7 TT prog 21 qj_sp:=zp8 (C:=qj_C) (by kernel_rfl) kt7 func21 (show f21.body=some (j9 f21) by kernel_rfl) (by kernel_rfl) (by kernel_rfl) (cuts:=jx1) fun x y h=>⟨BIG,h⟩
def qf_C:Ctx TT:=⟨zs0,[(27,kit_markByte_sp.toCall)],1,[],zg5,zr6,zr9⟩
def kt3:za0 TT prog qf_C.E:=zg2 (zb0 zl6) (zb9)
def jw7:List (Pos×Cut):= [([false,true,false,true,true,true],⟨[1,5,6],[],false,[],0,false⟩),([false,false,true,false,false,true,false,true,true,true],⟨[1,5,6,57],[],false,[],0,false⟩)]
def qf (n:Nat) (x0:List Int) (x1 x2:Nat) (x3:List Int):Option ((List Int×Unit)×(Bool×Unit)):=yi9 TT prog qf_C jw7 f11 (j9 f11) ⟨[],[],[],[],[]⟩ [.slr 5 (.int .u8),.val (.list (.int .u8))] [.row 5 (.int .u8)] [.val (.bool)] n ((x0,x1,x2),x3,())
noncomputable abbrev gd4:=qu8 TT prog qf_C jw7 f11 (j9 f11) ⟨[],[],[],[],[]⟩ [.row 5 (.int .u8)] [.val (.bool)]
def jg0 (n:Nat) (s1:List Int) (s5o s5n:Nat) (s6:Int) (r0:List Int):Option ((List Int×Unit)×(Bool×Unit)):=gd4 n [false,true,false,true,true,true] ⟨[(1,.cell ⟨.list (.int .u8),s1⟩),(5,.sl 0 1 s5o s5n),(6,ci s6)],[.row 5 (.int .u8) r0]⟩
def jn2 (n:Nat) (s1:List Int) (s5o s5n:Nat) (s6:Int) (s57:Bool) (r0:List Int):Option ((List Int×Unit)×(Bool×Unit)):=gd4 n [false,false,true,false,false,true,false,true,true,true] ⟨[(1,.cell ⟨.list (.int .u8),s1⟩),(5,.sl 0 1 s5o s5n),(6,ci s6),(57,cb s57)],[.row 5 (.int .u8) r0]⟩
def kz1 (n:Nat) (x0 x1 x2 x3):qf n x0 x1 x2 x3=z7 (((x2:Nat):Int) != ((x3.length:Nat):Int)) (some ((x0,()),(false,()))) (if 0<=(0:Int)/\(0:Int)<=IntKind.i64.wrap (((x3.length:Nat):Int)+(12:Int))/\(IntKind.i64.wrap (((x3.length:Nat):Int)+(12:Int))<=((x2:Nat):Int)\/(((x1:Nat):Int)+IntKind.i64.wrap (((x3.length:Nat):Int)+(12:Int))<=((x0.length:Nat):Int)/\(x1=0\/0<x2))) then (jg0 n x3 (x1+0) (((IntKind.i64.wrap (((x3.length:Nat):Int)+(12:Int))).toNat)-0) (0:Int) x0) else none):=by kernel_rfl
def qi5 (n:Nat) (s1 s5o s5n s6 r0):jg0 (n+1) s1 s5o s5n s6 r0=z7 (decide (s6<((s5n:Nat):Int))) (z7 (decide (s6<((s1.length:Nat):Int))) (if 0<=s6/\s6<((s5n:Nat):Int) then (if s5o+s6.toNat<r0.length then (if 0<=s6/\s6<((s1.length:Nat):Int) then (z7 (!((r0.getD (s5o+s6.toNat) (0:Int))==(s1.getD s6.toNat (0:Int)))) (jn2 n s1 s5o s5n s6 true r0) (z7 (decide (s6>=((s1.length:Nat):Int))) (if 0<=s6/\s6<((s5n:Nat):Int) then (if s5o+s6.toNat<r0.length then (j7 (zb6 BIG (1:Int) (IntKind.i64.wrap (s6-((s1.length:Nat):Int)))) fun y1=>jn2 n s1 s5o s5n s6 (!((r0.getD (s5o+s6.toNat) (0:Int))==y1)) r0) else none) else none) (jn2 n s1 s5o s5n s6 false r0))) else none) else none) else none) (z7 (decide (s6>=((s1.length:Nat):Int))) (if 0<=s6/\s6<((s5n:Nat):Int) then (if s5o+s6.toNat<r0.length then (j7 (zb6 BIG (1:Int) (IntKind.i64.wrap (s6-((s1.length:Nat):Int)))) fun y2=>jn2 n s1 s5o s5n s6 (!((r0.getD (s5o+s6.toNat) (0:Int))==y2)) r0) else none) else none) (jn2 n s1 s5o s5n s6 false r0))) (some ((r0,()),(true,()))):=by kernel_rfl
def vt6 (n:Nat) (s1 s5o s5n s6 s57 r0):jn2 (n+1) s1 s5o s5n s6 s57 r0=z7 s57 (some ((r0,()),(false,()))) (jg0 n s1 s5o s5n (IntKind.i64.wrap (s6+(1:Int))) r0):=by kernel_rfl
def qf_sp:GSpec TT:=⟨[.slr 5 (.int .u8),.val (.list (.int .u8))],[.row 5 (.int .u8)],[.val (.bool)],fun x=>qf BIG x.1.1 x.1.2.1 x.1.2.2 x.2.1⟩
def kz2:GOk TT prog 11 qf_sp:=zj1 (C:=qf_C) (cuts:=jw7) (by kernel_rfl) kt3 func11 (show f11.body=some (j9 f11) by kernel_rfl) (by kernel_rfl) (by kernel_rfl) (by kernel_rfl) fun x y h=>⟨BIG,h⟩
end
end Go.X
