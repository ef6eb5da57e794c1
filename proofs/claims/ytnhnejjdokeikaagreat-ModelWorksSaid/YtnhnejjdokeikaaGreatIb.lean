import Derived.Test.YtnhnejjdokeikaaGreatIa
set_option linter.defProp false
namespace Go.X
open Go.RowKit Go.V Go.Proofs Tryz
noncomputable section
def gk7:KF:=⟨eN,0,[],[],f77,z0,[.a4,.a1],[.a1]⟩
def qbn (n:Nat) (x0:Bool) (x1:Int):Option (Int):=tF gk7 n (x0,x1)
def wi2 (n:Nat) (x0 x1):qbn n x0 x1=j9 x0 (some x1) (some (0:Int)):=by kernel_rfl
def qc6:=okF gk7 func77
def go6:KG:=⟨cF kr9 (cF qc6 eN),1,[],[],f76,n0,[.a1,.ptr 0 91 [.c7]],[.blk 91 [.c7]],[.a1]⟩
def qdu (n:Nat) (x0:Int) (x1:List Ins):Option u19:=tG go6 n (x0,(x1,()),())
def wq3 (n:Nat) (x0 x1):qdu n x0 x1=if 0<=x0/\x0<((x1.length:Nat):Int) then (j7 (qa v8 (x1.getD x0.toNat zb1)) fun y1=>j7 (qbn v8 (!y1) (4:Int)) fun y2=>some (((x1,()),()),(y2,()))) else none:=by kernel_rfl
def wq4:=okG go6 func76
def gm2:KF:=⟨eN,0,[],[],f79,z0,[.d1],[.a4]⟩
def qck (n:Nat) (x0:Ins):Option (Bool):=tF gm2 n x0
def wk0 (n:Nat) (x0):qck n x0=j9 (decide (x0.Op>=(16:Int))) (some (decide (x0.Op<=(27:Int)))) (some false):=by kernel_rfl
def km9:=okF gm2 func79
def go7:KG:=⟨cF km9 (cF qc6 eN),1,[],[],f78,n0,[.a1,.ptr 0 91 [.c7]],[.blk 91 [.c7]],[.a1]⟩
def qdv (n:Nat) (x0:Int) (x1:List Ins):Option u19:=tG go7 n (x0,(x1,()),())
def wq5 (n:Nat) (x0 x1):qdv n x0 x1=if 0<=x0/\x0<((x1.length:Nat):Int) then (if 0<=x0/\x0<((x1.length:Nat):Int) then (j7 (qck v8 (x1.getD x0.toNat zb1)) fun y1=>j9 (!y1) (some (((x1,()),()),((0:Int),()))) (j9 (decide ((IntKind.i64.wrap ((IntKind.i64.wrap (x0+(1:Int)))+((x1.getD x0.toNat zb1).Off)))<=x0)) (some (((x1,()),()),((100:Int),()))) (j7 (qbn v8 (decide ((IntKind.i64.wrap ((IntKind.i64.wrap (x0+(1:Int)))+((x1.getD x0.toNat zb1).Off)))>=((x1.length:Nat):Int))) (101:Int)) fun y2=>some (((x1,()),()),(y2,()))))) else none) else none:=by kernel_rfl
def wq6:=okG go7 func78
def go8:KG:=⟨cF qc6 eN,1,[],[],f80,n0,[.a1,.ptr 0 91 [.c7]],[.blk 91 [.c7]],[.a1]⟩
def qdw (n:Nat) (x0:Int) (x1:List Ins):Option u19:=tG go8 n (x0,(x1,()),())
def wq7 (n:Nat) (x0 x1):qdw n x0 x1=j9 (x0==(IntKind.i64.wrap (((x1.length:Nat):Int)-(1:Int)))) (if 0<=x0/\x0<((x1.length:Nat):Int) then (j9 (((x1.getD x0.toNat zb1).Op) != (28:Int)) (if 0<=x0/\x0<((x1.length:Nat):Int) then (j7 (qbn v8 (((x1.getD x0.toNat zb1).Op) != (16:Int)) (102:Int)) fun y1=>some (((x1,()),()),(y1,()))) else none) (j7 (qbn v8 false (102:Int)) fun y2=>some (((x1,()),()),(y2,())))) else none) (j7 (qbn v8 false (102:Int)) fun y3=>some (((x1,()),()),(y3,()))):=by kernel_rfl
def wq8:=okG go8 func80
def gt6:KF:=⟨eN,0,[],[([I],qt [0,2]),([I,I],qt [0,2]),([I,I,I],qt [0,2])],f101,z0,[.a6],[.a1]⟩
def qfq (n:Nat) (x0:Int):Option (Int):=tF gt6 n x0
def wy7:=okF gt6 func101
def gt4:KF:=⟨cF wy7 eN,0,[],[],f62,z0,[.a6],[.a1]⟩
def qfo (n:Nat) (x0:Int):Option (Int):=tF gt4 n x0
def ko3:=okF gt4 func62
def gn7:KF:=⟨eN,0,[],[],f120,z0,[.a1],[.a4]⟩
def qdl (n:Nat) (x0:Int):Option (Bool):=tF gn7 n x0
def wo5 (n:Nat) (x0):qdl n x0=some (x0 != x0):=by kernel_rfl
def wo6:=okF gn7 func120
def gn0:KF:=⟨cF wo6 eN,0,[],[],f97,z0,[.a1,.a1],[.a4]⟩
def qct (n:Nat) (x0 x1:Int):Option (Bool):=tF gn0 n (x0,x1)
def wl0 (n:Nat) (x0 x1):qct n x0 x1=j7 (qdl v8 x0) fun y1=>j9 y1 (j7 (qdl v8 x1) fun y2=>j9 (!y2) (some true) (some (decide (x0<x1)))) (some (decide (x0<x1))):=by kernel_rfl
def kn7:=okF gn0 func97
def gt1:KF:=⟨cF kn7 eN,1,[(6,1)],[([O,I],qt [0,1,2,6]),([O,I,O,O,I,O,O,I],qt [0,1,2,6,7]),([O,O,O,I,O,O,I,O,O,I],qt [0,1,2,6,7,30])],f91,z0,[.io 3 (.int .i64),.a1,.a1],[]⟩
def qfl (n:Nat) (x0:List Int) (x1 x2:Int):Option u11:=tF gt1 n (x0,x1,x2)
def ko2:=okF gt1 func91
def gt5:KF:=⟨cF ko2 eN,1,[],[([O,I,I],qt [0,1,2,3,8,9]),([I,I,I,O,O,O,I,I],qt [0,1,2,3,8,9,10])],f61,z0,[.io 3 (.int .i64),.a1,.a1,.a1],[]⟩
def qfp (n:Nat) (x0:List Int) (x1 x2 x3:Int):Option u11:=tF gt5 n (x0,x1,x2,x3)
def ko4:=okF gt5 func61
def gs7:KF:=⟨cF ko3 (cF ko4 eN),1,[],[],f44,z0,[.io 3 (.int .i64)],[]⟩
def qfh (n:Nat) (x0:List Int):Option u11:=tF gs7 n x0
def wy0:=okF gs7 func44
def gt8:KG:=⟨cF kn7 eN,1,[(6,1)],[([O,I],qt [0,1,2,6]),([O,I,O,O,I,O,O,I],qt [0,1,2,6,7]),([O,O,O,I,O,O,I,O,O,I],qt [0,1,2,6,7,30])],f91,n0,[.slr 3 (.int .i64),.a1,.a1],[.d3],[]⟩
def qfs (n:Nat) (x0:List Int) (x1 x2:Nat) (x3 x4:Int):Option (u11×Unit):=tG gt8 n ((x0,x1,x2),x3,x4,())
def wy9:=okG gt8 func91
def gt9:KG:=⟨cE (q8 wy9 (zs5 ko2)) eN,1,[],[([O,I,I],qt [0,1,2,3,8,9]),([I,I,I,O,O,O,I,I],qt [0,1,2,3,8,9,10])],f61,n0,[.slr 3 (.int .i64),.a1,.a1,.a1],[.d3],[]⟩
def qft (n:Nat) (x0:List Int) (x1 x2:Nat) (x3 x4 x5:Int):Option (u11×Unit):=tG gt9 n ((x0,x1,x2),x3,x4,x5,())
def wz0:=okG gt9 func61
def gt3:KG:=⟨cF ko3 (cE (q8 wz0 (zs5 ko4)) eN),1,[],[],f44,n0,[.slr 3 (.int .i64)],[.d3],[]⟩
def qfn (n:Nat) (x0:List Int) (x1 x2:Nat):Option (u11×Unit):=tG gt3 n ((x0,x1,x2),())
def wy6:=okG gt3 func44
def gt2:KG:=⟨eN,1,[],[([O,I,O,I,I],qt [0,3]),([O,I,O,I,O,I,O,O,I,O,O,I,O,I,I],qt [0,3,4,5]),([I,O,O,I,O,I,O,I,O,O,I,O,O,I,O,I,I],qt [0,3,4,5])],f106,n0,[.slr 3 (.int .i64)],[.d3],[.part 0 1]⟩
def qfm (n:Nat) (x0:List Int) (x1 x2:Nat):Option (u11×u18):=tG gt2 n ((x0,x1,x2),())
def wy5:=okG gt2 func106
def gt0:KG:=⟨eN,1,[],[([O,I,O,I,I],qt [0,3]),([O,I,O,I,O,I,O,O,I,O,O,I,O,I,I],qt [0,3,4,5]),([I,O,O,I,O,I,O,I,O,O,I,O,O,I,O,I,I],qt [0,3,4,5])],f106,⟨[],[0],[],[],[]⟩,[.d3],[.d3],[.part 0 1]⟩
def qfk (n:Nat) (x0:List Int):Option (u11×u18):=tG gt0 n (x0,())
def wy4:=okG gt0 func106
def gw4:KG:=⟨cF kr9 (cF km9 (cE (q8 wy6 (zs5 wy0)) (cE (q8 wy4 (q8 wy5 (q9 106))) eN))),0,[],[([O,I],qt [0,1,29]),([I,I,I],qt [0,1,5])],f82,⟨[(0,3,.int .i64,false)],[],[],[],[]⟩,[.c7,.a1],[],[.slr 3 (.int .i64)]⟩
abbrev kx3:=Option (Unit×((List Int×Nat×Nat)×Unit))
def qz (n:Nat) (x0:List Ins) (x1:Int):kx3:=tG gw4 n (x0,x1,())
def qd0 (n:Nat) (s0:List Ins) (s1:Int) (s29:Bool):kx3:=uG gw4 n [O,I] ⟨[(0,.cell ⟨.list (.user 5),s0⟩),(1,ci s1),(29,cb s29)],[]⟩
def kx2 (n:Nat) (s0:List Ins) (s1:Int) (r0:List Int):kx3:=uG gw4 n [I,I,I] ⟨[(0,.cell ⟨.list (.user 5),s0⟩),(1,ci s1),(5,.own 0)],[.k39 r0]⟩
def ui1 (n:Nat) (x0 x1):qz n x0 x1=j9 (decide (x1<(0:Int))) (qd0 n x0 x1 true) (j9 (decide (x1>=((x0.length:Nat):Int))) (qd0 n x0 x1 true) (if 0<=x1/\x1<((x0.length:Nat):Int) then (j7 (qa v8 (x0.getD x1.toNat zb1)) fun y1=>j9 (!y1) (qd0 n x0 x1 true) (if 0<=x1/\x1<((x0.length:Nat):Int) then (qd0 n x0 x1 (((x0.getD x1.toNat zb1).Op)==(28:Int))) else none)) else none)):=by kernel_rfl
def ke6 (n:Nat) (s0 s1 s29):qd0 (n+1) s0 s1 s29=j9 s29 (some ((),((([]:List Int),0,0),()))) (if 0<=s1/\s1<((s0.length:Nat):Int) then (j7 (qck v8 (s0.getD s1.toNat zb1)) fun y1=>j9 y1 (if 0<=s1/\s1<((s0.length:Nat):Int) then (kx2 n s0 s1 ([IntKind.i64.wrap (s1+(1:Int)),IntKind.i64.wrap ((IntKind.i64.wrap (s1+(1:Int)))+((s0.getD s1.toNat zb1).Off))]:List Int)) else none) (kx2 n s0 s1 ([IntKind.i64.wrap (s1+(1:Int))]:List Int))) else none):=by kernel_rfl
def ke7 (n:Nat) (s0 s1 r0):kx2 (n+1) s0 s1 r0=if 0<=s1/\s1<((s0.length:Nat):Int) then (j9 (((s0.getD s1.toNat zb1).Op)==(16:Int)) (if 0<=(1:Int)/\(1:Int)<=((r0.length:Nat):Int)/\((r0.length:Nat):Int)<=((r0.length:Nat):Int) then (j7 (qfn v8 r0 1 ((((r0.length:Nat):Int).toNat)-1)) fun y1=>j7 (qfm v8 y1.1.1 1 ((((r0.length:Nat):Int).toNat)-1)) fun y2=>some ((),((y2.1.1,y2.2.1.1,y2.2.1.2),()))) else none) (j7 (qfh v8 r0) fun y3=>j7 (qfk v8 y3.1) fun y4=>some ((),((y4.1.1,y4.2.1.1,y4.2.1.2),())))) else none:=by kernel_rfl
def ui2:=okG gw4 func82
def gv6:KG:=⟨cG ui2 (cF qc6 eN),3,[(4,1)],[([O,I,O,I],qt [0,2,9,10,11]),([I,I,O,O,I,O,I],qt [0,2,9,10,11])],f81,n0,[.a1,.ptr 0 91 [.c7],.ptr 0 148 [.row 4 (.bool)]],[.blk 91 [.c7],.blk 148 [.own 2],.row 4 (.bool)],[.a1]⟩
abbrev kw5:=Option (((List Ins×Unit)×u8×List Bool×Unit)×u4)
def qs (n:Nat) (x0:Int) (x1:List Ins) (x2:List Bool):kw5:=tG gv6 n (x0,(x1,()),(x2,()),())
def jp0 (n:Nat) (s0:Int) (s9o s9n:Nat) (s10 s11:Int) (b0_0:List Ins) (r2:List Bool) (r3:List Int):kw5:=uG gv6 n [O,I,O,I] ⟨[(0,ci s0),(2,.ptr 1 0),(9,.sl 3 1 s9o s9n),(10,ci s10),(11,ci s11)],[.k40 b0_0,.blk 148 [.own 2],.row 4 (.bool) r2,.k39 r3]⟩
def kw4 (n:Nat) (s0:Int) (s9o s9n:Nat) (s10 s11:Int) (b0_0:List Ins) (r2:List Bool) (r3:List Int):kw5:=uG gv6 n [I,I,O,O,I,O,I] ⟨[(0,ci s0),(2,.ptr 1 0),(9,.sl 3 1 s9o s9n),(10,ci s10),(11,ci s11)],[.k40 b0_0,.blk 148 [.own 2],.row 4 (.bool) r2,.k39 r3]⟩
def uh0 (n:Nat) (x0 x1 x2):qs n x0 x1 x2=j7 (qz v8 x1 x0) fun y1=>jp0 n x0 y1.2.1.2.1 y1.2.1.2.2 ((y1.2.1.2.2:Nat):Int) (0:Int) x1 x2 y1.2.1.1:=by kernel_rfl
def ql6 (n:Nat) (s0 s9o s9n s10 s11 b0_0 r2 r3):jp0 (n+1) s0 s9o s9n s10 s11 b0_0 r2 r3=j9 (decide (s11<s10)) (if 0<=s11/\s11<((s9n:Nat):Int) then (if s9o+s11.toNat<r3.length then (if 0<=r3.getD (s9o+s11.toNat) (0:Int)/\r3.getD (s9o+s11.toNat) (0:Int)<((r2.length:Nat):Int) then (j9 (r2.getD ((r3.getD (s9o+s11.toNat) (0:Int)).toNat) false) (if 0<=r3.getD (s9o+s11.toNat) (0:Int)/\r3.getD (s9o+s11.toNat) (0:Int)<((r2.length:Nat):Int) then (kw4 n s0 s9o s9n s10 s11 b0_0 (r2.set ((r3.getD (s9o+s11.toNat) (0:Int)).toNat) true) r3) else none) (if 0<=s0/\s0<((r2.length:Nat):Int) then (if 0<=r3.getD (s9o+s11.toNat) (0:Int)/\r3.getD (s9o+s11.toNat) (0:Int)<((r2.length:Nat):Int) then (kw4 n s0 s9o s9n s10 s11 b0_0 (r2.set ((r3.getD (s9o+s11.toNat) (0:Int)).toNat) (r2.getD s0.toNat false)) r3) else none) else none)) else none) else none) else none) (if 0<=s0/\s0<((r2.length:Nat):Int) then (j7 (qbn v8 (!(r2.getD s0.toNat false)) (103:Int)) fun y1=>some (((b0_0,()),((),()),r2,()),(y1,()))) else none):=by kernel_rfl
def ql5 (n:Nat) (s0 s9o s9n s10 s11 b0_0 r2 r3):kw4 (n+1) s0 s9o s9n s10 s11 b0_0 r2 r3=jp0 n s0 s9o s9n s10 (IntKind.i64.wrap (s11+(1:Int))) b0_0 r2 r3:=by kernel_rfl
def uh1:=okG gv6 func81
def kn8:KG:=⟨cG wq4 (cG wq6 (cG wq8 (cG uh1 eN))),4,[],[([O,I,O,I],⟨[0,4,9,10,11],[],true,[],0,false⟩),([O,I,I,O,O,I,I,O,O,I,O,I],qt [0,4,6,9,10,11,15,16])],f75,n0,[.a1,.slb 1 4 151 [.fn 76 [] [.ptr 0 91 [.c7]],.fn 78 [] [.at_ 1 0],.fn 80 [] [.at_ 1 0],.fn 81 [] [.at_ 1 0,.ptr 0 148 [.row 4 (.bool)]]]],[.blk 151 [.fn 76 [] [.at_ 1 0],.fn 78 [] [.at_ 1 0],.fn 80 [] [.at_ 1 0],.fn 81 [] [.at_ 1 0,.at_ 2 0]],.blk 91 [.c7],.blk 148 [.own 3],.row 4 (.bool)],[.val (.user 6)]⟩
abbrev qu0:=Option ((((Unit×u8)×(Unit×u8)×(Unit×u8)×(Unit×(Unit×Unit×Unit))×Unit)×(List Ins×Unit)×u8×List Bool×Unit)×(Fault×Unit))
def qd (n:Nat) (x0:Int) (x1:List Ins) (x2:List Bool):qu0:=tG kn8 n (x0,(((),((x1,()),())),((),((),())),((),((),())),((),((),(x2,()),())),()),())
def jg1 (n:Nat) (s0 s15 s16:Int) (b1_0:List Ins) (r3:List Bool) (b4_0 b4_1:Int):qu0:=uG kn8 n [O,I,I,O,O,I,I,O,O,I,O,I] ⟨[(0,ci s0),(4,.ptr 4 0),(6,.fn (.func 76) [] [.ptr 1 0]),(9,.sl 0 1 0 4),(10,.cell ⟨.int .i64,(4:Int)⟩),(11,.cell ⟨.int .i64,(0:Int)⟩),(15,ci s15),(16,ci s16)],[.b8,.k40 b1_0,.blk 148 [.own 3],.row 4 (.bool) r3,.k41 b4_0 b4_1]⟩
def yk7 (n:Nat) (s0 s15 s16:Int) (b1_0:List Ins) (r3:List Bool) (b4_0 b4_1:Int):qu0:=uG kn8 n [O,I,I,O,O,I,I,O,O,I,O,I] ⟨[(0,ci s0),(4,.ptr 4 0),(6,.fn (.func 78) [] [.ptr 1 0]),(9,.sl 0 1 0 4),(10,.cell ⟨.int .i64,(4:Int)⟩),(11,.cell ⟨.int .i64,(1:Int)⟩),(15,ci s15),(16,ci s16)],[.b8,.k40 b1_0,.blk 148 [.own 3],.row 4 (.bool) r3,.k41 b4_0 b4_1]⟩
def yk8 (n:Nat) (s0 s15 s16:Int) (b1_0:List Ins) (r3:List Bool) (b4_0 b4_1:Int):qu0:=uG kn8 n [O,I,I,O,O,I,I,O,O,I,O,I] ⟨[(0,ci s0),(4,.ptr 4 0),(6,.fn (.func 80) [] [.ptr 1 0]),(9,.sl 0 1 0 4),(10,.cell ⟨.int .i64,(4:Int)⟩),(11,.cell ⟨.int .i64,(2:Int)⟩),(15,ci s15),(16,ci s16)],[.b8,.k40 b1_0,.blk 148 [.own 3],.row 4 (.bool) r3,.k41 b4_0 b4_1]⟩
def yk9 (n:Nat) (s0 s15 s16:Int) (b1_0:List Ins) (r3:List Bool) (b4_0 b4_1:Int):qu0:=uG kn8 n [O,I,I,O,O,I,I,O,O,I,O,I] ⟨[(0,ci s0),(4,.ptr 4 0),(6,.fn (.func 81) [] [.ptr 1 0,.ptr 2 0]),(9,.sl 0 1 0 4),(10,.cell ⟨.int .i64,(4:Int)⟩),(11,.cell ⟨.int .i64,(3:Int)⟩),(15,ci s15),(16,ci s16)],[.b8,.k40 b1_0,.blk 148 [.own 3],.row 4 (.bool) r3,.k41 b4_0 b4_1]⟩
def uf2 (n:Nat) (x0 x1 x2):qd (n+1) x0 x1 x2=jg1 n x0 x0 (0:Int) x1 x2 (0:Int) (0:Int):=by kernel_rfl
def jj1 (n:Nat) (s0 s15 s16 b1_0 r3 b4_0 b4_1):jg1 (n+2) s0 s15 s16 b1_0 r3 b4_0 b4_1=j9 (decide (s16<s15)) (j7 (qdu v8 s16 b1_0) fun y1=>j9 (y1.2.1 != (0:Int)) (some (((((),((),())),((),((),())),((),((),())),((),((),(),())),()),(y1.1.1.1,()),((),()),r3,()),((⟨y1.2.1,s16⟩:Fault),()))) (jg1 (n+1) s0 s15 (IntKind.i64.wrap (s16+(1:Int))) y1.1.1.1 r3 b4_0 b4_1)) (yk7 n s0 s0 (0:Int) b1_0 r3 b4_0 b4_1):=by kernel_rfl
def yv5 (n:Nat) (s0 s15 s16 b1_0 r3 b4_0 b4_1):yk7 (n+2) s0 s15 s16 b1_0 r3 b4_0 b4_1=j9 (decide (s16<s15)) (j7 (qdv v8 s16 b1_0) fun y1=>j9 (y1.2.1 != (0:Int)) (some (((((),((),())),((),((),())),((),((),())),((),((),(),())),()),(y1.1.1.1,()),((),()),r3,()),((⟨y1.2.1,s16⟩:Fault),()))) (yk7 (n+1) s0 s15 (IntKind.i64.wrap (s16+(1:Int))) y1.1.1.1 r3 b4_0 b4_1)) (yk8 n s0 s0 (0:Int) b1_0 r3 b4_0 b4_1):=by kernel_rfl
def yv6 (n:Nat) (s0 s15 s16 b1_0 r3 b4_0 b4_1):yk8 (n+2) s0 s15 s16 b1_0 r3 b4_0 b4_1=j9 (decide (s16<s15)) (j7 (qdw v8 s16 b1_0) fun y1=>j9 (y1.2.1 != (0:Int)) (some (((((),((),())),((),((),())),((),((),())),((),((),(),())),()),(y1.1.1.1,()),((),()),r3,()),((⟨y1.2.1,s16⟩:Fault),()))) (yk8 (n+1) s0 s15 (IntKind.i64.wrap (s16+(1:Int))) y1.1.1.1 r3 b4_0 b4_1)) (yk9 n s0 s0 (0:Int) b1_0 r3 b4_0 b4_1):=by kernel_rfl
def yv7 (n:Nat) (s0 s15 s16 b1_0 r3 b4_0 b4_1):yk9 (n+2) s0 s15 s16 b1_0 r3 b4_0 b4_1=j9 (decide (s16<s15)) (j7 (qs v8 s16 b1_0 r3) fun y1=>j9 (y1.2.1 != (0:Int)) (some (((((),((),())),((),((),())),((),((),())),((),((),(),())),()),(y1.1.1.1,()),((),()),y1.1.2.2.1,()),((⟨y1.2.1,s16⟩:Fault),()))) (yk9 (n+1) s0 s15 (IntKind.i64.wrap (s16+(1:Int))) y1.1.1.1 y1.1.2.2.1 b4_0 b4_1)) (some (((((),((),())),((),((),())),((),((),())),((),((),(),())),()),(b1_0,()),((),()),r3,()),((⟨(0:Int),(0:Int)⟩:Fault),()))):=by kernel_rfl
def uf3:=okG kn8 func75
def go5:KF:=⟨cG uf3 eN,0,[],[],f58,z0,[.c7],[.val (.user 6)]⟩
def qdt (n:Nat) (x0:List Ins):Option (Fault):=tF go5 n x0
def wq1 (n:Nat) (x0):qdt n x0=j9 (((x0.length:Nat):Int)==(0:Int)) (some (⟨(6:Int),(0:Int)⟩:Fault)) (j9 (decide (((x0.length:Nat):Int)>(4096:Int))) (some (⟨(3:Int),(0:Int)⟩:Fault)) (if 0<=((x0.length:Nat):Int)/\((x0.length:Nat):Int)<=((x0.length:Nat):Int)/\1*(((x0.length:Nat):Int).toNat)<=281474976710656/\((x0.length:Nat):Int)<=9223372036854775807 then (if 0<=(0:Int)/\(0:Int)<(((List.replicate (((x0.length:Nat):Int).toNat) false).length:Nat):Int) then (j7 (qd v8 ((x0.length:Nat):Int) x0 ((List.replicate (((x0.length:Nat):Int).toNat) false).set 0 true)) fun y1=>some y1.2.1) else none) else none)):=by kernel_rfl
def wq2:=okF go5 func58
end
end Go.X
