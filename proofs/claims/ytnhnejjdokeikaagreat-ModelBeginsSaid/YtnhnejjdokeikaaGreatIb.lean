import Derived.Test.YtnhnejjdokeikaaGreatIa
set_option linter.defProp false
namespace Go.X
open Go.RowKit Go.V Go.Proofs Tryz
noncomputable section
def gm4:KF:=⟨eN,0,[],[],f77,z0,[.a4,.a1],[.a1]⟩
def qbq (n:Nat) (x0:Bool) (x1:Int):Option (Int):=tF gm4 n (x0,x1)
def wl3 (n:Nat) (x0 x1):qbq n x0 x1=j8 x0 (some x1) (some (0:Int)):=by kernel_rfl
def qe2:=okF gm4 func77
def gq6:KG:=⟨cF kt2 (cF qe2 eN),1,[],[],f76,n0,[.a1,.ptr 0 91 [.c7]],[.blk 91 [.c7]],[.a1]⟩
def qdz (n:Nat) (x0:Int) (x1:List Ins):Option u19:=tG gq6 n (x0,(x1,()),())
def wt9 (n:Nat) (x0 x1):qdz n x0 x1=if 0<=x0/\x0<((x1.length:Nat):Int) then (j7 (qa v7 (x1.getD x0.toNat zb2)) fun y1=>j7 (qbq v7 (!y1) (4:Int)) fun y2=>some (((x1,()),()),(y2,()))) else none:=by kernel_rfl
def wu0:=okG gq6 func76
def gn9:KF:=⟨eN,0,[],[],f79,z0,[.d1],[.a4]⟩
def qcn (n:Nat) (x0:Ins):Option (Bool):=tF gn9 n x0
def wn1 (n:Nat) (x0):qcn n x0=j8 (decide (x0.Op>=(16:Int))) (some (decide (x0.Op<=(27:Int)))) (some false):=by kernel_rfl
def kn8:=okF gn9 func79
def gq9:KG:=⟨cF kn8 (cF qe2 eN),1,[],[],f78,n0,[.a1,.ptr 0 91 [.c7]],[.blk 91 [.c7]],[.a1]⟩
def qea (n:Nat) (x0:Int) (x1:List Ins):Option u19:=tG gq9 n (x0,(x1,()),())
def wu1 (n:Nat) (x0 x1):qea n x0 x1=if 0<=x0/\x0<((x1.length:Nat):Int) then (if 0<=x0/\x0<((x1.length:Nat):Int) then (j7 (qcn v7 (x1.getD x0.toNat zb2)) fun y1=>j8 (!y1) (some (((x1,()),()),((0:Int),()))) (j8 (decide ((IntKind.i64.wrap ((IntKind.i64.wrap (x0+(1:Int)))+((x1.getD x0.toNat zb2).Off)))<=x0)) (some (((x1,()),()),((100:Int),()))) (j7 (qbq v7 (decide ((IntKind.i64.wrap ((IntKind.i64.wrap (x0+(1:Int)))+((x1.getD x0.toNat zb2).Off)))>=((x1.length:Nat):Int))) (101:Int)) fun y2=>some (((x1,()),()),(y2,()))))) else none) else none:=by kernel_rfl
def wu2:=okG gq9 func78
def gr0:KG:=⟨cF qe2 eN,1,[],[],f80,n0,[.a1,.ptr 0 91 [.c7]],[.blk 91 [.c7]],[.a1]⟩
def qeb (n:Nat) (x0:Int) (x1:List Ins):Option u19:=tG gr0 n (x0,(x1,()),())
def wu3 (n:Nat) (x0 x1):qeb n x0 x1=j8 (x0==(IntKind.i64.wrap (((x1.length:Nat):Int)-(1:Int)))) (if 0<=x0/\x0<((x1.length:Nat):Int) then (j8 (((x1.getD x0.toNat zb2).Op) != (28:Int)) (if 0<=x0/\x0<((x1.length:Nat):Int) then (j7 (qbq v7 (((x1.getD x0.toNat zb2).Op) != (16:Int)) (102:Int)) fun y1=>some (((x1,()),()),(y1,()))) else none) (j7 (qbq v7 false (102:Int)) fun y2=>some (((x1,()),()),(y2,())))) else none) (j7 (qbq v7 false (102:Int)) fun y3=>some (((x1,()),()),(y3,()))):=by kernel_rfl
def wu4:=okG gr0 func80
def gv7:KF:=⟨eN,0,[],[([I],qt [0,2]),([I,I],qt [0,2]),([I,I,I],qt [0,2])],f101,z0,[.a6],[.a1]⟩
def qfw (n:Nat) (x0:Int):Option (Int):=tF gv7 n x0
def uc3:=okF gv7 func101
def gv4:KF:=⟨cF uc3 eN,0,[],[],f62,z0,[.a6],[.a1]⟩
def qft (n:Nat) (x0:Int):Option (Int):=tF gv4 n x0
def kp1:=okF gv4 func62
def gp5:KF:=⟨eN,0,[],[],f120,z0,[.a1],[.a4]⟩
def qdo (n:Nat) (x0:Int):Option (Bool):=tF gp5 n x0
def wr7 (n:Nat) (x0):qdo n x0=some (x0 != x0):=by kernel_rfl
def wr8:=okF gp5 func120
def go7:KF:=⟨cF wr8 eN,0,[],[],f97,z0,[.a1,.a1],[.a4]⟩
def qcw (n:Nat) (x0 x1:Int):Option (Bool):=tF go7 n (x0,x1)
def wo1 (n:Nat) (x0 x1):qcw n x0 x1=j7 (qdo v7 x0) fun y1=>j8 y1 (j7 (qdo v7 x1) fun y2=>j8 (!y2) (some true) (some (decide (x0<x1)))) (some (decide (x0<x1))):=by kernel_rfl
def ko6:=okF go7 func97
def gv1:KF:=⟨cF ko6 eN,1,[(6,1)],[([O,I],qt [0,1,2,6]),([O,I,O,O,I,O,O,I],qt [0,1,2,6,7]),([O,O,O,I,O,O,I,O,O,I],qt [0,1,2,6,7,30])],f91,z0,[.io 3 (.int .i64),.a1,.a1],[]⟩
def qfq (n:Nat) (x0:List Int) (x1 x2:Int):Option u11:=tF gv1 n (x0,x1,x2)
def kp0:=okF gv1 func91
def gv6:KF:=⟨cF kp0 eN,1,[],[([O,I,I],qt [0,1,2,3,8,9]),([I,I,I,O,O,O,I,I],qt [0,1,2,3,8,9,10])],f61,z0,[.io 3 (.int .i64),.a1,.a1,.a1],[]⟩
def qfv (n:Nat) (x0:List Int) (x1 x2 x3:Int):Option u11:=tF gv6 n (x0,x1,x2,x3)
def kp2:=okF gv6 func61
def gu7:KF:=⟨cF kp1 (cF kp2 eN),1,[],[],f44,z0,[.io 3 (.int .i64)],[]⟩
def qfm (n:Nat) (x0:List Int):Option u11:=tF gu7 n x0
def ub5:=okF gu7 func44
def gv8:KG:=⟨cF ko6 eN,1,[(6,1)],[([O,I],qt [0,1,2,6]),([O,I,O,O,I,O,O,I],qt [0,1,2,6,7]),([O,O,O,I,O,O,I,O,O,I],qt [0,1,2,6,7,30])],f91,n0,[.slr 3 (.int .i64),.a1,.a1],[.d3],[]⟩
def qfx (n:Nat) (x0:List Int) (x1 x2:Nat) (x3 x4:Int):Option (u11×Unit):=tG gv8 n ((x0,x1,x2),x3,x4,())
def uc4:=okG gv8 func91
def gv9:KG:=⟨cE (q8 uc4 (zo9 kp0)) eN,1,[],[([O,I,I],qt [0,1,2,3,8,9]),([I,I,I,O,O,O,I,I],qt [0,1,2,3,8,9,10])],f61,n0,[.slr 3 (.int .i64),.a1,.a1,.a1],[.d3],[]⟩
def qfy (n:Nat) (x0:List Int) (x1 x2:Nat) (x3 x4 x5:Int):Option (u11×Unit):=tG gv9 n ((x0,x1,x2),x3,x4,x5,())
def uc5:=okG gv9 func61
def gv3:KG:=⟨cF kp1 (cE (q8 uc5 (zo9 kp2)) eN),1,[],[],f44,n0,[.slr 3 (.int .i64)],[.d3],[]⟩
def qfs (n:Nat) (x0:List Int) (x1 x2:Nat):Option (u11×Unit):=tG gv3 n ((x0,x1,x2),())
def uc1:=okG gv3 func44
def gv2:KG:=⟨eN,1,[],[([O,I,O,I,I],qt [0,3]),([O,I,O,I,O,I,O,O,I,O,O,I,O,I,I],qt [0,3,4,5]),([I,O,O,I,O,I,O,I,O,O,I,O,O,I,O,I,I],qt [0,3,4,5])],f106,n0,[.slr 3 (.int .i64)],[.d3],[.part 0 1]⟩
def qfr (n:Nat) (x0:List Int) (x1 x2:Nat):Option (u11×u18):=tG gv2 n ((x0,x1,x2),())
def uc0:=okG gv2 func106
def gv0:KG:=⟨eN,1,[],[([O,I,O,I,I],qt [0,3]),([O,I,O,I,O,I,O,O,I,O,O,I,O,I,I],qt [0,3,4,5]),([I,O,O,I,O,I,O,I,O,O,I,O,O,I,O,I,I],qt [0,3,4,5])],f106,⟨[],[0],[],[],[]⟩,[.d3],[.d3],[.part 0 1]⟩
def qfp (n:Nat) (x0:List Int):Option (u11×u18):=tG gv0 n (x0,())
def ub9:=okG gv0 func106
def vu6:KG:=⟨cF kt2 (cF kn8 (cE (q8 uc1 (zo9 ub5)) (cE (q8 ub9 (q8 uc0 (q9 106))) eN))),0,[],[([O,I],qt [0,1,29]),([I,I,I],qt [0,1,5])],f82,⟨[(0,3,.int .i64,false)],[],[],[],[]⟩,[.c7,.a1],[],[.slr 3 (.int .i64)]⟩
abbrev qz2:=Option (Unit×((List Int×Nat×Nat)×Unit))
def qab (n:Nat) (x0:List Ins) (x1:Int):qz2:=tG vu6 n (x0,x1,())
def jc1 (n:Nat) (s0:List Ins) (s1:Int) (s29:Bool):qz2:=uG vu6 n [O,I] ⟨[(0,.cell ⟨.list (.user 5),s0⟩),(1,ci s1),(29,cb s29)],[]⟩
def qz1 (n:Nat) (s0:List Ins) (s1:Int) (r0:List Int):qz2:=uG vu6 n [I,I,I] ⟨[(0,.cell ⟨.list (.user 5),s0⟩),(1,ci s1),(5,.own 0)],[.k39 r0]⟩
def we8 (n:Nat) (x0 x1):qab n x0 x1=j8 (decide (x1<(0:Int))) (jc1 n x0 x1 true) (j8 (decide (x1>=((x0.length:Nat):Int))) (jc1 n x0 x1 true) (if 0<=x1/\x1<((x0.length:Nat):Int) then (j7 (qa v7 (x0.getD x1.toNat zb2)) fun y1=>j8 (!y1) (jc1 n x0 x1 true) (if 0<=x1/\x1<((x0.length:Nat):Int) then (jc1 n x0 x1 (((x0.getD x1.toNat zb2).Op)==(28:Int))) else none)) else none)):=by kernel_rfl
def vo8 (n:Nat) (s0 s1 s29):jc1 (n+1) s0 s1 s29=j8 s29 (some ((),((([]:List Int),0,0),()))) (if 0<=s1/\s1<((s0.length:Nat):Int) then (j7 (qcn v7 (s0.getD s1.toNat zb2)) fun y1=>j8 y1 (if 0<=s1/\s1<((s0.length:Nat):Int) then (qz1 n s0 s1 ([IntKind.i64.wrap (s1+(1:Int)),IntKind.i64.wrap ((IntKind.i64.wrap (s1+(1:Int)))+((s0.getD s1.toNat zb2).Off))]:List Int)) else none) (qz1 n s0 s1 ([IntKind.i64.wrap (s1+(1:Int))]:List Int))) else none):=by kernel_rfl
def vo9 (n:Nat) (s0 s1 r0):qz1 (n+1) s0 s1 r0=if 0<=s1/\s1<((s0.length:Nat):Int) then (j8 (((s0.getD s1.toNat zb2).Op)==(16:Int)) (if 0<=(1:Int)/\(1:Int)<=((r0.length:Nat):Int)/\((r0.length:Nat):Int)<=((r0.length:Nat):Int) then (j7 (qfs v7 r0 1 ((((r0.length:Nat):Int).toNat)-1)) fun y1=>j7 (qfr v7 y1.1.1 1 ((((r0.length:Nat):Int).toNat)-1)) fun y2=>some ((),((y2.1.1,y2.2.1.1,y2.2.1.2),()))) else none) (j7 (qfm v7 r0) fun y3=>j7 (qfp v7 y3.1) fun y4=>some ((),((y4.1.1,y4.2.1.1,y4.2.1.2),())))) else none:=by kernel_rfl
def we9:=okG vu6 func82
def gy1:KG:=⟨cG we9 (cF qe2 eN),3,[(4,1)],[([O,I,O,I],qt [0,2,9,10,11]),([I,I,O,O,I,O,I],qt [0,2,9,10,11])],f81,n0,[.a1,.ptr 0 91 [.c7],.ptr 0 148 [.row 4 (.bool)]],[.blk 91 [.c7],.blk 148 [.own 2],.row 4 (.bool)],[.a1]⟩
abbrev ky1:=Option (((List Ins×Unit)×u8×List Bool×Unit)×u4)
def qu (n:Nat) (x0:Int) (x1:List Ins) (x2:List Bool):ky1:=tG gy1 n (x0,(x1,()),(x2,()),())
def jq3 (n:Nat) (s0:Int) (s9o s9n:Nat) (s10 s11:Int) (b0_0:List Ins) (r2:List Bool) (r3:List Int):ky1:=uG gy1 n [O,I,O,I] ⟨[(0,ci s0),(2,.ptr 1 0),(9,.sl 3 1 s9o s9n),(10,ci s10),(11,ci s11)],[.k40 b0_0,.blk 148 [.own 2],.row 4 (.bool) r2,.k39 r3]⟩
def ky0 (n:Nat) (s0:Int) (s9o s9n:Nat) (s10 s11:Int) (b0_0:List Ins) (r2:List Bool) (r3:List Int):ky1:=uG gy1 n [I,I,O,O,I,O,I] ⟨[(0,ci s0),(2,.ptr 1 0),(9,.sl 3 1 s9o s9n),(10,ci s10),(11,ci s11)],[.k40 b0_0,.blk 148 [.own 2],.row 4 (.bool) r2,.k39 r3]⟩
def uj9 (n:Nat) (x0 x1 x2):qu n x0 x1 x2=j7 (qab v7 x1 x0) fun y1=>jq3 n x0 y1.2.1.2.1 y1.2.1.2.2 ((y1.2.1.2.2:Nat):Int) (0:Int) x1 x2 y1.2.1.1:=by kernel_rfl
def qn1 (n:Nat) (s0 s9o s9n s10 s11 b0_0 r2 r3):jq3 (n+1) s0 s9o s9n s10 s11 b0_0 r2 r3=j8 (decide (s11<s10)) (if 0<=s11/\s11<((s9n:Nat):Int) then (if s9o+s11.toNat<r3.length then (if 0<=r3.getD (s9o+s11.toNat) (0:Int)/\r3.getD (s9o+s11.toNat) (0:Int)<((r2.length:Nat):Int) then (j8 (r2.getD ((r3.getD (s9o+s11.toNat) (0:Int)).toNat) false) (if 0<=r3.getD (s9o+s11.toNat) (0:Int)/\r3.getD (s9o+s11.toNat) (0:Int)<((r2.length:Nat):Int) then (ky0 n s0 s9o s9n s10 s11 b0_0 (r2.set ((r3.getD (s9o+s11.toNat) (0:Int)).toNat) true) r3) else none) (if 0<=s0/\s0<((r2.length:Nat):Int) then (if 0<=r3.getD (s9o+s11.toNat) (0:Int)/\r3.getD (s9o+s11.toNat) (0:Int)<((r2.length:Nat):Int) then (ky0 n s0 s9o s9n s10 s11 b0_0 (r2.set ((r3.getD (s9o+s11.toNat) (0:Int)).toNat) (r2.getD s0.toNat false)) r3) else none) else none)) else none) else none) else none) (if 0<=s0/\s0<((r2.length:Nat):Int) then (j7 (qbq v7 (!(r2.getD s0.toNat false)) (103:Int)) fun y1=>some (((b0_0,()),((),()),r2,()),(y1,()))) else none):=by kernel_rfl
def qn0 (n:Nat) (s0 s9o s9n s10 s11 b0_0 r2 r3):ky0 (n+1) s0 s9o s9n s10 s11 b0_0 r2 r3=jq3 n s0 s9o s9n s10 (IntKind.i64.wrap (s11+(1:Int))) b0_0 r2 r3:=by kernel_rfl
def uk0:=okG gy1 func81
def km9:KG:=⟨cG wu0 (cG wu2 (cG wu4 (cG uk0 eN))),4,[],[([O,I,O,I],⟨[0,4,9,10,11],[],true,[],0,false⟩),([O,I,I,O,O,I,I,O,O,I,O,I],qt [0,4,6,9,10,11,15,16])],f75,n0,[.a1,.slb 1 4 151 [.fn 76 [] [.ptr 0 91 [.c7]],.fn 78 [] [.at_ 1 0],.fn 80 [] [.at_ 1 0],.fn 81 [] [.at_ 1 0,.ptr 0 148 [.row 4 (.bool)]]]],[.blk 151 [.fn 76 [] [.at_ 1 0],.fn 78 [] [.at_ 1 0],.fn 80 [] [.at_ 1 0],.fn 81 [] [.at_ 1 0,.at_ 2 0]],.blk 91 [.c7],.blk 148 [.own 3],.row 4 (.bool)],[.val (.user 6)]⟩
abbrev qv1:=Option ((((Unit×u8)×(Unit×u8)×(Unit×u8)×(Unit×(Unit×Unit×Unit))×Unit)×(List Ins×Unit)×u8×List Bool×Unit)×(Fault×Unit))
def qc (n:Nat) (x0:Int) (x1:List Ins) (x2:List Bool):qv1:=tG km9 n (x0,(((),((x1,()),())),((),((),())),((),((),())),((),((),(x2,()),())),()),())
def jg9 (n:Nat) (s0 s15 s16:Int) (b1_0:List Ins) (r3:List Bool) (b4_0 b4_1:Int):qv1:=uG km9 n [O,I,I,O,O,I,I,O,O,I,O,I] ⟨[(0,ci s0),(4,.ptr 4 0),(6,.fn (.func 76) [] [.ptr 1 0]),(9,.sl 0 1 0 4),(10,.cell ⟨.int .i64,(4:Int)⟩),(11,.cell ⟨.int .i64,(0:Int)⟩),(15,ci s15),(16,ci s16)],[.b8,.k40 b1_0,.blk 148 [.own 3],.row 4 (.bool) r3,.k41 b4_0 b4_1]⟩
def yl1 (n:Nat) (s0 s15 s16:Int) (b1_0:List Ins) (r3:List Bool) (b4_0 b4_1:Int):qv1:=uG km9 n [O,I,I,O,O,I,I,O,O,I,O,I] ⟨[(0,ci s0),(4,.ptr 4 0),(6,.fn (.func 78) [] [.ptr 1 0]),(9,.sl 0 1 0 4),(10,.cell ⟨.int .i64,(4:Int)⟩),(11,.cell ⟨.int .i64,(1:Int)⟩),(15,ci s15),(16,ci s16)],[.b8,.k40 b1_0,.blk 148 [.own 3],.row 4 (.bool) r3,.k41 b4_0 b4_1]⟩
def yl2 (n:Nat) (s0 s15 s16:Int) (b1_0:List Ins) (r3:List Bool) (b4_0 b4_1:Int):qv1:=uG km9 n [O,I,I,O,O,I,I,O,O,I,O,I] ⟨[(0,ci s0),(4,.ptr 4 0),(6,.fn (.func 80) [] [.ptr 1 0]),(9,.sl 0 1 0 4),(10,.cell ⟨.int .i64,(4:Int)⟩),(11,.cell ⟨.int .i64,(2:Int)⟩),(15,ci s15),(16,ci s16)],[.b8,.k40 b1_0,.blk 148 [.own 3],.row 4 (.bool) r3,.k41 b4_0 b4_1]⟩
def yl3 (n:Nat) (s0 s15 s16:Int) (b1_0:List Ins) (r3:List Bool) (b4_0 b4_1:Int):qv1:=uG km9 n [O,I,I,O,O,I,I,O,O,I,O,I] ⟨[(0,ci s0),(4,.ptr 4 0),(6,.fn (.func 81) [] [.ptr 1 0,.ptr 2 0]),(9,.sl 0 1 0 4),(10,.cell ⟨.int .i64,(4:Int)⟩),(11,.cell ⟨.int .i64,(3:Int)⟩),(15,ci s15),(16,ci s16)],[.b8,.k40 b1_0,.blk 148 [.own 3],.row 4 (.bool) r3,.k41 b4_0 b4_1]⟩
def uh9 (n:Nat) (x0 x1 x2):qc (n+1) x0 x1 x2=jg9 n x0 x0 (0:Int) x1 x2 (0:Int) (0:Int):=by kernel_rfl
def jk3 (n:Nat) (s0 s15 s16 b1_0 r3 b4_0 b4_1):jg9 (n+2) s0 s15 s16 b1_0 r3 b4_0 b4_1=j8 (decide (s16<s15)) (j7 (qdz v7 s16 b1_0) fun y1=>j8 (y1.2.1 != (0:Int)) (some (((((),((),())),((),((),())),((),((),())),((),((),(),())),()),(y1.1.1.1,()),((),()),r3,()),((⟨y1.2.1,s16⟩:Fault),()))) (jg9 (n+1) s0 s15 (IntKind.i64.wrap (s16+(1:Int))) y1.1.1.1 r3 b4_0 b4_1)) (yl1 n s0 s0 (0:Int) b1_0 r3 b4_0 b4_1):=by kernel_rfl
def yw2 (n:Nat) (s0 s15 s16 b1_0 r3 b4_0 b4_1):yl1 (n+2) s0 s15 s16 b1_0 r3 b4_0 b4_1=j8 (decide (s16<s15)) (j7 (qea v7 s16 b1_0) fun y1=>j8 (y1.2.1 != (0:Int)) (some (((((),((),())),((),((),())),((),((),())),((),((),(),())),()),(y1.1.1.1,()),((),()),r3,()),((⟨y1.2.1,s16⟩:Fault),()))) (yl1 (n+1) s0 s15 (IntKind.i64.wrap (s16+(1:Int))) y1.1.1.1 r3 b4_0 b4_1)) (yl2 n s0 s0 (0:Int) b1_0 r3 b4_0 b4_1):=by kernel_rfl
def yw3 (n:Nat) (s0 s15 s16 b1_0 r3 b4_0 b4_1):yl2 (n+2) s0 s15 s16 b1_0 r3 b4_0 b4_1=j8 (decide (s16<s15)) (j7 (qeb v7 s16 b1_0) fun y1=>j8 (y1.2.1 != (0:Int)) (some (((((),((),())),((),((),())),((),((),())),((),((),(),())),()),(y1.1.1.1,()),((),()),r3,()),((⟨y1.2.1,s16⟩:Fault),()))) (yl2 (n+1) s0 s15 (IntKind.i64.wrap (s16+(1:Int))) y1.1.1.1 r3 b4_0 b4_1)) (yl3 n s0 s0 (0:Int) b1_0 r3 b4_0 b4_1):=by kernel_rfl
def yw4 (n:Nat) (s0 s15 s16 b1_0 r3 b4_0 b4_1):yl3 (n+2) s0 s15 s16 b1_0 r3 b4_0 b4_1=j8 (decide (s16<s15)) (j7 (qu v7 s16 b1_0 r3) fun y1=>j8 (y1.2.1 != (0:Int)) (some (((((),((),())),((),((),())),((),((),())),((),((),(),())),()),(y1.1.1.1,()),((),()),y1.1.2.2.1,()),((⟨y1.2.1,s16⟩:Fault),()))) (yl3 (n+1) s0 s15 (IntKind.i64.wrap (s16+(1:Int))) y1.1.1.1 y1.1.2.2.1 b4_0 b4_1)) (some (((((),((),())),((),((),())),((),((),())),((),((),(),())),()),(b1_0,()),((),()),r3,()),((⟨(0:Int),(0:Int)⟩:Fault),()))):=by kernel_rfl
def ui0:=okG km9 func75
def gq5:KF:=⟨cG ui0 eN,0,[],[],f58,z0,[.c7],[.val (.user 6)]⟩
def qdy (n:Nat) (x0:List Ins):Option (Fault):=tF gq5 n x0
def wt7 (n:Nat) (x0):qdy n x0=j8 (((x0.length:Nat):Int)==(0:Int)) (some (⟨(6:Int),(0:Int)⟩:Fault)) (j8 (decide (((x0.length:Nat):Int)>(4096:Int))) (some (⟨(3:Int),(0:Int)⟩:Fault)) (if 0<=((x0.length:Nat):Int)/\((x0.length:Nat):Int)<=((x0.length:Nat):Int)/\1*(((x0.length:Nat):Int).toNat)<=281474976710656/\((x0.length:Nat):Int)<=9223372036854775807 then (if 0<=(0:Int)/\(0:Int)<(((List.replicate (((x0.length:Nat):Int).toNat) false).length:Nat):Int) then (j7 (qc v7 ((x0.length:Nat):Int) x0 ((List.replicate (((x0.length:Nat):Int).toNat) false).set 0 true)) fun y1=>some y1.2.1) else none) else none)):=by kernel_rfl
def wt8:=okF gq5 func58
end
end Go.X
