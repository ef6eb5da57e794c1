import Derived.Test.YtnhnejjdokeikaaGreatIc
set_option linter.defProp false
namespace Go.X
open Go.RowKit Go.V Go.Proofs Tryz
noncomputable section
def vt2:KF:=⟨eN,0,[],[([O,I,O,I,I],qt [0,3,4]),([O,O,O,I,O,I,I],qt [0,3,4,12])],f6,z0,[.c9],[.a4]⟩
def qag (n:Nat) (x0:List Tale):Option (Bool):=tF vt2 n x0
def qb6 (n:Nat) (s0:List Tale) (s3 s4:Int):Option (Bool):=uF vt2 n [O,I,O,I,I] ⟨[(0,.cell ⟨.list (.user 4),s0⟩),(3,ci s3),(4,ci s4)],[]⟩
def qz2 (n:Nat) (s0:List Tale) (s3 s4:Int) (s12:Bool):Option (Bool):=uF vt2 n [O,O,O,I,O,I,I] ⟨[(0,.cell ⟨.list (.user 4),s0⟩),(3,ci s3),(4,ci s4),(12,cb s12)],[]⟩
def wd1 (n:Nat) (x0):qag n x0=qb6 n x0 (0:Int) (0:Int):=by kernel_rfl
def yv2 (n:Nat) (s0 s3 s4):qb6 (n+1) s0 s3 s4=j9 (decide (s4<((s0.length:Nat):Int))) (qz2 n s0 s3 s4 (decide (s3<(9000:Int)))) (qz2 n s0 s3 s4 false):=by kernel_rfl
def yi4 (n:Nat) (s0 s3 s4 s12):qz2 (n+1) s0 s3 s4 s12=j9 s12 (if 0<=s4/\s4<((s0.length:Nat):Int) then (if 0<=s4/\s4<((s0.length:Nat):Int) then (qb6 n s0 (IntKind.i64.wrap ((IntKind.i64.wrap (s3+(jk6 ((((s0.getD s4.toNat v6).Bytes).length:Nat):Int) (9000:Int))))+(jk6 ((((s0.getD s4.toNat v6).Entry_Data).length:Nat):Int) (9000:Int)))) (IntKind.i64.wrap (s4+(1:Int)))) else none) else none) (j9 (decide (((s0.length:Nat):Int)<=(200:Int))) (some (decide (s3<(9000:Int)))) (some false)):=by kernel_rfl
def wd2:=okN vt2 (fun (x:List Tale)=>2*x.length+9) func6
def gm3:KF:=⟨cF qz5 eN,0,[],[],f20,z0,[.e2,.e2],[.a4]⟩
def qcl (n:Nat) (x0 x1:Entry):Option (Bool):=tF gm3 n (x0,x1)
def wk1 (n:Nat) (x0 x1):qcl n x0 x1=j9 (x0.Term==x1.Term) (j9 (x0.Kind==x1.Kind) (j9 (x0.Version==x1.Version) (j9 (x0.Server==x1.Server) (j9 (x0.Good==x1.Good) (j7 (qaj v8 x0.Data x1.Data) fun y1=>some y1) (some false)) (some false)) (some false)) (some false)) (some false):=by kernel_rfl
def kn0:=okF gm3 func20
def gk2:KF:=⟨eN,0,[],[],f21,z0,[.b1],[.own 5 (.int .u8)]⟩
def qba (n:Nat) (x0:List Int):Option (List Int):=tF gk2 n x0
def wg8 (n:Nat) (x0):qba n x0=gi9 x0.isEmpty (some ([]:List Int)) (if (0+x0.length)*1<=140737488355328 then (some (([]:List Int)++x0)) else none):=by kernel_rfl
def jl7:=okF gk2 func21
def ks3:KG:=⟨cF kn0 (cF jl7 eN),2,[(7,1)],[([O,I,O,I],qt [0,1,5,7,11])],f13,n0,[.ptr 0 44 [.b9],.a1,.e2],[.blk 44 [.b9],.gone],[.a4]⟩
abbrev kk2:=Option (((List Entry×Unit)×Unit×Unit)×(Bool×Unit))
def qao (n:Nat) (x0:List Entry) (x1:Int) (x2:Entry):kk2:=tG ks3 n ((x0,()),x1,x2,())
def qz9 (n:Nat) (s1:Int) (s11:Bool) (r1:List Entry) (b2_0 b2_1 b2_2 b2_3:Int) (b2_4:Bool) (b2_5:List Int):kk2:=uG ks3 n [O,I,O,I] ⟨[(0,.ptr 0 0),(1,ci s1),(5,.ptr 2 0),(7,.own 1),(11,cb s11)],[.blk 44 [.own 1],.k14 r1,.k3 b2_0 b2_1 b2_2 b2_3 b2_4 b2_5]⟩
def we6 (n:Nat) (x0 x1 x2):qao n x0 x1 x2=j9 (decide (x1<(1:Int))) (qz9 n x1 true x0 x2.Term x2.Kind x2.Version x2.Server x2.Good x2.Data) (qz9 n x1 (decide (x1>(IntKind.i64.wrap (((x0.length:Nat):Int)+(1:Int))))) x0 x2.Term x2.Kind x2.Version x2.Server x2.Good x2.Data):=by kernel_rfl
def yv3 (n:Nat) (s1 s11 r1 b2_0 b2_1 b2_2 b2_3 b2_4 b2_5):qz9 (n+1) s1 s11 r1 b2_0 b2_1 b2_2 b2_3 b2_4 b2_5=j9 s11 (some (((r1,()),(),()),(false,()))) (j9 (decide (s1<=((r1.length:Nat):Int))) (if 0<=IntKind.i64.wrap (s1-(1:Int))/\IntKind.i64.wrap (s1-(1:Int))<((r1.length:Nat):Int) then (j7 (qcl v8 (r1.getD ((IntKind.i64.wrap (s1-(1:Int))).toNat) jb0) (⟨b2_0,b2_1,b2_2,b2_3,b2_4,b2_5⟩:Entry)) fun y1=>some (((r1,()),(),()),(y1,()))) else none) (j7 (qba v8 b2_5) fun y2=>if (r1.length+1)*64<=140737488355328 then (some (((r1++([(⟨b2_0,b2_1,b2_2,b2_3,b2_4,y2⟩:Entry)]:List Entry),()),(),()),(true,()))) else none)):=by kernel_rfl
def va0:=okG ks3 func13
def gt7:KF:=⟨cE (w7 1 (q8 va0 (q9 13))) eN,0,[],[([O,I,O,I,I],⟨[4,7,8,9],[],false,[(0,0,36,.user 0)],0,false⟩),([I,O,O,I,I,O,O,I,O,I,I],qt [4,7,8,9,23])],f9,z0,[.c9],[.own 36 (.user 0),.a4]⟩
def qfr (n:Nat) (x0:List Tale):Option (List Entry×Bool):=tF gt7 n x0
def wy8:=okF gt7 func9
def gp0:KG:=⟨eN,0,[],[],f49,n0,[.b1],[],[.d2]⟩
def qdy (n:Nat) (x0:List Int):Option (Unit×((List Int×Bool×Bool×Unit)×Unit)):=tG gp0 n (x0,())
def wq9 (n:Nat) (x0):qdy n x0=if (0+x0.length)*1<=140737488355328 then (some ((),((([]:List Int)++x0,true,false,()),()))) else none:=by kernel_rfl
def ko0:=okG gp0 func49
def vu0:KG:=⟨eN,2,[],[],f70,n0,[.d2],[.blk 138 [.own 1,.a4,.a4],.a7],[.a4]⟩
def qcg (n:Nat) (x0:List Int) (x1 x2:Bool):Option (((Unit×Bool×Bool×Unit)×List Int×Unit)×(Bool×Unit)):=tG vu0 n ((x0,x1,x2,()),())
def wj7 (n:Nat) (x0 x1 x2):qcg n x0 x1 x2=j9 (!x1) (some ((((),x1,x2,()),x0,()),(true,()))) (some ((((),x1,x2,()),x0,()),(x2,()))):=by kernel_rfl
def vb1:=okG vu0 func70
def vs9:KP:=⟨⟨eN,2,[],[([I],qt [0,1]),([O,I],qt [0,1,16])],f103,⟨[],[],[(0,0,4000000000,.bool)],[],[]⟩,[.d2,.a1],[.c3,.a7],[.part 1 1]⟩,.ifc 167 (.agg [])⟩
abbrev qy6:=Option (u15×(u18⊕u8))
def qad (n:Nat) (x0:List Int) (x1 x2:Bool) (x3:Int):qy6:=tP vs9 n ((x0,x1,x2,()),x3,())
def qb4 (n:Nat) (s1:Int) (s16 b0_1 b0_2:Bool) (r1:List Int):qy6:=uP vs9 n [O,I] ⟨[(0,.ptr 0 0),(1,ci s1),(16,cb s16)],[.blk 138 [.own 1,cb b0_1,cb b0_2],.k43 r1]⟩
def qy4 (n:Nat) (s1:Int) (b0_1 b0_2:Bool) (r1:List Int):qy6:=uP vs9 n [I] ⟨[(0,.ptr 0 0),(1,ci s1)],[.blk 138 [.own 1,cb b0_1,cb b0_2],.k43 r1]⟩
def wc7 (n:Nat) (x0 x1 x2 x3):qad n x0 x1 x2 x3=j9 (decide (x3<(0:Int))) (qb4 n x3 true x1 x2 x0) (qb4 n x3 (decide (x3>((x0.length:Nat):Int))) x1 x2 x0):=by kernel_rfl
def vn3 (n:Nat) (s1 s16 b0_1 b0_2 r1):qb4 (n+1) s1 s16 b0_1 b0_2 r1=j9 s16 (some ((((0,r1.length),b0_1,b0_2,()),r1,()),.inr ((),()))) (qy4 n s1 b0_1 b0_2 r1):=by kernel_rfl
def vn2 (n:Nat) (s1 b0_1 b0_2 r1):qy4 (n+1) s1 b0_1 b0_2 r1=if 0<=(0:Int)/\(0:Int)<=s1/\s1<=((r1.length:Nat):Int) then (if 0<=s1/\s1<=((r1.length:Nat):Int)/\((r1.length:Nat):Int)<=((r1.length:Nat):Int) then (some ((((s1.toNat,(((r1.length:Nat):Int).toNat)-s1.toNat),b0_1,b0_2,()),r1,()),.inl ((0,s1.toNat-0),()))) else none) else none:=by kernel_rfl
def qy5:=okP vs9 func103
def ks1:KP:=⟨⟨cP qy5 eN,2,[],[([O,I,O,I,I],qt [3,7,8,9])],f66,n0,[.d2],[.c3,.a7],[.a1]⟩,.ifc 167 (.agg [])⟩
abbrev kk0:=Option (u15×(u4⊕u8))
def qal (n:Nat) (x0:List Int) (x1 x2:Bool):kk0:=tP ks1 n ((x0,x1,x2,()),())
def yk5 (n:Nat) (s3:Int) (s7o s7n:Nat) (s8 s9:Int) (b0_0o b0_0n:Nat) (b0_1 b0_2:Bool) (r1:List Int):kk0:=uP ks1 n [O,I,O,I,I] ⟨[(3,qq6 s3),(7,.sl 1 1 s7o s7n),(8,ci s8),(9,ci s9)],[.k38 b0_0o b0_0n b0_1 b0_2,.k43 r1]⟩
def we0 (n:Nat) (x0 x1 x2):qal n x0 x1 x2=j7 (qad v8 x0 x1 x2 (8:Int)) fun y1=>match y1.2 with| .inl z1=>(yk5 n (0:Int) z1.1.1 z1.1.2 ((z1.1.2:Nat):Int) (0:Int) y1.1.1.1.1 y1.1.1.1.2 y1.1.1.2.1 y1.1.1.2.2.1 y1.1.2.1)| .inr e1=>(some ((((y1.1.1.1.1,y1.1.1.1.2),y1.1.1.2.1,y1.1.1.2.2.1,()),y1.1.2.1,()),.inr ((),()))):=by kernel_rfl
def jt1 (n:Nat) (s3 s7o s7n s8 s9 b0_0o b0_0n b0_1 b0_2 r1):yk5 (n+1) s3 s7o s7n s8 s9 b0_0o b0_0n b0_1 b0_2 r1=j9 (decide (s9<s8)) (if 0<=s9/\s9<((s7n:Nat):Int) then (if s7o+s9.toNat<r1.length then (yk5 n (bOr .u64 (zm2 .u64 s3 (8:Int)) (IntKind.u64.wrap (r1.getD (s7o+s9.toNat) (0:Int)))) s7o s7n s8 (IntKind.i64.wrap (s9+(1:Int))) b0_0o b0_0n b0_1 b0_2 r1) else none) else none) (some ((((b0_0o,b0_0n),b0_1,b0_2,()),r1,()),.inl (IntKind.i64.wrap s3,()))):=by kernel_rfl
def kj9:=okP ks1 func66
def ku7:KP:=⟨⟨cP kj9 eN,3,[],[],f65,n0,[.ptr 0 101 [.d2]],[.blk 101 [.at_ 1 0],.blk 138 [.part 2 1,.a4,.a4],.a7],[.a1]⟩,.ifc 167 (.agg [])⟩
def qdi (n:Nat) (x0:List Int) (x1 x2:Bool):Option ((u8×u7×List Int×Unit)×(u4⊕u8)):=tP ku7 n (((x0,x1,x2,()),()),())
def wn9 (n:Nat) (x0 x1 x2):qdi n x0 x1 x2=j7 (qal v8 x0 x1 x2) fun y1=>match y1.2 with| .inl z1=>(some ((((),()),((y1.1.1.1.1,y1.1.1.1.2),y1.1.1.2.1,y1.1.1.2.2.1,()),y1.1.2.1,()),.inl (z1.1,())))| .inr e1=>(some ((((),()),((y1.1.1.1.1,y1.1.1.1.2),y1.1.1.2.1,y1.1.1.2.2.1,()),y1.1.2.1,()),.inr ((),()))):=by kernel_rfl
def wo0:=okP ku7 func65
def qbs_C:Ctx TT:=⟨yt3,[],4,[],zt7,ys5,yt1⟩
def ge0:zc4 TT prog qbs_C.E:=zl6
def qbs (x0:Int) (x1:List Int) (x2 x3:Nat) (x4 x5:Bool):Option (u4×u8×u7×List Int×Unit):=yr8 prog qbs_C f102 (zb0 f102) [.d7,.e5] (.rw 1) [.e1,.f8,.d6,.a7] ((x0,()),(((x1,x2,x3),x4,x5,()),()),(),())
def wi6 (x0:Int) (x1 x2 x3 x4 x5):qbs x0 x1 x2 x3 x4 x5=some ((x0,()),((),()),((x2,x3),x4,x5,()),x1,()):=by kernel_rfl
def vg5:DSpec TT:=⟨[.d7,.e5],.rw 1,[.e1,.f8,.d6,.a7],fun x=>qbs x.1.1 x.2.1.1.1.1 x.2.1.1.1.2.1 x.2.1.1.1.2.2 x.2.1.1.2.1 x.2.1.1.2.2.1⟩
def gd9:DOk TT prog 102 vg5:=yj8 (C:=qbs_C) (by kernel_rfl) ge0 func102 (show f102.body=some (zb0 f102) by kernel_rfl) (by kernel_rfl) (by kernel_rfl) (by kernel_rfl) (by kernel_rfl) fun x y h=>h
def qbt_C:Ctx TT:=⟨yt3,[],4,[],zt7,ys5,yt1⟩
def ge2:zc4 TT prog qbt_C.E:=zl6
def qbt (x0:Int) (x1:List Int) (x2 x3:Nat) (x4 x5:Bool):Option (u4×u8×u7×List Int×Unit):=yr8 prog qbt_C f102 (zb0 f102) [.d7,.e5] (.ifc 167 (.agg [])) [.e1,.f8,.d6,.a7] ((x0,()),(((x1,x2,x3),x4,x5,()),()),(),())
def wi7 (x0:Int) (x1 x2 x3 x4 x5):qbt x0 x1 x2 x3 x4 x5=some (((0:Int),()),((),()),((x2,x3),x4,true,()),x1,()):=by kernel_rfl
def vg6:DSpec TT:=⟨[.d7,.e5],.ifc 167 (.agg []),[.e1,.f8,.d6,.a7],fun x=>qbt x.1.1 x.2.1.1.1.1 x.2.1.1.1.2.1 x.2.1.1.1.2.2 x.2.1.1.2.1 x.2.1.1.2.2.1⟩
def ge1:DOk TT prog 102 vg6:=yj8 (C:=qbt_C) (by kernel_rfl) ge2 func102 (show f102.body=some (zb0 f102) by kernel_rfl) (by kernel_rfl) (by kernel_rfl) (by kernel_rfl) (by kernel_rfl) fun x y h=>h
def qbb_C:Ctx TT:=⟨yt3,[(70,(sG vu0).toCall (zb9 TT)),(65,(sP ku7).toCall (zb9 TT))],3,[],zt7,ys5,yt1⟩
def gd1:zc4 TT prog qbb_C.E:=jk4 (q8 vb1 (q9 70)) (jk4 (ze8 wo0 (q9 65)) (zl6))
def ql3:List (Pos×Cut):= []
def gk3:DefP TT:=⟨2,8,[8,1,4],5,102,[(3,0),(4,0)],vg5,vg6⟩
def qbb (n:Nat) (x0:List Int) (x1 x2:Bool):Option ((u7×List Int×u8×Unit)×u4):=vw9 prog qbb_C ql3 f64 (zb0 f64) ⟨[],[],[(0,0,4000000000,.bool)],[],[]⟩ [.d2,.fn 65 [] [.ptr 0 101 [.at_ 0 0]]] [.c3,.a7,.blk 101 [.at_ 0 0]] [.a1] gk3 n ((x0,x1,x2,()),((),(((),()),())),())
def wg9 (n:Nat) (x0 x1 x2):qbb n x0 x1 x2=j7 (qcg v8 x0 x1 x2) fun y1=>j9 y1.2.1 (some ((((0,y1.1.2.1.length),y1.1.1.2.1,y1.1.1.2.2.1,()),y1.1.2.1,((),()),()),((0:Int),()))) (j7 (qdi v8 y1.1.2.1 y1.1.1.2.1 y1.1.1.2.2.1) fun y2=>match y2.2 with| .inl z2=>(j7 (qbs z2.1 y2.1.2.2.1 y2.1.2.1.1.1 y2.1.2.1.1.2 y2.1.2.1.2.1 y2.1.2.1.2.2.1) fun y3=>some ((((y3.2.2.1.1.1,y3.2.2.1.1.2),y3.2.2.1.2.1,y3.2.2.1.2.2.1,()),y3.2.2.2.1,((),()),()),(y3.1.1,())))| .inr e2=>(j7 (qbt (0:Int) y2.1.2.2.1 y2.1.2.1.1.1 y2.1.2.1.1.2 y2.1.2.1.2.1 y2.1.2.1.2.2.1) fun y4=>some ((((y4.2.2.1.1.1,y4.2.2.1.1.2),y4.2.2.1.2.1,y4.2.2.1.2.2.1,()),y4.2.2.2.1,((),()),()),(y4.1.1,())))):=by kernel_rfl
def wh1:GSpec TT:=⟨[.d2,.fn 65 [] [.ptr 0 101 [.at_ 0 0]]],[.c3,.a7,.blk 101 [.at_ 0 0]],[.a1],fun x=>qbb v8 x.1.1 x.1.2.1 x.1.2.2.1⟩
def wh0:GOk TT prog 64 wh1:=yk2 (C:=qbb_C) (cuts:=ql3) (D:=gk3) (by kernel_rfl) gd1 func64 (show f64.body=some (zb0 f64) by kernel_rfl) (by kernel_rfl) (by kernel_rfl) (by kernel_rfl) gd9 ge1 fun x y h=>⟨v8,h⟩
def gm8:KG:=⟨cG wh0 eN,2,[],[],f50,n0,[.d2],[.c3,.a7],[.a1]⟩
def qcq (n:Nat) (x0:List Int) (x1 x2:Bool):Option (u15×u4):=tG gm8 n ((x0,x1,x2,()),())
def wk6 (n:Nat) (x0 x1 x2):qcq n x0 x1 x2=j7 (qbb v8 x0 x1 x2) fun y1=>some ((((y1.1.1.1.1,y1.1.1.1.2),y1.1.1.2.1,y1.1.1.2.2.1,()),y1.1.2.1,()),(y1.2.1,())):=by kernel_rfl
def kn5:=okG gm8 func50
def kt5:KG:=⟨eN,2,[],[],f70,n0,[.b3],[.c3,.a7],[.a4]⟩
def qch (n:Nat) (x0:List Int) (x1 x2:Nat) (x3 x4:Bool):Option (u15×(Bool×Unit)):=tG kt5 n (((x0,x1,x2),x3,x4,()),())
def km5 (n:Nat) (x0 x1 x2 x3 x4):qch n x0 x1 x2 x3 x4=j9 (!x3) (some ((((x1,x2),x3,x4,()),x0,()),(true,()))) (some ((((x1,x2),x3,x4,()),x0,()),(x4,()))):=by kernel_rfl
def km6:=okG kt5 func70
def vt0:KP:=⟨⟨eN,2,[],[([I],qt [0,1]),([O,I],qt [0,1,16])],f103,n0,[.b3,.a1],[.c3,.a7],[.part 1 1]⟩,.ifc 167 (.agg [])⟩
abbrev qy8:=Option (u15×(u18⊕u8))
def qae (n:Nat) (x0:List Int) (x1 x2:Nat) (x3 x4:Bool) (x5:Int):qy8:=tP vt0 n (((x0,x1,x2),x3,x4,()),x5,())
def qb5 (n:Nat) (s1:Int) (s16:Bool) (b0_0o b0_0n:Nat) (b0_1 b0_2:Bool) (r1:List Int):qy8:=uP vt0 n [O,I] ⟨[(0,.ptr 0 0),(1,ci s1),(16,cb s16)],[.k38 b0_0o b0_0n b0_1 b0_2,.k43 r1]⟩
def qy7 (n:Nat) (s1:Int) (b0_0o b0_0n:Nat) (b0_1 b0_2:Bool) (r1:List Int):qy8:=uP vt0 n [I] ⟨[(0,.ptr 0 0),(1,ci s1)],[.k38 b0_0o b0_0n b0_1 b0_2,.k43 r1]⟩
def wc8 (n:Nat) (x0 x1 x2 x3 x4 x5):qae n x0 x1 x2 x3 x4 x5=j9 (decide (x5<(0:Int))) (qb5 n x5 true x1 x2 x3 x4 x0) (qb5 n x5 (decide (x5>((x2:Nat):Int))) x1 x2 x3 x4 x0):=by kernel_rfl
def vn5 (n:Nat) (s1 s16 b0_0o b0_0n b0_1 b0_2 r1):qb5 (n+1) s1 s16 b0_0o b0_0n b0_1 b0_2 r1=j9 s16 (some ((((b0_0o,b0_0n),b0_1,b0_2,()),r1,()),.inr ((),()))) (qy7 n s1 b0_0o b0_0n b0_1 b0_2 r1):=by kernel_rfl
def vn4 (n:Nat) (s1 b0_0o b0_0n b0_1 b0_2 r1):qy7 (n+1) s1 b0_0o b0_0n b0_1 b0_2 r1=if 0<=(0:Int)/\(0:Int)<=s1/\(s1<=((b0_0n:Nat):Int)\/(((b0_0o:Nat):Int)+s1<=((r1.length:Nat):Int)/\(b0_0o=0\/0<b0_0n))) then (if 0<=s1/\s1<=((b0_0n:Nat):Int)/\(((b0_0n:Nat):Int)<=((b0_0n:Nat):Int)\/(((b0_0o:Nat):Int)+((b0_0n:Nat):Int)<=((r1.length:Nat):Int)/\(b0_0o=0\/0<b0_0n))) then (some ((((b0_0o+s1.toNat,(((b0_0n:Nat):Int).toNat)-s1.toNat),b0_1,b0_2,()),r1,()),.inl ((b0_0o+0,s1.toNat-0),()))) else none) else none:=by kernel_rfl
def kj7:=okP vt0 func103
def ks2:KP:=⟨⟨cE (ze8 kj7 (ze8 qy5 (q9 103))) eN,2,[],[([O,I,O,I,I],qt [3,7,8,9])],f66,n0,[.b3],[.c3,.a7],[.a1]⟩,.ifc 167 (.agg [])⟩
abbrev kk1:=Option (u15×(u4⊕u8))
def qan (n:Nat) (x0:List Int) (x1 x2:Nat) (x3 x4:Bool):kk1:=tP ks2 n (((x0,x1,x2),x3,x4,()),())
def yk6 (n:Nat) (s3:Int) (s7o s7n:Nat) (s8 s9:Int) (b0_0o b0_0n:Nat) (b0_1 b0_2:Bool) (r1:List Int):kk1:=uP ks2 n [O,I,O,I,I] ⟨[(3,qq6 s3),(7,.sl 1 1 s7o s7n),(8,ci s8),(9,ci s9)],[.k38 b0_0o b0_0n b0_1 b0_2,.k43 r1]⟩
def we4 (n:Nat) (x0 x1 x2 x3 x4):qan n x0 x1 x2 x3 x4=j7 (qae v8 x0 x1 x2 x3 x4 (8:Int)) fun y1=>match y1.2 with| .inl z1=>(yk6 n (0:Int) z1.1.1 z1.1.2 ((z1.1.2:Nat):Int) (0:Int) y1.1.1.1.1 y1.1.1.1.2 y1.1.1.2.1 y1.1.1.2.2.1 y1.1.2.1)| .inr e1=>(some ((((y1.1.1.1.1,y1.1.1.1.2),y1.1.1.2.1,y1.1.1.2.2.1,()),y1.1.2.1,()),.inr ((),()))):=by kernel_rfl
def jt3 (n:Nat) (s3 s7o s7n s8 s9 b0_0o b0_0n b0_1 b0_2 r1):yk6 (n+1) s3 s7o s7n s8 s9 b0_0o b0_0n b0_1 b0_2 r1=j9 (decide (s9<s8)) (if 0<=s9/\s9<((s7n:Nat):Int) then (if s7o+s9.toNat<r1.length then (yk6 n (bOr .u64 (zm2 .u64 s3 (8:Int)) (IntKind.u64.wrap (r1.getD (s7o+s9.toNat) (0:Int)))) s7o s7n s8 (IntKind.i64.wrap (s9+(1:Int))) b0_0o b0_0n b0_1 b0_2 r1) else none) else none) (some ((((b0_0o,b0_0n),b0_1,b0_2,()),r1,()),.inl (IntKind.i64.wrap s3,()))):=by kernel_rfl
def we5:=okP ks2 func66
def gp2:KP:=⟨⟨cE (ze8 we5 (ze8 kj9 (q9 66))) (cE (ze8 kj7 (ze8 qy5 (q9 103))) eN),2,[],[],f69,n0,[.b3],[.c3,.a7],[.a7]⟩,.ifc 167 (.agg [])⟩
def qea (n:Nat) (x0:List Int) (x1 x2:Nat) (x3 x4:Bool):Option (u15×(u11⊕u8)):=tP gp2 n (((x0,x1,x2),x3,x4,()),())
def wr3 (n:Nat) (x0 x1 x2 x3 x4):qea n x0 x1 x2 x3 x4=j7 (qan v8 x0 x1 x2 x3 x4) fun y1=>match y1.2 with| .inl z1=>(j7 (qae v8 y1.1.2.1 y1.1.1.1.1 y1.1.1.1.2 y1.1.1.2.1 y1.1.1.2.2.1 z1.1) fun y2=>match y2.2 with| .inl z2=>(if z2.1.1+z2.1.2<=y2.1.2.1.length then (if (0+(List.take z2.1.2 (List.drop z2.1.1 y2.1.2.1)).length)*1<=140737488355328 then (some ((((y2.1.1.1.1,y2.1.1.1.2),y2.1.1.2.1,y2.1.1.2.2.1,()),y2.1.2.1,()),.inl (([]:List Int)++(List.take z2.1.2 (List.drop z2.1.1 y2.1.2.1)),()))) else none) else none)| .inr e2=>(some ((((y2.1.1.1.1,y2.1.1.1.2),y2.1.1.2.1,y2.1.1.2.2.1,()),y2.1.2.1,()),.inr ((),()))))| .inr e1=>(some ((((y1.1.1.1.1,y1.1.1.1.2),y1.1.1.2.1,y1.1.1.2.2.1,()),y1.1.2.1,()),.inr ((),()))):=by kernel_rfl
def wr4:=okP gp2 func69
def ku8:KP:=⟨⟨cP wr4 eN,3,[],[],f68,n0,[.e5],[.blk 101 [.at_ 1 0],.blk 138 [.part 2 1,.a4,.a4],.a7],[.a7]⟩,.ifc 167 (.agg [])⟩
def qdz (n:Nat) (x0:List Int) (x1 x2:Nat) (x3 x4:Bool):Option ((u8×u7×List Int×Unit)×(u11⊕u8)):=tP ku8 n ((((x0,x1,x2),x3,x4,()),()),())
def wr0 (n:Nat) (x0 x1 x2 x3 x4):qdz n x0 x1 x2 x3 x4=j7 (qea v8 x0 x1 x2 x3 x4) fun y1=>match y1.2 with| .inl z1=>(some ((((),()),((y1.1.1.1.1,y1.1.1.1.2),y1.1.1.2.1,y1.1.1.2.2.1,()),y1.1.2.1,()),.inl (z1.1,())))| .inr e1=>(some ((((),()),((y1.1.1.1.1,y1.1.1.1.2),y1.1.1.2.1,y1.1.1.2.2.1,()),y1.1.2.1,()),.inr ((),()))):=by kernel_rfl
def wr1:=okP ku8 func68
def qbu_C:Ctx TT:=⟨yt3,[],5,[],zt7,ys5,yt1⟩
def ge4:zc4 TT prog qbu_C.E:=zl6
def qbu (x0 x1:List Int) (x2 x3:Nat) (x4 x5:Bool):Option (u8×List Int×u8×u7×List Int×Unit):=yr8 prog qbu_C f104 (zb0 f104) [.ptr 0 34 [.a7],.e5] (.rw 1) [.blk 34 [.own 1],.a7,.blk 101 [.at_ 3 0],.blk 138 [.part 4 1,.a4,.a4],.a7] ((x0,()),(((x1,x2,x3),x4,x5,()),()),(),())
def wi8 (x0:List Int) (x1 x2 x3 x4 x5):qbu x0 x1 x2 x3 x4 x5=some (((),()),x0,((),()),((x2,x3),x4,x5,()),x1,()):=by kernel_rfl
def vg7:DSpec TT:=⟨[.ptr 0 34 [.a7],.e5],.rw 1,[.blk 34 [.own 1],.a7,.blk 101 [.at_ 3 0],.blk 138 [.part 4 1,.a4,.a4],.a7],fun x=>qbu x.1.1 x.2.1.1.1.1 x.2.1.1.1.2.1 x.2.1.1.1.2.2 x.2.1.1.2.1 x.2.1.1.2.2.1⟩
def ge3:DOk TT prog 104 vg7:=yj8 (C:=qbu_C) (by kernel_rfl) ge4 func104 (show f104.body=some (zb0 f104) by kernel_rfl) (by kernel_rfl) (by kernel_rfl) (by kernel_rfl) (by kernel_rfl) fun x y h=>h
def qbp_C:Ctx TT:=⟨yt3,[],4,[],zt7,ys5,yt1⟩
def gd8:zc4 TT prog qbp_C.E:=zl6
def qbp (x0:List Int) (x1 x2:Nat) (x3 x4:Bool):Option (u8×u8×u7×List Int×Unit):=yr8 prog qbp_C f104 (zb0 f104) [.ptr 0 34 [.nils],.e5] (.ifc 167 (.agg [])) [.blk 34 [.nils],.f8,.d6,.a7] (((),()),(((x0,x1,x2),x3,x4,()),()),(),())
def kl8 (x0:List Int) (x1 x2 x3 x4):qbp x0 x1 x2 x3 x4=some (((),()),((),()),((x1,x2),x3,true,()),x0,()):=by kernel_rfl
def vg4:DSpec TT:=⟨[.ptr 0 34 [.nils],.e5],.ifc 167 (.agg []),[.blk 34 [.nils],.f8,.d6,.a7],fun x=>qbp x.2.1.1.1.1 x.2.1.1.1.2.1 x.2.1.1.1.2.2 x.2.1.1.2.1 x.2.1.1.2.2.1⟩
def gd7:DOk TT prog 104 vg4:=yj8 (C:=qbp_C) (by kernel_rfl) gd8 func104 (show f104.body=some (zb0 f104) by kernel_rfl) (by kernel_rfl) (by kernel_rfl) (by kernel_rfl) (by kernel_rfl) fun x y h=>h
def qbc_C:Ctx TT:=⟨yt3,[(70,(sG kt5).toCall ((sG vu0).toCall (zb9 TT))),(68,(sP ku8).toCall (zb9 TT))],3,[],zt7,ys5,yt1⟩
def gd2:zc4 TT prog qbc_C.E:=jk4 (q8 km6 (q8 vb1 (q9 70))) (jk4 (ze8 wr1 (q9 68)) (zl6))
def ql4:List (Pos×Cut):= []
def gk4:DefP TT:=⟨2,8,[8,1,4],5,104,[(3,0),(4,0)],vg7,vg4⟩
def qbc (n:Nat) (x0:List Int) (x1 x2:Nat) (x3 x4:Bool):Option ((u7×List Int×u8×Unit)×u11):=vw9 prog qbc_C ql4 f67 (zb0 f67) ⟨[(0,5,.int .u8,true)],[],[],[],[]⟩ [.b3,.fn 68 [] [.ptr 0 101 [.at_ 0 0]]] [.c3,.a7,.blk 101 [.at_ 0 0]] [.a7] gk4 n (((x0,x1,x2),x3,x4,()),((),(((),()),())),())
def wh2 (n:Nat) (x0 x1 x2 x3 x4):qbc n x0 x1 x2 x3 x4=j7 (qch v8 x0 x1 x2 x3 x4) fun y1=>j9 y1.2.1 (some ((((y1.1.1.1.1,y1.1.1.1.2),y1.1.1.2.1,y1.1.1.2.2.1,()),y1.1.2.1,((),()),()),(([]:List Int),()))) (j7 (qdz v8 y1.1.2.1 y1.1.1.1.1 y1.1.1.1.2 y1.1.1.2.1 y1.1.1.2.2.1) fun y2=>match y2.2 with| .inl z2=>(j7 (qbu z2.1 y2.1.2.2.1 y2.1.2.1.1.1 y2.1.2.1.1.2 y2.1.2.1.2.1 y2.1.2.1.2.2.1) fun y3=>some ((((y3.2.2.2.1.1.1,y3.2.2.2.1.1.2),y3.2.2.2.1.2.1,y3.2.2.2.1.2.2.1,()),y3.2.2.2.2.1,((),()),()),(y3.2.1,())))| .inr e2=>(j7 (qbp y2.1.2.2.1 y2.1.2.1.1.1 y2.1.2.1.1.2 y2.1.2.1.2.1 y2.1.2.1.2.2.1) fun y4=>some ((((y4.2.2.1.1.1,y4.2.2.1.1.2),y4.2.2.1.2.1,y4.2.2.1.2.2.1,()),y4.2.2.2.1,((),()),()),(([]:List Int),())))):=by kernel_rfl
def wh4:GSpec TT:=⟨[.b3,.fn 68 [] [.ptr 0 101 [.at_ 0 0]]],[.c3,.a7,.blk 101 [.at_ 0 0]],[.a7],fun x=>qbc v8 x.1.1.1 x.1.1.2.1 x.1.1.2.2 x.1.2.1 x.1.2.2.1⟩
def wh3:GOk TT prog 67 wh4:=yk2 (C:=qbc_C) (cuts:=ql4) (D:=gk4) (by kernel_rfl) gd2 func67 (show f67.body=some (zb0 f67) by kernel_rfl) (by kernel_rfl) (by kernel_rfl) (by kernel_rfl) ge3 gd7 fun x y h=>⟨v8,h⟩
def gl0:KG:=⟨cG wh3 eN,2,[],[],f51,n0,[.b3],[.c3,.a7],[.a7]⟩
def qbr (n:Nat) (x0:List Int) (x1 x2:Nat) (x3 x4:Bool):Option (u15×u11):=tG gl0 n (((x0,x1,x2),x3,x4,()),())
def wi5 (n:Nat) (x0 x1 x2 x3 x4):qbr n x0 x1 x2 x3 x4=j7 (qbc v8 x0 x1 x2 x3 x4) fun y1=>some ((((y1.1.1.1.1,y1.1.1.1.2),y1.1.1.2.1,y1.1.1.2.2.1,()),y1.1.2.1,()),(y1.2.1,())):=by kernel_rfl
def kl9:=okG gl0 func51
def gm7:KG:=⟨cE (q8 km6 (q8 vb1 (q9 70))) eN,2,[],[],f53,n0,[.b3],[.c3,.a7],[.a4]⟩
def qcp (n:Nat) (x0:List Int) (x1 x2:Nat) (x3 x4:Bool):Option (u15×(Bool×Unit)):=tG gm7 n (((x0,x1,x2),x3,x4,()),())
def wk5 (n:Nat) (x0 x1 x2 x3 x4):qcp n x0 x1 x2 x3 x4=j7 (qch v8 x0 x1 x2 x3 x4) fun y1=>j9 (!y1.2.1) (some ((((y1.1.1.1.1,y1.1.1.1.2),y1.1.1.2.1,y1.1.1.2.2.1,()),y1.1.2.1,()),(((y1.1.1.1.2:Nat):Int)==(0:Int),()))) (some ((((y1.1.1.1.1,y1.1.1.1.2),y1.1.1.2.1,y1.1.1.2.2.1,()),y1.1.2.1,()),(false,()))):=by kernel_rfl
def kn4:=okG gm7 func53
def gk6:KP:=⟨⟨eN,0,[],[],f52,n0,[.a4,.a1],[],[]⟩,.ifc 25 (.val (.int .i64))⟩
def qbl (n:Nat) (x0:Bool) (x1:Int):Option (Unit×(Unit⊕u4)):=tP gk6 n (x0,x1,())
def wi1 (n:Nat) (x0 x1):qbl n x0 x1=j9 x0 (some ((),.inr (x1,()))) (some ((),.inl ())):=by kernel_rfl
def va5:=okP gk6 func52
def ks5:KP:=⟨⟨cP va5 eN,3,[],[([I],qt [1])],f54,n0,[.agg [.a1,.a7,.a7,.a7]],[.a7,.a7,.a7],[]⟩,.ifc 25 (.val (.int .i64))⟩
abbrev kk6:=Option ((List Int×List Int×List Int×Unit)×(Unit⊕u4))
def qaq (n:Nat) (x0:Int) (x1 x2 x3:List Int):kk6:=tP ks5 n ((x0,x1,x2,x3,()),())
def va2 (n:Nat) (r0 r1 r2:List Int) (b3_0:Int):kk6:=uP ks5 n [I] ⟨[(1,.ptr 3 0)],[.k43 r0,.k43 r1,.k43 r2,.blk 104 [ci b3_0,.own 0,.own 1,.own 2]]⟩
def we7 (n:Nat) (x0 x1 x2 x3):qaq n x0 x1 x2 x3=j9 (decide (x0<(1:Int))) (j7 (qbl v8 true (2:Int)) fun y1=>match y1.2 with| .inl z1=>(va2 n x1 x2 x3 x0)| .inr e1=>(some ((x1,x2,x3,()),.inr (e1.1,())))) (j7 (qbl v8 (decide (x0>(1073741824:Int))) (2:Int)) fun y2=>match y2.2 with| .inl z2=>(va2 n x1 x2 x3 x0)| .inr e2=>(some ((x1,x2,x3,()),.inr (e2.1,())))):=by kernel_rfl
def vo0 (n:Nat) (r0 r1 r2 b3_0):va2 (n+1) r0 r1 r2 b3_0=j7 (qbl v8 (decide (((r0.length:Nat):Int)>(32768:Int))) (3:Int)) fun y1=>match y1.2 with| .inl z1=>(j9 (((r1.length:Nat):Int) != (32:Int)) (j7 (qbl v8 true (4:Int)) fun y2=>match y2.2 with| .inl z2=>(some ((r0,r1,r2,()),.inl ()))| .inr e2=>(some ((r0,r1,r2,()),.inr (e2.1,())))) (j7 (qbl v8 (((r2.length:Nat):Int) != (32:Int)) (4:Int)) fun y3=>match y3.2 with| .inl z3=>(some ((r0,r1,r2,()),.inl ()))| .inr e3=>(some ((r0,r1,r2,()),.inr (e3.1,())))))| .inr e1=>(some ((r0,r1,r2,()),.inr (e1.1,()))):=by kernel_rfl
def kk5:=okP ks5 func54
def vt9:KP:=⟨⟨cG ko0 (cG kn5 (cG kl9 (cG kn4 (cP va5 (cP kk5 eN))))),1,[],[],f48,n0,[.ptr 0 34 [.b1]],[.blk 34 [.b1]],[.agg [.a1,.a7,.a7,.a7]]⟩,.ifc 25 (.val (.int .i64))⟩
def qcd (n:Nat) (x0:List Int):Option ((u11×Unit)×(((Int×List Int×List Int×List Int×Unit)×Unit)⊕u4)):=tP vt9 n ((x0,()),())
def wj4 (n:Nat) (x0):qcd n x0=j7 (qdy v8 x0) fun y1=>j7 (qcq v8 y1.2.1.1 y1.2.1.2.1 y1.2.1.2.2.1) fun y2=>j7 (qbr v8 y2.1.2.1 y2.1.1.1.1 y2.1.1.1.2 y2.1.1.2.1 y2.1.1.2.2.1) fun y3=>j7 (qbr v8 y3.1.2.1 y3.1.1.1.1 y3.1.1.1.2 y3.1.1.2.1 y3.1.1.2.2.1) fun y4=>j7 (qbr v8 y4.1.2.1 y4.1.1.1.1 y4.1.1.1.2 y4.1.1.2.1 y4.1.1.2.2.1) fun y5=>j7 (qcp v8 y5.1.2.1 y5.1.1.1.1 y5.1.1.1.2 y5.1.1.2.1 y5.1.1.2.2.1) fun y6=>j7 (qbl v8 (!y6.2.1) (4:Int)) fun y7=>match y7.2 with| .inl z7=>(j7 (qaq v8 y2.2.1 y3.2.1 y4.2.1 y5.2.1) fun y8=>match y8.2 with| .inl z8=>(some (((x0,()),()),.inl ((y2.2.1,y8.1.1,y8.1.2.1,y8.1.2.2.1,()),())))| .inr e8=>(some (((x0,()),()),.inr (e8.1,()))))| .inr e7=>(some (((x0,()),()),.inr (e7.1,()))):=by kernel_rfl
def km4:=okP vt9 func48
def qbd_C:Ctx TT:=⟨yt3,[],5,[],zt7,ys5,yt1⟩
def gd3:zc4 TT prog qbd_C.E:=zl6
def qbd (x0 x1:Int) (x2 x3 x4:List Int):Option (u4×(Int×Unit×Unit×Unit×Unit)×List Int×List Int×List Int×Unit):=yr8 prog qbd_C f63 (zb0 f63) [.f1,.ptr 0 88 [.a1,.a7,.a7,.a7]] (.rw 1) [.blk 25 [.a1],.blk 88 [.a1,.own 2,.own 3,.own 4],.a7,.a7,.a7] ((x0,()),(x1,x2,x3,x4,()),(),())
def kl4 (x0:Int) (x1 x2 x3 x4):qbd x0 x1 x2 x3 x4=some ((x0,()),(x1,(),(),(),()),x2,x3,x4,()):=by kernel_rfl
def jx8:DSpec TT:=⟨[.f1,.ptr 0 88 [.a1,.a7,.a7,.a7]],.rw 1,[.blk 25 [.a1],.blk 88 [.a1,.own 2,.own 3,.own 4],.a7,.a7,.a7],fun x=>qbd x.1.1 x.2.1.1 x.2.1.2.1 x.2.1.2.2.1 x.2.1.2.2.2.1⟩
def vg0:DOk TT prog 63 jx8:=yj8 (C:=qbd_C) (by kernel_rfl) gd3 func63 (show f63.body=some (zb0 f63) by kernel_rfl) (by kernel_rfl) (by kernel_rfl) (by kernel_rfl) (by kernel_rfl) fun x y h=>h
def qbe_C:Ctx TT:=⟨yt3,[],2,[],zt7,ys5,yt1⟩
def gd4:zc4 TT prog qbe_C.E:=zl6
def qbe (x0 x1 x2:Int):Option (u4×(Int×Unit×Unit×Unit×Unit)×Unit):=yr8 prog qbe_C f63 (zb0 f63) [.f1,.ptr 0 88 [.a1,.nils,.nils,.nils]] (.ifc 25 (.val (.int .i64))) [.blk 25 [.a1],.blk 88 [.a1,.nils,.nils,.nils]] ((x0,()),(x1,(),(),(),()),x2,())
def kl5 (x0:Int) (x1 x2):qbe x0 x1 x2=some ((x2,()),((0:Int),(),(),(),()),()):=by kernel_rfl
def jx9:DSpec TT:=⟨[.f1,.ptr 0 88 [.a1,.nils,.nils,.nils]],.ifc 25 (.val (.int .i64)),[.blk 25 [.a1],.blk 88 [.a1,.nils,.nils,.nils]],fun x=>qbe x.1.1 x.2.1.1 x.2.2.1⟩
def vg1:DOk TT prog 63 jx9:=yj8 (C:=qbe_C) (by kernel_rfl) gd4 func63 (show f63.body=some (zb0 f63) by kernel_rfl) (by kernel_rfl) (by kernel_rfl) (by kernel_rfl) (by kernel_rfl) fun x y h=>h
def qar_C:Ctx TT:=⟨yt3,[(48,(sP vt9).toCall (zb9 TT))],1,[],zt7,ys5,yt1⟩
def gc7:zc4 TT prog qar_C.E:=jk4 (ze8 km4 (q9 48)) (zl6)
def qk5:List (Pos×Cut):= []
def gj8:DefP TT:=⟨1,4,[4,0,2,3],3,63,[(1,0),(2,0)],jx8,jx9⟩
def qar (n:Nat) (x0:List Int):Option ((u11×Unit)×(Bundle×Int×Unit)):=vw9 prog qar_C qk5 f47 (zb0 f47) ⟨[],[],[],[(0,.user 3)],[]⟩ [.fn 48 [] [.ptr 0 34 [.b1]]] [.blk 34 [.b1]] [.val (.user 3),.a1] gj8 n (((),((x0,()),())),())
def we8 (n:Nat) (x0):qar n x0=j7 (qcd v8 x0) fun y1=>match y1.2 with| .inl z1=>(j7 (qbd (0:Int) z1.1.1 z1.1.2.1 z1.1.2.2.1 z1.1.2.2.2.1) fun y2=>some (((y1.1.1.1,()),()),((⟨y2.2.1.1,y2.2.2.1,y2.2.2.2.1,y2.2.2.2.2.1⟩:Bundle),y2.1.1,())))| .inr e1=>(j7 (qbe (0:Int) (0:Int) e1.1) fun y3=>some (((y1.1.1.1,()),()),((⟨y3.2.1.1,([]:List Int),([]:List Int),([]:List Int)⟩:Bundle),y3.1.1,()))):=by kernel_rfl
def we9:GSpec TT:=⟨[.fn 48 [] [.ptr 0 34 [.b1]]],[.blk 34 [.b1]],[.val (.user 3),.a1],fun x=>qar v8 x.1.2.1.1⟩
def kk7:GOk TT prog 47 we9:=yk2 (C:=qar_C) (cuts:=qk5) (D:=gj8) (by kernel_rfl) gc7 func47 (show f47.body=some (zb0 f47) by kernel_rfl) (by kernel_rfl) (by kernel_rfl) (by kernel_rfl) vg0 vg1 fun x y h=>⟨v8,h⟩
def gm9:KF:=⟨cG kk7 eN,0,[],[],f38,⟨[],[(0,.user 3)]⟩,[.b1],[.val (.user 3),.a1]⟩
def qcr (n:Nat) (x0:List Int):Option (Bundle×Int):=tF gm9 n x0
def wk7 (n:Nat) (x0):qcr n x0=j7 (qar v8 x0) fun y1=>j9 (y1.2.2.1 != (0:Int)) (some ((⟨(0:Int),([]:List Int),([]:List Int),([]:List Int)⟩:Bundle),(4:Int))) (some (y1.2.1,(0:Int))):=by kernel_rfl
def kn6:=okF gm9 func38
end
end Go.X
