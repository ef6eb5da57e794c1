import Derived.Test.YtnhnejjdokeikaaGreatIc
set_option linter.defProp false
namespace Go.X
open Go.RowKit Go.V Go.Proofs Tryz
noncomputable section
def vv0:KF:=⟨eN,0,[],[([O,I,O,I,I],qt [0,3,4]),([O,O,O,I,O,I,I],qt [0,3,4,12])],f6,z0,[.c9],[.a4]⟩
def qah (n:Nat) (x0:List Tale):Option (Bool):=tF vv0 n x0
def qd3 (n:Nat) (s0:List Tale) (s3 s4:Int):Option (Bool):=uF vv0 n [O,I,O,I,I] ⟨[(0,.cell ⟨.list (.user 4),s0⟩),(3,ci s3),(4,ci s4)],[]⟩
def va3 (n:Nat) (s0:List Tale) (s3 s4:Int) (s12:Bool):Option (Bool):=uF vv0 n [O,O,O,I,O,I,I] ⟨[(0,.cell ⟨.list (.user 4),s0⟩),(3,ci s3),(4,ci s4),(12,cb s12)],[]⟩
def wf8 (n:Nat) (x0):qah n x0=qd3 n x0 (0:Int) (0:Int):=by kernel_rfl
def yv9 (n:Nat) (s0 s3 s4):qd3 (n+1) s0 s3 s4=j8 (decide (s4<((s0.length:Nat):Int))) (va3 n s0 s3 s4 (decide (s3<(9000:Int)))) (va3 n s0 s3 s4 false):=by kernel_rfl
def yi9 (n:Nat) (s0 s3 s4 s12):va3 (n+1) s0 s3 s4 s12=j8 s12 (if 0<=s4/\s4<((s0.length:Nat):Int) then (if 0<=s4/\s4<((s0.length:Nat):Int) then (qd3 n s0 (IntKind.i64.wrap ((IntKind.i64.wrap (s3+(jl8 ((((s0.getD s4.toNat v6).Bytes).length:Nat):Int) (9000:Int))))+(jl8 ((((s0.getD s4.toNat v6).Entry_Data).length:Nat):Int) (9000:Int)))) (IntKind.i64.wrap (s4+(1:Int)))) else none) else none) (j8 (decide (((s0.length:Nat):Int)<=(200:Int))) (some (decide (s3<(9000:Int)))) (some false)):=by kernel_rfl
def wf9:=okN vv0 (fun (x:List Tale)=>2*x.length+9) func6
def go0:KF:=⟨cF va6 eN,0,[],[],f20,z0,[.d8,.d8],[.a4]⟩
def qco (n:Nat) (x0 x1:Entry):Option (Bool):=tF go0 n (x0,x1)
def wn2 (n:Nat) (x0 x1):qco n x0 x1=j8 (x0.Term==x1.Term) (j8 (x0.Kind==x1.Kind) (j8 (x0.Version==x1.Version) (j8 (x0.Server==x1.Server) (j8 (x0.Good==x1.Good) (j7 (qak v7 x0.Data x1.Data) fun y1=>some y1) (some false)) (some false)) (some false)) (some false)) (some false):=by kernel_rfl
def kn9:=okF go0 func20
def gl9:KF:=⟨eN,0,[],[],f21,z0,[.b1],[.own 5 (.int .u8)]⟩
def qbd (n:Nat) (x0:List Int):Option (List Int):=tF gl9 n x0
def wj9 (n:Nat) (x0):qbd n x0=gk6 x0.isEmpty (some ([]:List Int)) (if (0+x0.length)*1<=140737488355328 then (some (([]:List Int)++x0)) else none):=by kernel_rfl
def jm9:=okF gl9 func21
def kt6:KG:=⟨cF kn9 (cF jm9 eN),2,[(7,1)],[([O,I,O,I],qt [0,1,5,7,11])],f13,n0,[.ptr 0 44 [.b9],.a1,.d8],[.blk 44 [.b9],.gone],[.a4]⟩
abbrev kl0:=Option (((List Entry×Unit)×Unit×Unit)×(Bool×Unit))
def qap (n:Nat) (x0:List Entry) (x1:Int) (x2:Entry):kl0:=tG kt6 n ((x0,()),x1,x2,())
def vb0 (n:Nat) (s1:Int) (s11:Bool) (r1:List Entry) (b2_0 b2_1 b2_2 b2_3:Int) (b2_4:Bool) (b2_5:List Int):kl0:=uG kt6 n [O,I,O,I] ⟨[(0,.ptr 0 0),(1,ci s1),(5,.ptr 2 0),(7,.own 1),(11,cb s11)],[.blk 44 [.own 1],.k14 r1,.k3 b2_0 b2_1 b2_2 b2_3 b2_4 b2_5]⟩
def wh3 (n:Nat) (x0 x1 x2):qap n x0 x1 x2=j8 (decide (x1<(1:Int))) (vb0 n x1 true x0 x2.Term x2.Kind x2.Version x2.Server x2.Good x2.Data) (vb0 n x1 (decide (x1>(IntKind.i64.wrap (((x0.length:Nat):Int)+(1:Int))))) x0 x2.Term x2.Kind x2.Version x2.Server x2.Good x2.Data):=by kernel_rfl
def yw0 (n:Nat) (s1 s11 r1 b2_0 b2_1 b2_2 b2_3 b2_4 b2_5):vb0 (n+1) s1 s11 r1 b2_0 b2_1 b2_2 b2_3 b2_4 b2_5=j8 s11 (some (((r1,()),(),()),(false,()))) (j8 (decide (s1<=((r1.length:Nat):Int))) (if 0<=IntKind.i64.wrap (s1-(1:Int))/\IntKind.i64.wrap (s1-(1:Int))<((r1.length:Nat):Int) then (j7 (qco v7 (r1.getD ((IntKind.i64.wrap (s1-(1:Int))).toNat) ye4) (⟨b2_0,b2_1,b2_2,b2_3,b2_4,b2_5⟩:Entry)) fun y1=>some (((r1,()),(),()),(y1,()))) else none) (j7 (qbd v7 b2_5) fun y2=>if (r1.length+1)*64<=140737488355328 then (some (((r1++([(⟨b2_0,b2_1,b2_2,b2_3,b2_4,y2⟩:Entry)]:List Entry),()),(),()),(true,()))) else none)):=by kernel_rfl
def vb1:=okG kt6 func13
def gx9:KF:=⟨cE (w7 1 (q8 vb1 (q9 13))) eN,0,[],[([O,I,O,I,I],⟨[4,7,8,9],[],false,[(0,0,36,.user 0)],0,false⟩),([I,O,O,I,I,O,O,I,O,I,I],qt [4,7,8,9,23])],f9,z0,[.c9],[.own 36 (.user 0),.a4]⟩
abbrev kx9:=Option (List Entry×Bool)
def qs (n:Nat) (x0:List Tale):kx9:=tF gx9 n x0
def vw0 (n:Nat) (s7:List Tale) (s8 s9:Int) (r1:List Entry):kx9:=uF gx9 n [O,I,O,I,I] ⟨[(4,.ptr 0 0),(7,.cell ⟨.list (.user 4),s7⟩),(8,ci s8),(9,ci s9)],[.blk 44 [.own 1],.k14 r1]⟩
def kx8 (n:Nat) (s7:List Tale) (s8 s9:Int) (s23:Bool) (r1:List Entry):kx9:=uF gx9 n [I,O,O,I,I,O,O,I,O,I,I] ⟨[(4,.ptr 0 0),(7,.cell ⟨.list (.user 4),s7⟩),(8,ci s8),(9,ci s9),(23,cb s23)],[.blk 44 [.own 1],.k14 r1]⟩
def uj8 (n:Nat) (x0):qs n x0=vw0 n x0 ((x0.length:Nat):Int) (0:Int) ([]:List Entry):=by kernel_rfl
def qm9 (n:Nat) (s7 s8 s9 r1):vw0 (n+1) s7 s8 s9 r1=j8 (decide (s9<s8)) (if 0<=s9/\s9<((s7.length:Nat):Int) then (j8 (((s7.getD s9.toNat v6).Kind)==(2:Int)) (j7 (qap v7 r1 ((s7.getD s9.toNat v6).Index) (⟨(s7.getD s9.toNat v6).Entry_Term,(s7.getD s9.toNat v6).Entry_Kind,(s7.getD s9.toNat v6).Entry_Version,(s7.getD s9.toNat v6).Entry_Server,(s7.getD s9.toNat v6).Entry_Good,(s7.getD s9.toNat v6).Entry_Data⟩:Entry)) fun y1=>kx8 n s7 s8 s9 (!y1.2.1) y1.1.1.1) (kx8 n s7 s8 s9 false r1)) else none) (some (r1,true)):=by kernel_rfl
def qm8 (n:Nat) (s7 s8 s9 s23 r1):kx8 (n+1) s7 s8 s9 s23 r1=j8 s23 (some (([]:List Entry),false)) (vw0 n s7 s8 (IntKind.i64.wrap (s9+(1:Int))) r1):=by kernel_rfl
def gy0:=okF gx9 func9
def gr2:KG:=⟨eN,0,[],[],f49,n0,[.b1],[],[.d2]⟩
def qed (n:Nat) (x0:List Int):Option (Unit×((List Int×Bool×Bool×Unit)×Unit)):=tG gr2 n (x0,())
def wu5 (n:Nat) (x0):qed n x0=if (0+x0.length)*1<=140737488355328 then (some ((),((([]:List Int)++x0,true,false,()),()))) else none:=by kernel_rfl
def ko9:=okG gr2 func49
def vv6:KG:=⟨eN,2,[],[],f70,n0,[.d2],[.blk 138 [.own 1,.a4,.a4],.a7],[.a4]⟩
def qcj (n:Nat) (x0:List Int) (x1 x2:Bool):Option (((Unit×Bool×Bool×Unit)×List Int×Unit)×(Bool×Unit)):=tG vv6 n ((x0,x1,x2,()),())
def wm8 (n:Nat) (x0 x1 x2):qcj n x0 x1 x2=j8 (!x1) (some ((((),x1,x2,()),x0,()),(true,()))) (some ((((),x1,x2,()),x0,()),(x2,()))):=by kernel_rfl
def vc2:=okG vv6 func70
def vu7:KP:=⟨⟨eN,2,[],[([I],qt [0,1]),([O,I],qt [0,1,16])],f103,⟨[],[],[(0,0,4000000000,.bool)],[],[]⟩,[.d2,.a1],[.c3,.a7],[.part 1 1]⟩,.ifc 167 (.agg [])⟩
abbrev qz7:=Option (u15×(u18⊕u8))
def qae (n:Nat) (x0:List Int) (x1 x2:Bool) (x3:Int):qz7:=tP vu7 n ((x0,x1,x2,()),x3,())
def qd1 (n:Nat) (s1:Int) (s16 b0_1 b0_2:Bool) (r1:List Int):qz7:=uP vu7 n [O,I] ⟨[(0,.ptr 0 0),(1,ci s1),(16,cb s16)],[.blk 138 [.own 1,cb b0_1,cb b0_2],.k43 r1]⟩
def qz5 (n:Nat) (s1:Int) (b0_1 b0_2:Bool) (r1:List Int):qz7:=uP vu7 n [I] ⟨[(0,.ptr 0 0),(1,ci s1)],[.blk 138 [.own 1,cb b0_1,cb b0_2],.k43 r1]⟩
def wf4 (n:Nat) (x0 x1 x2 x3):qae n x0 x1 x2 x3=j8 (decide (x3<(0:Int))) (qd1 n x3 true x1 x2 x0) (qd1 n x3 (decide (x3>((x0.length:Nat):Int))) x1 x2 x0):=by kernel_rfl
def vp1 (n:Nat) (s1 s16 b0_1 b0_2 r1):qd1 (n+1) s1 s16 b0_1 b0_2 r1=j8 s16 (some ((((0,r1.length),b0_1,b0_2,()),r1,()),.inr ((),()))) (qz5 n s1 b0_1 b0_2 r1):=by kernel_rfl
def vp0 (n:Nat) (s1 b0_1 b0_2 r1):qz5 (n+1) s1 b0_1 b0_2 r1=if 0<=(0:Int)/\(0:Int)<=s1/\s1<=((r1.length:Nat):Int) then (if 0<=s1/\s1<=((r1.length:Nat):Int)/\((r1.length:Nat):Int)<=((r1.length:Nat):Int) then (some ((((s1.toNat,(((r1.length:Nat):Int).toNat)-s1.toNat),b0_1,b0_2,()),r1,()),.inl ((0,s1.toNat-0),()))) else none) else none:=by kernel_rfl
def qz6:=okP vu7 func103
def kt4:KP:=⟨⟨cP qz6 eN,2,[],[([O,I,O,I,I],qt [3,7,8,9])],f66,n0,[.d2],[.c3,.a7],[.a1]⟩,.ifc 167 (.agg [])⟩
abbrev kk8:=Option (u15×(u4⊕u8))
def qan (n:Nat) (x0:List Int) (x1 x2:Bool):kk8:=tP kt4 n ((x0,x1,x2,()),())
def yk9 (n:Nat) (s3:Int) (s7o s7n:Nat) (s8 s9:Int) (b0_0o b0_0n:Nat) (b0_1 b0_2:Bool) (r1:List Int):kk8:=uP kt4 n [O,I,O,I,I] ⟨[(3,qr9 s3),(7,.sl 1 1 s7o s7n),(8,ci s8),(9,ci s9)],[.k38 b0_0o b0_0n b0_1 b0_2,.k43 r1]⟩
def wh0 (n:Nat) (x0 x1 x2):qan n x0 x1 x2=j7 (qae v7 x0 x1 x2 (8:Int)) fun y1=>match y1.2 with| .inl z1=>(yk9 n (0:Int) z1.1.1 z1.1.2 ((z1.1.2:Nat):Int) (0:Int) y1.1.1.1.1 y1.1.1.1.2 y1.1.1.2.1 y1.1.1.2.2.1 y1.1.2.1)| .inr e1=>(some ((((y1.1.1.1.1,y1.1.1.1.2),y1.1.1.2.1,y1.1.1.2.2.1,()),y1.1.2.1,()),.inr ((),()))):=by kernel_rfl
def ju5 (n:Nat) (s3 s7o s7n s8 s9 b0_0o b0_0n b0_1 b0_2 r1):yk9 (n+1) s3 s7o s7n s8 s9 b0_0o b0_0n b0_1 b0_2 r1=j8 (decide (s9<s8)) (if 0<=s9/\s9<((s7n:Nat):Int) then (if s7o+s9.toNat<r1.length then (yk9 n (bOr .u64 (zm3 .u64 s3 (8:Int)) (IntKind.u64.wrap (r1.getD (s7o+s9.toNat) (0:Int)))) s7o s7n s8 (IntKind.i64.wrap (s9+(1:Int))) b0_0o b0_0n b0_1 b0_2 r1) else none) else none) (some ((((b0_0o,b0_0n),b0_1,b0_2,()),r1,()),.inl (IntKind.i64.wrap s3,()))):=by kernel_rfl
def kk7:=okP kt4 func66
def kw1:KP:=⟨⟨cP kk7 eN,3,[],[],f65,n0,[.ptr 0 101 [.d2]],[.blk 101 [.at_ 1 0],.blk 138 [.part 2 1,.a4,.a4],.a7],[.a1]⟩,.ifc 167 (.agg [])⟩
def qdl (n:Nat) (x0:List Int) (x1 x2:Bool):Option ((u8×u7×List Int×Unit)×(u4⊕u8)):=tP kw1 n (((x0,x1,x2,()),()),())
def wr1 (n:Nat) (x0 x1 x2):qdl n x0 x1 x2=j7 (qan v7 x0 x1 x2) fun y1=>match y1.2 with| .inl z1=>(some ((((),()),((y1.1.1.1.1,y1.1.1.1.2),y1.1.1.2.1,y1.1.1.2.2.1,()),y1.1.2.1,()),.inl (z1.1,())))| .inr e1=>(some ((((),()),((y1.1.1.1.1,y1.1.1.1.2),y1.1.1.2.1,y1.1.1.2.2.1,()),y1.1.2.1,()),.inr ((),()))):=by kernel_rfl
def wr2:=okP kw1 func65
def qbv_C:Ctx TT:=⟨yu0,[],4,[],zt9,yt1,yt7⟩
def gf5:zc5 TT prog qbv_C.E:=zl7
def qbv (x0:Int) (x1:List Int) (x2 x3:Nat) (x4 x5:Bool):Option (u4×u8×u7×List Int×Unit):=ys4 prog qbv_C f102 (zb1 f102) [.d7,.e5] (.rw 1) [.e2,.g1,.d6,.a7] ((x0,()),(((x1,x2,x3),x4,x5,()),()),(),())
def wl7 (x0:Int) (x1 x2 x3 x4 x5):qbv x0 x1 x2 x3 x4 x5=some ((x0,()),((),()),((x2,x3),x4,x5,()),x1,()):=by kernel_rfl
def vh9:DSpec TT:=⟨[.d7,.e5],.rw 1,[.e2,.g1,.d6,.a7],fun x=>qbv x.1.1 x.2.1.1.1.1 x.2.1.1.1.2.1 x.2.1.1.1.2.2 x.2.1.1.2.1 x.2.1.1.2.2.1⟩
def gf4:DOk TT prog 102 vh9:=yk2 (C:=qbv_C) (by kernel_rfl) gf5 func102 (show f102.body=some (zb1 f102) by kernel_rfl) (by kernel_rfl) (by kernel_rfl) (by kernel_rfl) (by kernel_rfl) fun x y h=>h
def qbw_C:Ctx TT:=⟨yu0,[],4,[],zt9,yt1,yt7⟩
def gf7:zc5 TT prog qbw_C.E:=zl7
def qbw (x0:Int) (x1:List Int) (x2 x3:Nat) (x4 x5:Bool):Option (u4×u8×u7×List Int×Unit):=ys4 prog qbw_C f102 (zb1 f102) [.d7,.e5] (.ifc 167 (.agg [])) [.e2,.g1,.d6,.a7] ((x0,()),(((x1,x2,x3),x4,x5,()),()),(),())
def wl8 (x0:Int) (x1 x2 x3 x4 x5):qbw x0 x1 x2 x3 x4 x5=some (((0:Int),()),((),()),((x2,x3),x4,true,()),x1,()):=by kernel_rfl
def vi0:DSpec TT:=⟨[.d7,.e5],.ifc 167 (.agg []),[.e2,.g1,.d6,.a7],fun x=>qbw x.1.1 x.2.1.1.1.1 x.2.1.1.1.2.1 x.2.1.1.1.2.2 x.2.1.1.2.1 x.2.1.1.2.2.1⟩
def gf6:DOk TT prog 102 vi0:=yk2 (C:=qbw_C) (by kernel_rfl) gf7 func102 (show f102.body=some (zb1 f102) by kernel_rfl) (by kernel_rfl) (by kernel_rfl) (by kernel_rfl) (by kernel_rfl) fun x y h=>h
def qbe_C:Ctx TT:=⟨yu0,[(70,(sG vv6).toCall (zc0 TT)),(65,(sP kw1).toCall (zc0 TT))],3,[],zt9,yt1,yt7⟩
def ge6:zc5 TT prog qbe_C.E:=jl6 (q8 vc2 (q9 70)) (jl6 (ze9 wr2 (q9 65)) (zl7))
def qm5:List (Pos×Cut):= []
def gm0:DefP TT:=⟨2,8,[8,1,4],5,102,[(3,0),(4,0)],vh9,vi0⟩
def qbe (n:Nat) (x0:List Int) (x1 x2:Bool):Option ((u7×List Int×u8×Unit)×u4):=vy4 prog qbe_C qm5 f64 (zb1 f64) ⟨[],[],[(0,0,4000000000,.bool)],[],[]⟩ [.d2,.fn 65 [] [.ptr 0 101 [.at_ 0 0]]] [.c3,.a7,.blk 101 [.at_ 0 0]] [.a1] gm0 n ((x0,x1,x2,()),((),(((),()),())),())
def wk0 (n:Nat) (x0 x1 x2):qbe n x0 x1 x2=j7 (qcj v7 x0 x1 x2) fun y1=>j8 y1.2.1 (some ((((0,y1.1.2.1.length),y1.1.1.2.1,y1.1.1.2.2.1,()),y1.1.2.1,((),()),()),((0:Int),()))) (j7 (qdl v7 y1.1.2.1 y1.1.1.2.1 y1.1.1.2.2.1) fun y2=>match y2.2 with| .inl z2=>(j7 (qbv z2.1 y2.1.2.2.1 y2.1.2.1.1.1 y2.1.2.1.1.2 y2.1.2.1.2.1 y2.1.2.1.2.2.1) fun y3=>some ((((y3.2.2.1.1.1,y3.2.2.1.1.2),y3.2.2.1.2.1,y3.2.2.1.2.2.1,()),y3.2.2.2.1,((),()),()),(y3.1.1,())))| .inr e2=>(j7 (qbw (0:Int) y2.1.2.2.1 y2.1.2.1.1.1 y2.1.2.1.1.2 y2.1.2.1.2.1 y2.1.2.1.2.2.1) fun y4=>some ((((y4.2.2.1.1.1,y4.2.2.1.1.2),y4.2.2.1.2.1,y4.2.2.1.2.2.1,()),y4.2.2.2.1,((),()),()),(y4.1.1,())))):=by kernel_rfl
def wk2:GSpec TT:=⟨[.d2,.fn 65 [] [.ptr 0 101 [.at_ 0 0]]],[.c3,.a7,.blk 101 [.at_ 0 0]],[.a1],fun x=>qbe v7 x.1.1 x.1.2.1 x.1.2.2.1⟩
def wk1:GOk TT prog 64 wk2:=yk6 (C:=qbe_C) (cuts:=qm5) (D:=gm0) (by kernel_rfl) ge6 func64 (show f64.body=some (zb1 f64) by kernel_rfl) (by kernel_rfl) (by kernel_rfl) (by kernel_rfl) gf4 gf6 fun x y h=>⟨v7,h⟩
def go5:KG:=⟨cG wk1 eN,2,[],[],f50,n0,[.d2],[.c3,.a7],[.a1]⟩
def qct (n:Nat) (x0:List Int) (x1 x2:Bool):Option (u15×u4):=tG go5 n ((x0,x1,x2,()),())
def wn7 (n:Nat) (x0 x1 x2):qct n x0 x1 x2=j7 (qbe v7 x0 x1 x2) fun y1=>some ((((y1.1.1.1.1,y1.1.1.1.2),y1.1.1.2.1,y1.1.1.2.2.1,()),y1.1.2.1,()),(y1.2.1,())):=by kernel_rfl
def ko4:=okG go5 func50
def ku9:KG:=⟨eN,2,[],[],f70,n0,[.b3],[.c3,.a7],[.a4]⟩
def qck (n:Nat) (x0:List Int) (x1 x2:Nat) (x3 x4:Bool):Option (u15×(Bool×Unit)):=tG ku9 n (((x0,x1,x2),x3,x4,()),())
def kn4 (n:Nat) (x0 x1 x2 x3 x4):qck n x0 x1 x2 x3 x4=j8 (!x3) (some ((((x1,x2),x3,x4,()),x0,()),(true,()))) (some ((((x1,x2),x3,x4,()),x0,()),(x4,()))):=by kernel_rfl
def kn5:=okG ku9 func70
def vu8:KP:=⟨⟨eN,2,[],[([I],qt [0,1]),([O,I],qt [0,1,16])],f103,n0,[.b3,.a1],[.c3,.a7],[.part 1 1]⟩,.ifc 167 (.agg [])⟩
abbrev qz9:=Option (u15×(u18⊕u8))
def qaf (n:Nat) (x0:List Int) (x1 x2:Nat) (x3 x4:Bool) (x5:Int):qz9:=tP vu8 n (((x0,x1,x2),x3,x4,()),x5,())
def qd2 (n:Nat) (s1:Int) (s16:Bool) (b0_0o b0_0n:Nat) (b0_1 b0_2:Bool) (r1:List Int):qz9:=uP vu8 n [O,I] ⟨[(0,.ptr 0 0),(1,ci s1),(16,cb s16)],[.k38 b0_0o b0_0n b0_1 b0_2,.k43 r1]⟩
def qz8 (n:Nat) (s1:Int) (b0_0o b0_0n:Nat) (b0_1 b0_2:Bool) (r1:List Int):qz9:=uP vu8 n [I] ⟨[(0,.ptr 0 0),(1,ci s1)],[.k38 b0_0o b0_0n b0_1 b0_2,.k43 r1]⟩
def wf5 (n:Nat) (x0 x1 x2 x3 x4 x5):qaf n x0 x1 x2 x3 x4 x5=j8 (decide (x5<(0:Int))) (qd2 n x5 true x1 x2 x3 x4 x0) (qd2 n x5 (decide (x5>((x2:Nat):Int))) x1 x2 x3 x4 x0):=by kernel_rfl
def vp3 (n:Nat) (s1 s16 b0_0o b0_0n b0_1 b0_2 r1):qd2 (n+1) s1 s16 b0_0o b0_0n b0_1 b0_2 r1=j8 s16 (some ((((b0_0o,b0_0n),b0_1,b0_2,()),r1,()),.inr ((),()))) (qz8 n s1 b0_0o b0_0n b0_1 b0_2 r1):=by kernel_rfl
def vp2 (n:Nat) (s1 b0_0o b0_0n b0_1 b0_2 r1):qz8 (n+1) s1 b0_0o b0_0n b0_1 b0_2 r1=if 0<=(0:Int)/\(0:Int)<=s1/\(s1<=((b0_0n:Nat):Int)\/(((b0_0o:Nat):Int)+s1<=((r1.length:Nat):Int)/\(b0_0o=0\/0<b0_0n))) then (if 0<=s1/\s1<=((b0_0n:Nat):Int)/\(((b0_0n:Nat):Int)<=((b0_0n:Nat):Int)\/(((b0_0o:Nat):Int)+((b0_0n:Nat):Int)<=((r1.length:Nat):Int)/\(b0_0o=0\/0<b0_0n))) then (some ((((b0_0o+s1.toNat,(((b0_0n:Nat):Int).toNat)-s1.toNat),b0_1,b0_2,()),r1,()),.inl ((b0_0o+0,s1.toNat-0),()))) else none) else none:=by kernel_rfl
def kk5:=okP vu8 func103
def kt5:KP:=⟨⟨cE (ze9 kk5 (ze9 qz6 (q9 103))) eN,2,[],[([O,I,O,I,I],qt [3,7,8,9])],f66,n0,[.b3],[.c3,.a7],[.a1]⟩,.ifc 167 (.agg [])⟩
abbrev kk9:=Option (u15×(u4⊕u8))
def qao (n:Nat) (x0:List Int) (x1 x2:Nat) (x3 x4:Bool):kk9:=tP kt5 n (((x0,x1,x2),x3,x4,()),())
def yl0 (n:Nat) (s3:Int) (s7o s7n:Nat) (s8 s9:Int) (b0_0o b0_0n:Nat) (b0_1 b0_2:Bool) (r1:List Int):kk9:=uP kt5 n [O,I,O,I,I] ⟨[(3,qr9 s3),(7,.sl 1 1 s7o s7n),(8,ci s8),(9,ci s9)],[.k38 b0_0o b0_0n b0_1 b0_2,.k43 r1]⟩
def wh1 (n:Nat) (x0 x1 x2 x3 x4):qao n x0 x1 x2 x3 x4=j7 (qaf v7 x0 x1 x2 x3 x4 (8:Int)) fun y1=>match y1.2 with| .inl z1=>(yl0 n (0:Int) z1.1.1 z1.1.2 ((z1.1.2:Nat):Int) (0:Int) y1.1.1.1.1 y1.1.1.1.2 y1.1.1.2.1 y1.1.1.2.2.1 y1.1.2.1)| .inr e1=>(some ((((y1.1.1.1.1,y1.1.1.1.2),y1.1.1.2.1,y1.1.1.2.2.1,()),y1.1.2.1,()),.inr ((),()))):=by kernel_rfl
def ju6 (n:Nat) (s3 s7o s7n s8 s9 b0_0o b0_0n b0_1 b0_2 r1):yl0 (n+1) s3 s7o s7n s8 s9 b0_0o b0_0n b0_1 b0_2 r1=j8 (decide (s9<s8)) (if 0<=s9/\s9<((s7n:Nat):Int) then (if s7o+s9.toNat<r1.length then (yl0 n (bOr .u64 (zm3 .u64 s3 (8:Int)) (IntKind.u64.wrap (r1.getD (s7o+s9.toNat) (0:Int)))) s7o s7n s8 (IntKind.i64.wrap (s9+(1:Int))) b0_0o b0_0n b0_1 b0_2 r1) else none) else none) (some ((((b0_0o,b0_0n),b0_1,b0_2,()),r1,()),.inl (IntKind.i64.wrap s3,()))):=by kernel_rfl
def wh2:=okP kt5 func66
def gr3:KP:=⟨⟨cE (ze9 wh2 (ze9 kk7 (q9 66))) (cE (ze9 kk5 (ze9 qz6 (q9 103))) eN),2,[],[],f69,n0,[.b3],[.c3,.a7],[.a7]⟩,.ifc 167 (.agg [])⟩
def qef (n:Nat) (x0:List Int) (x1 x2:Nat) (x3 x4:Bool):Option (u15×(u11⊕u8)):=tP gr3 n (((x0,x1,x2),x3,x4,()),())
def wu9 (n:Nat) (x0 x1 x2 x3 x4):qef n x0 x1 x2 x3 x4=j7 (qao v7 x0 x1 x2 x3 x4) fun y1=>match y1.2 with| .inl z1=>(j7 (qaf v7 y1.1.2.1 y1.1.1.1.1 y1.1.1.1.2 y1.1.1.2.1 y1.1.1.2.2.1 z1.1) fun y2=>match y2.2 with| .inl z2=>(if z2.1.1+z2.1.2<=y2.1.2.1.length then (if (0+(List.take z2.1.2 (List.drop z2.1.1 y2.1.2.1)).length)*1<=140737488355328 then (some ((((y2.1.1.1.1,y2.1.1.1.2),y2.1.1.2.1,y2.1.1.2.2.1,()),y2.1.2.1,()),.inl (([]:List Int)++(List.take z2.1.2 (List.drop z2.1.1 y2.1.2.1)),()))) else none) else none)| .inr e2=>(some ((((y2.1.1.1.1,y2.1.1.1.2),y2.1.1.2.1,y2.1.1.2.2.1,()),y2.1.2.1,()),.inr ((),()))))| .inr e1=>(some ((((y1.1.1.1.1,y1.1.1.1.2),y1.1.1.2.1,y1.1.1.2.2.1,()),y1.1.2.1,()),.inr ((),()))):=by kernel_rfl
def wv0:=okP gr3 func69
def kw3:KP:=⟨⟨cP wv0 eN,3,[],[],f68,n0,[.e5],[.blk 101 [.at_ 1 0],.blk 138 [.part 2 1,.a4,.a4],.a7],[.a7]⟩,.ifc 167 (.agg [])⟩
def qee (n:Nat) (x0:List Int) (x1 x2:Nat) (x3 x4:Bool):Option ((u8×u7×List Int×Unit)×(u11⊕u8)):=tP kw3 n ((((x0,x1,x2),x3,x4,()),()),())
def wu6 (n:Nat) (x0 x1 x2 x3 x4):qee n x0 x1 x2 x3 x4=j7 (qef v7 x0 x1 x2 x3 x4) fun y1=>match y1.2 with| .inl z1=>(some ((((),()),((y1.1.1.1.1,y1.1.1.1.2),y1.1.1.2.1,y1.1.1.2.2.1,()),y1.1.2.1,()),.inl (z1.1,())))| .inr e1=>(some ((((),()),((y1.1.1.1.1,y1.1.1.1.2),y1.1.1.2.1,y1.1.1.2.2.1,()),y1.1.2.1,()),.inr ((),()))):=by kernel_rfl
def wu7:=okP kw3 func68
def qbx_C:Ctx TT:=⟨yu0,[],5,[],zt9,yt1,yt7⟩
def gf9:zc5 TT prog qbx_C.E:=zl7
def qbx (x0 x1:List Int) (x2 x3:Nat) (x4 x5:Bool):Option (u8×List Int×u8×u7×List Int×Unit):=ys4 prog qbx_C f104 (zb1 f104) [.ptr 0 34 [.a7],.e5] (.rw 1) [.blk 34 [.own 1],.a7,.blk 101 [.at_ 3 0],.blk 138 [.part 4 1,.a4,.a4],.a7] ((x0,()),(((x1,x2,x3),x4,x5,()),()),(),())
def wl9 (x0:List Int) (x1 x2 x3 x4 x5):qbx x0 x1 x2 x3 x4 x5=some (((),()),x0,((),()),((x2,x3),x4,x5,()),x1,()):=by kernel_rfl
def vi1:DSpec TT:=⟨[.ptr 0 34 [.a7],.e5],.rw 1,[.blk 34 [.own 1],.a7,.blk 101 [.at_ 3 0],.blk 138 [.part 4 1,.a4,.a4],.a7],fun x=>qbx x.1.1 x.2.1.1.1.1 x.2.1.1.1.2.1 x.2.1.1.1.2.2 x.2.1.1.2.1 x.2.1.1.2.2.1⟩
def gf8:DOk TT prog 104 vi1:=yk2 (C:=qbx_C) (by kernel_rfl) gf9 func104 (show f104.body=some (zb1 f104) by kernel_rfl) (by kernel_rfl) (by kernel_rfl) (by kernel_rfl) (by kernel_rfl) fun x y h=>h
def qbs_C:Ctx TT:=⟨yu0,[],4,[],zt9,yt1,yt7⟩
def gf3:zc5 TT prog qbs_C.E:=zl7
def qbs (x0:List Int) (x1 x2:Nat) (x3 x4:Bool):Option (u8×u8×u7×List Int×Unit):=ys4 prog qbs_C f104 (zb1 f104) [.ptr 0 34 [.nils],.e5] (.ifc 167 (.agg [])) [.blk 34 [.nils],.g1,.d6,.a7] (((),()),(((x0,x1,x2),x3,x4,()),()),(),())
def km6 (x0:List Int) (x1 x2 x3 x4):qbs x0 x1 x2 x3 x4=some (((),()),((),()),((x1,x2),x3,true,()),x0,()):=by kernel_rfl
def vh8:DSpec TT:=⟨[.ptr 0 34 [.nils],.e5],.ifc 167 (.agg []),[.blk 34 [.nils],.g1,.d6,.a7],fun x=>qbs x.2.1.1.1.1 x.2.1.1.1.2.1 x.2.1.1.1.2.2 x.2.1.1.2.1 x.2.1.1.2.2.1⟩
def gf2:DOk TT prog 104 vh8:=yk2 (C:=qbs_C) (by kernel_rfl) gf3 func104 (show f104.body=some (zb1 f104) by kernel_rfl) (by kernel_rfl) (by kernel_rfl) (by kernel_rfl) (by kernel_rfl) fun x y h=>h
def qbf_C:Ctx TT:=⟨yu0,[(70,(sG ku9).toCall ((sG vv6).toCall (zc0 TT))),(68,(sP kw3).toCall (zc0 TT))],3,[],zt9,yt1,yt7⟩
def ge7:zc5 TT prog qbf_C.E:=jl6 (q8 kn5 (q8 vc2 (q9 70))) (jl6 (ze9 wu7 (q9 68)) (zl7))
def qm6:List (Pos×Cut):= []
def gm1:DefP TT:=⟨2,8,[8,1,4],5,104,[(3,0),(4,0)],vi1,vh8⟩
def qbf (n:Nat) (x0:List Int) (x1 x2:Nat) (x3 x4:Bool):Option ((u7×List Int×u8×Unit)×u11):=vy4 prog qbf_C qm6 f67 (zb1 f67) ⟨[(0,5,.int .u8,true)],[],[],[],[]⟩ [.b3,.fn 68 [] [.ptr 0 101 [.at_ 0 0]]] [.c3,.a7,.blk 101 [.at_ 0 0]] [.a7] gm1 n (((x0,x1,x2),x3,x4,()),((),(((),()),())),())
def wk3 (n:Nat) (x0 x1 x2 x3 x4):qbf n x0 x1 x2 x3 x4=j7 (qck v7 x0 x1 x2 x3 x4) fun y1=>j8 y1.2.1 (some ((((y1.1.1.1.1,y1.1.1.1.2),y1.1.1.2.1,y1.1.1.2.2.1,()),y1.1.2.1,((),()),()),(([]:List Int),()))) (j7 (qee v7 y1.1.2.1 y1.1.1.1.1 y1.1.1.1.2 y1.1.1.2.1 y1.1.1.2.2.1) fun y2=>match y2.2 with| .inl z2=>(j7 (qbx z2.1 y2.1.2.2.1 y2.1.2.1.1.1 y2.1.2.1.1.2 y2.1.2.1.2.1 y2.1.2.1.2.2.1) fun y3=>some ((((y3.2.2.2.1.1.1,y3.2.2.2.1.1.2),y3.2.2.2.1.2.1,y3.2.2.2.1.2.2.1,()),y3.2.2.2.2.1,((),()),()),(y3.2.1,())))| .inr e2=>(j7 (qbs y2.1.2.2.1 y2.1.2.1.1.1 y2.1.2.1.1.2 y2.1.2.1.2.1 y2.1.2.1.2.2.1) fun y4=>some ((((y4.2.2.1.1.1,y4.2.2.1.1.2),y4.2.2.1.2.1,y4.2.2.1.2.2.1,()),y4.2.2.2.1,((),()),()),(([]:List Int),())))):=by kernel_rfl
def wk5:GSpec TT:=⟨[.b3,.fn 68 [] [.ptr 0 101 [.at_ 0 0]]],[.c3,.a7,.blk 101 [.at_ 0 0]],[.a7],fun x=>qbf v7 x.1.1.1 x.1.1.2.1 x.1.1.2.2 x.1.2.1 x.1.2.2.1⟩
def wk4:GOk TT prog 67 wk5:=yk6 (C:=qbf_C) (cuts:=qm6) (D:=gm1) (by kernel_rfl) ge7 func67 (show f67.body=some (zb1 f67) by kernel_rfl) (by kernel_rfl) (by kernel_rfl) (by kernel_rfl) gf8 gf2 fun x y h=>⟨v7,h⟩
def gm7:KG:=⟨cG wk4 eN,2,[],[],f51,n0,[.b3],[.c3,.a7],[.a7]⟩
def qbu (n:Nat) (x0:List Int) (x1 x2:Nat) (x3 x4:Bool):Option (u15×u11):=tG gm7 n (((x0,x1,x2),x3,x4,()),())
def wl6 (n:Nat) (x0 x1 x2 x3 x4):qbu n x0 x1 x2 x3 x4=j7 (qbf v7 x0 x1 x2 x3 x4) fun y1=>some ((((y1.1.1.1.1,y1.1.1.1.2),y1.1.1.2.1,y1.1.1.2.2.1,()),y1.1.2.1,()),(y1.2.1,())):=by kernel_rfl
def km7:=okG gm7 func51
def go4:KG:=⟨cE (q8 kn5 (q8 vc2 (q9 70))) eN,2,[],[],f53,n0,[.b3],[.c3,.a7],[.a4]⟩
def qcs (n:Nat) (x0:List Int) (x1 x2:Nat) (x3 x4:Bool):Option (u15×(Bool×Unit)):=tG go4 n (((x0,x1,x2),x3,x4,()),())
def wn6 (n:Nat) (x0 x1 x2 x3 x4):qcs n x0 x1 x2 x3 x4=j7 (qck v7 x0 x1 x2 x3 x4) fun y1=>j8 (!y1.2.1) (some ((((y1.1.1.1.1,y1.1.1.1.2),y1.1.1.2.1,y1.1.1.2.2.1,()),y1.1.2.1,()),(((y1.1.1.1.2:Nat):Int)==(0:Int),()))) (some ((((y1.1.1.1.1,y1.1.1.1.2),y1.1.1.2.1,y1.1.1.2.2.1,()),y1.1.2.1,()),(false,()))):=by kernel_rfl
def ko3:=okG go4 func53
def gm3:KP:=⟨⟨eN,0,[],[],f52,n0,[.a4,.a1],[],[]⟩,.ifc 25 (.val (.int .i64))⟩
def qbo (n:Nat) (x0:Bool) (x1:Int):Option (Unit×(Unit⊕u4)):=tP gm3 n (x0,x1,())
def wl2 (n:Nat) (x0 x1):qbo n x0 x1=j8 x0 (some ((),.inr (x1,()))) (some ((),.inl ())):=by kernel_rfl
def vb6:=okP gm3 func52
def kt8:KP:=⟨⟨cP vb6 eN,3,[],[([I],qt [1])],f54,n0,[.agg [.a1,.a7,.a7,.a7]],[.a7,.a7,.a7],[]⟩,.ifc 25 (.val (.int .i64))⟩
abbrev kl4:=Option ((List Int×List Int×List Int×Unit)×(Unit⊕u4))
def qar (n:Nat) (x0:Int) (x1 x2 x3:List Int):kl4:=tP kt8 n ((x0,x1,x2,x3,()),())
def vb3 (n:Nat) (r0 r1 r2:List Int) (b3_0:Int):kl4:=uP kt8 n [I] ⟨[(1,.ptr 3 0)],[.k43 r0,.k43 r1,.k43 r2,.blk 104 [ci b3_0,.own 0,.own 1,.own 2]]⟩
def wh4 (n:Nat) (x0 x1 x2 x3):qar n x0 x1 x2 x3=j8 (decide (x0<(1:Int))) (j7 (qbo v7 true (2:Int)) fun y1=>match y1.2 with| .inl z1=>(vb3 n x1 x2 x3 x0)| .inr e1=>(some ((x1,x2,x3,()),.inr (e1.1,())))) (j7 (qbo v7 (decide (x0>(1073741824:Int))) (2:Int)) fun y2=>match y2.2 with| .inl z2=>(vb3 n x1 x2 x3 x0)| .inr e2=>(some ((x1,x2,x3,()),.inr (e2.1,())))):=by kernel_rfl
def vp8 (n:Nat) (r0 r1 r2 b3_0):vb3 (n+1) r0 r1 r2 b3_0=j7 (qbo v7 (decide (((r0.length:Nat):Int)>(32768:Int))) (3:Int)) fun y1=>match y1.2 with| .inl z1=>(j8 (((r1.length:Nat):Int) != (32:Int)) (j7 (qbo v7 true (4:Int)) fun y2=>match y2.2 with| .inl z2=>(some ((r0,r1,r2,()),.inl ()))| .inr e2=>(some ((r0,r1,r2,()),.inr (e2.1,())))) (j7 (qbo v7 (((r2.length:Nat):Int) != (32:Int)) (4:Int)) fun y3=>match y3.2 with| .inl z3=>(some ((r0,r1,r2,()),.inl ()))| .inr e3=>(some ((r0,r1,r2,()),.inr (e3.1,())))))| .inr e1=>(some ((r0,r1,r2,()),.inr (e1.1,()))):=by kernel_rfl
def kl3:=okP kt8 func54
def vv5:KP:=⟨⟨cG ko9 (cG ko4 (cG km7 (cG ko3 (cP vb6 (cP kl3 eN))))),1,[],[],f48,n0,[.ptr 0 34 [.b1]],[.blk 34 [.b1]],[.agg [.a1,.a7,.a7,.a7]]⟩,.ifc 25 (.val (.int .i64))⟩
def qcg (n:Nat) (x0:List Int):Option ((u11×Unit)×(((Int×List Int×List Int×List Int×Unit)×Unit)⊕u4)):=tP vv5 n ((x0,()),())
def wm5 (n:Nat) (x0):qcg n x0=j7 (qed v7 x0) fun y1=>j7 (qct v7 y1.2.1.1 y1.2.1.2.1 y1.2.1.2.2.1) fun y2=>j7 (qbu v7 y2.1.2.1 y2.1.1.1.1 y2.1.1.1.2 y2.1.1.2.1 y2.1.1.2.2.1) fun y3=>j7 (qbu v7 y3.1.2.1 y3.1.1.1.1 y3.1.1.1.2 y3.1.1.2.1 y3.1.1.2.2.1) fun y4=>j7 (qbu v7 y4.1.2.1 y4.1.1.1.1 y4.1.1.1.2 y4.1.1.2.1 y4.1.1.2.2.1) fun y5=>j7 (qcs v7 y5.1.2.1 y5.1.1.1.1 y5.1.1.1.2 y5.1.1.2.1 y5.1.1.2.2.1) fun y6=>j7 (qbo v7 (!y6.2.1) (4:Int)) fun y7=>match y7.2 with| .inl z7=>(j7 (qar v7 y2.2.1 y3.2.1 y4.2.1 y5.2.1) fun y8=>match y8.2 with| .inl z8=>(some (((x0,()),()),.inl ((y2.2.1,y8.1.1,y8.1.2.1,y8.1.2.2.1,()),())))| .inr e8=>(some (((x0,()),()),.inr (e8.1,()))))| .inr e7=>(some (((x0,()),()),.inr (e7.1,()))):=by kernel_rfl
def kn3:=okP vv5 func48
def qbg_C:Ctx TT:=⟨yu0,[],5,[],zt9,yt1,yt7⟩
def ge8:zc5 TT prog qbg_C.E:=zl7
def qbg (x0 x1:Int) (x2 x3 x4:List Int):Option (u4×(Int×Unit×Unit×Unit×Unit)×List Int×List Int×List Int×Unit):=ys4 prog qbg_C f63 (zb1 f63) [.f1,.ptr 0 88 [.a1,.a7,.a7,.a7]] (.rw 1) [.blk 25 [.a1],.blk 88 [.a1,.own 2,.own 3,.own 4],.a7,.a7,.a7] ((x0,()),(x1,x2,x3,x4,()),(),())
def km2 (x0:Int) (x1 x2 x3 x4):qbg x0 x1 x2 x3 x4=some ((x0,()),(x1,(),(),(),()),x2,x3,x4,()):=by kernel_rfl
def jz4:DSpec TT:=⟨[.f1,.ptr 0 88 [.a1,.a7,.a7,.a7]],.rw 1,[.blk 25 [.a1],.blk 88 [.a1,.own 2,.own 3,.own 4],.a7,.a7,.a7],fun x=>qbg x.1.1 x.2.1.1 x.2.1.2.1 x.2.1.2.2.1 x.2.1.2.2.2.1⟩
def vh4:DOk TT prog 63 jz4:=yk2 (C:=qbg_C) (by kernel_rfl) ge8 func63 (show f63.body=some (zb1 f63) by kernel_rfl) (by kernel_rfl) (by kernel_rfl) (by kernel_rfl) (by kernel_rfl) fun x y h=>h
def qbh_C:Ctx TT:=⟨yu0,[],2,[],zt9,yt1,yt7⟩
def ge9:zc5 TT prog qbh_C.E:=zl7
def qbh (x0 x1 x2:Int):Option (u4×(Int×Unit×Unit×Unit×Unit)×Unit):=ys4 prog qbh_C f63 (zb1 f63) [.f1,.ptr 0 88 [.a1,.nils,.nils,.nils]] (.ifc 25 (.val (.int .i64))) [.blk 25 [.a1],.blk 88 [.a1,.nils,.nils,.nils]] ((x0,()),(x1,(),(),(),()),x2,())
def km3 (x0:Int) (x1 x2):qbh x0 x1 x2=some ((x2,()),((0:Int),(),(),(),()),()):=by kernel_rfl
def jz5:DSpec TT:=⟨[.f1,.ptr 0 88 [.a1,.nils,.nils,.nils]],.ifc 25 (.val (.int .i64)),[.blk 25 [.a1],.blk 88 [.a1,.nils,.nils,.nils]],fun x=>qbh x.1.1 x.2.1.1 x.2.2.1⟩
def vh5:DOk TT prog 63 jz5:=yk2 (C:=qbh_C) (by kernel_rfl) ge9 func63 (show f63.body=some (zb1 f63) by kernel_rfl) (by kernel_rfl) (by kernel_rfl) (by kernel_rfl) (by kernel_rfl) fun x y h=>h
def qas_C:Ctx TT:=⟨yu0,[(48,(sP vv5).toCall (zc0 TT))],1,[],zt9,yt1,yt7⟩
def ge2:zc5 TT prog qas_C.E:=jl6 (ze9 kn3 (q9 48)) (zl7)
def qm1:List (Pos×Cut):= []
def gl5:DefP TT:=⟨1,4,[4,0,2,3],3,63,[(1,0),(2,0)],jz4,jz5⟩
def qas (n:Nat) (x0:List Int):Option ((u11×Unit)×(Bundle×Int×Unit)):=vy4 prog qas_C qm1 f47 (zb1 f47) ⟨[],[],[],[(0,.user 3)],[]⟩ [.fn 48 [] [.ptr 0 34 [.b1]]] [.blk 34 [.b1]] [.val (.user 3),.a1] gl5 n (((),((x0,()),())),())
def wh5 (n:Nat) (x0):qas n x0=j7 (qcg v7 x0) fun y1=>match y1.2 with| .inl z1=>(j7 (qbg (0:Int) z1.1.1 z1.1.2.1 z1.1.2.2.1 z1.1.2.2.2.1) fun y2=>some (((y1.1.1.1,()),()),((⟨y2.2.1.1,y2.2.2.1,y2.2.2.2.1,y2.2.2.2.2.1⟩:Bundle),y2.1.1,())))| .inr e1=>(j7 (qbh (0:Int) (0:Int) e1.1) fun y3=>some (((y1.1.1.1,()),()),((⟨y3.2.1.1,([]:List Int),([]:List Int),([]:List Int)⟩:Bundle),y3.1.1,()))):=by kernel_rfl
def wh6:GSpec TT:=⟨[.fn 48 [] [.ptr 0 34 [.b1]]],[.blk 34 [.b1]],[.val (.user 3),.a1],fun x=>qas v7 x.1.2.1.1⟩
def kl5:GOk TT prog 47 wh6:=yk6 (C:=qas_C) (cuts:=qm1) (D:=gl5) (by kernel_rfl) ge2 func47 (show f47.body=some (zb1 f47) by kernel_rfl) (by kernel_rfl) (by kernel_rfl) (by kernel_rfl) vh4 vh5 fun x y h=>⟨v7,h⟩
def go6:KF:=⟨cG kl5 eN,0,[],[],f38,⟨[],[(0,.user 3)]⟩,[.b1],[.val (.user 3),.a1]⟩
def qcu (n:Nat) (x0:List Int):Option (Bundle×Int):=tF go6 n x0
def wn8 (n:Nat) (x0):qcu n x0=j7 (qas v7 x0) fun y1=>j8 (y1.2.2.1 != (0:Int)) (some ((⟨(0:Int),([]:List Int),([]:List Int),([]:List Int)⟩:Bundle),(4:Int))) (some (y1.2.1,(0:Int))):=by kernel_rfl
def ko5:=okF go6 func38
end
end Go.X
