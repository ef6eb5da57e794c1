import Derived.Test.YthhhfnfgmijggaaGreatIe
set_option linter.defProp false
namespace Go.X
open Go.RowKit Go.V Go.Proofs Tryz
noncomputable section
def ua2:KG:=⟨eN,0,[(1,1)],[],f9,n0,[.val (.list (.int .u8))],[],[.a7]⟩
def qfj (n:Nat) (a:List Int):Option (Unit×((List RVal×List Int×List Bool×List Int×Unit)×Unit)):=tG ua2 n (a,())
def ul6 (n a):qfj n a=if 0<=11/\11<=11/\16*11<=281474976710656/\11<=9223372036854775807 then (if 0<=512/\512<=512/\1*512<=281474976710656/\512<=9223372036854775807 then (if 0<=512/\512<=512/\1*512<=281474976710656/\512<=9223372036854775807 then (if 0<=1/\1<(((List.replicate 11 (⟨0,0⟩:RVal)).length:Nat):Int) then (if 0<=2/\2<((((List.replicate 11 (⟨0,0⟩:RVal)).set 1 (⟨2,0⟩:RVal)).length:Nat):Int) then (if 0<=10/\10<(((((List.replicate 11 (⟨0,0⟩:RVal)).set 1 (⟨2,0⟩:RVal)).set 2 (⟨1,IntKind.u64.wrap (a.length:Int)⟩:RVal)).length:Nat):Int) then (some ((),(((((List.replicate 11 (⟨0,0⟩:RVal)).set 1 (⟨2,0⟩:RVal)).set 2 (⟨1,IntKind.u64.wrap (a.length:Int)⟩:RVal)).set 10 (⟨3,0⟩:RVal),List.replicate 512 0,List.replicate 512 false,a,()),()))) else none) else none) else none) else none) else none) else none:=by kernel_rfl
def uu5:=okG ua2 func9
def wp4:KF:=⟨eN,0,[],[],f81,z0,[.a9],[.a8]⟩
def qfm (n:Nat) (a:Span):Option (Bool):=tF wp4 n a
def uj6 (n a):qfm n a=some (decide (a.Lo<=a.Hi)):=by kernel_rfl
def zab5:=okF wp4 func81
def km7:KF:=⟨cF zab5 eN,0,[],[([O,I,O,I],qt [1,4,5]),([I,I,O,I,O,I],qt [1,4,12])],f48,z0,[.d3],[.a8]⟩
def qba (n:Nat) (a:Known):Option (Bool):=tF km7 n a
def vp4 (n:Nat) (d:Int) (e:Bool) (a b c:Int):Option (Bool):=uF km7 n [O,I,O,I] ⟨[(1,.ptr 0 0),(4,cu8 d),(5,cb e)],[.k2 a b c]⟩
def vm4 (n:Nat) (e:Int) (d:Bool) (a b c:Int):Option (Bool):=uF km7 n [I,I,O,I,O,I] ⟨[(1,.ptr 0 0),(4,cu8 e),(12,cb d)],[.k2 a b c]⟩
def un2 (n a):qba n a=j4 (a.Kind==0) (vp4 n a.Kind (a.Kind==0) a.Kind a.In_Lo a.In_Hi) (vp4 n a.Kind (a.Kind==4) a.Kind a.In_Lo a.In_Hi):=by kernel_rfl
def kf7 (n d e c a b):vp4 (n+1) d e c a b=j4 e (some ((a==0)&&(b==0))) (j4 (d==1) (vm4 n d (d==1) c a b) (vm4 n d (d==2) c a b)):=by kernel_rfl
def kh5 (n e c d a b):vm4 (n+1) e c d a b=j4 c (z8 (qfm v3 (⟨a,b⟩:Span)) fun f=>some f) (j4 (e==3) (some (a==b)) (some false)):=by kernel_rfl
def ut0:=okF km7 func48
def wa2:KF:=⟨cF ut0 eN,0,[],[([O,I,I,I,O,I,O,I,I],qt [8])],f21,z0,[.d3,.b7,.a2,.a1],[.a8]⟩
def qcb (n:Nat) (a:Known) (b c d:Int):Option (Bool):=tF wa2 n (a,b,c,d)
def qo6 (n:Nat) (a:Bool):Option (Bool):=uF wa2 n [O,I,I,I,O,I,O,I,I] ⟨[(8,cb a)],[]⟩
def zab8 (n a c b d):qcb n a c b d=z8 (qba v3 a) fun e=>j4 (!e) (some false) (j4 (a.Kind==0) (some true) (j4 (a.Kind==4) (j4 (c==1) (j4 (decide (d>=0)) (qo6 n (b==(IntKind.u64.wrap d))) (qo6 n false)) (qo6 n false)) (j4 (c==a.Kind) (j4 (decide (a.In_Lo<=b)) (some (decide (b<=a.In_Hi))) (some false)) (some false)))):=by kernel_rfl
def kj4 (n a):qo6 (n+1) a=some a:=by kernel_rfl
def uy5:=okF wa2 func21
def gm3:KG:=⟨cF uy5 eN,4,[],[([O,I],qt [1,2,31]),([O,I,O,I,I],qt [1,2,5]),([O,I,O,I,I,I],qt [1,2,6]),([O,O,I,O,O,I,O,I,I,I],qt [1,2,6,82])],f10,n0,[.val (.user 4),.a7],[.b3,.c8,.c9,.c7],[.a8]⟩
abbrev vg2:=Option (u3×(Bool×Unit))
def qo (n:Nat) (a:Place) (b:List RVal) (c:List Int) (d:List Bool) (e:List Int):vg2:=tG gm3 n (a,(b,c,d,e,()),())
def vi1 (n:Nat) (f:Bool) (a:List Int) (g:List RVal) (h:List Int) (i:List Bool) (b:Bool) (c:List Known) (d:List Bool) (e:Int):vg2:=uG gm3 n [O,I] ⟨[(1,.ptr 0 0),(2,.ptr 4 0),(31,cb f)],[.k5 a,.k9 g,.k10 h,.k8 i,.k12 b c d e]⟩
def km9 (n:Nat) (f:Int) (a:List Int) (g:List RVal) (h:List Int) (i:List Bool) (b:Bool) (c:List Known) (d:List Bool) (e:Int):vg2:=uG gm3 n [O,I,O,I,I] ⟨[(1,.ptr 0 0),(2,.ptr 4 0),(5,ci f)],[.k5 a,.k9 g,.k10 h,.k8 i,.k12 b c d e]⟩
def ko8 (n:Nat) (f:Int) (a:List Int) (g:List RVal) (h:List Int) (i:List Bool) (b:Bool) (c:List Known) (d:List Bool) (e:Int):vg2:=uG gm3 n [O,I,O,I,I,I] ⟨[(1,.ptr 0 0),(2,.ptr 4 0),(6,ci f)],[.k5 a,.k9 g,.k10 h,.k8 i,.k12 b c d e]⟩
def gw5 (n:Nat) (g:Int) (f:Bool) (a:List Int) (h:List RVal) (i:List Int) (j:List Bool) (b:Bool) (c:List Known) (d:List Bool) (e:Int):vg2:=uG gm3 n [O,O,I,O,O,I,O,I,I,I] ⟨[(1,.ptr 0 0),(2,.ptr 4 0),(6,ci g),(82,cb f)],[.k5 a,.k9 h,.k10 i,.k8 j,.k12 b c d e]⟩
def zag2 (n a c d e b):qo n a c d e b=j4 (!a.Live) (vi1 n true b c d e a.Live a.Regs a.Bytes a.Least) (j4 ((a.Regs.length:Int) != 11) (vi1 n true b c d e a.Live a.Regs a.Bytes a.Least) (j4 ((a.Bytes.length:Int) != 512) (vi1 n true b c d e a.Live a.Regs a.Bytes a.Least) (vi1 n (decide ((b.length:Int)<a.Least)) b c d e a.Live a.Regs a.Bytes a.Least))):=by kernel_rfl
def gb9 (n f a g h i b c d e):vi1 (n+1) f a g h i b c d e=j4 f (some ((((),(),(),a,()),g,h,i,()),(false,()))) (km9 n 0 a g h i b c d e):=by kernel_rfl
def qz4 (n c a g h i d b e f):km9 (n+1) c a g h i d b e f=j4 (decide (c<11)) (if 0<=c/\c<(b.length:Int) then (if 0<=c/\c<(g.length:Int) then (if 0<=c/\c<(g.length:Int) then (z8 (qcb v3 (b.getD c.toNat j7) ((g.getD c.toNat qa0).Kind) ((g.getD c.toNat qa0).N) (a.length:Int)) fun j=>j4 (!j) (some ((((),(),(),a,()),g,h,i,()),(false,()))) (km9 n (IntKind.i64.wrap (c+1)) a g h i d b e f)) else none) else none) else none) (ko8 n 0 a g h i d b e f):=by kernel_rfl
def vc0 (n f b h i g c d a e):ko8 (n+1) f b h i g c d a e=j4 (decide (f<512)) (if 0<=f/\f<(a.length:Int) then (j4 (a.getD f.toNat false) (if 0<=f/\f<(g.length:Int) then (gw5 n f (!(g.getD f.toNat false)) b h i g c d a e) else none) (gw5 n f false b h i g c d a e)) else none) (some ((((),(),(),b,()),h,i,g,()),(true,()))):=by kernel_rfl
def qw7 (n j f a g h i b c d e):gw5 (n+1) j f a g h i b c d e=j4 f (some ((((),(),(),a,()),g,h,i,()),(false,()))) (ko8 n (IntKind.i64.wrap (j+1)) a g h i b c d e):=by kernel_rfl
def zai6:=okG gm3 func10
def wq0:KF:=⟨eN,0,[],[],f82,z0,[.a1],[.a2]⟩
def qfn (n:Nat) (a:Int):Option (Int):=tF wq0 n a
def ue1 (n a):qfn n a=some (IntKind.u64.wrap a):=by kernel_rfl
def um8:=okF wq0 func82
def ws5:KG:=⟨eN,4,[],[],f23,n0,[.a7,.a1],[.b3,.c8,.c9,.c7],[.val (.user 5),.a1]⟩
def qco (n:Nat) (a:List RVal) (b:List Int) (c:List Bool) (d:List Int) (e:Int):Option (u3×(RVal×Int×Unit)):=tG ws5 n ((a,b,c,d,()),e,())
def ug2 (n a c d e b):qco n a c d e b=if 0<=b/\b<(a.length:Int) then (j4 (((a.getD b.toNat qa0).Kind)==0) (some ((((),(),(),e,()),a,c,d,()),((⟨0,0⟩:RVal),110,()))) (if 0<=b/\b<(a.length:Int) then (some ((((),(),(),e,()),a,c,d,()),(a.getD b.toNat qa0,0,()))) else none)) else none:=by kernel_rfl
def qp7:=okG ws5 func23
def wq5:KG:=⟨cF um8 (cG qp7 eN),4,[],[],f49,n0,[.a7,.c3],[.b3,.c8,.c9,.c7],[.val (.user 5),.a1]⟩
def qdo (n:Nat) (a:List RVal) (b:List Int) (c:List Bool) (d:List Int) (e:Ins):Option (u3×(RVal×Int×Unit)):=tG wq5 n ((a,b,c,d,()),e,())
def uf0 (n c d e f b):qdo n c d e f b=j4 b.UseImm (z8 (qfn v3 b.Imm) fun g=>some ((((),(),(),f,()),c,d,e,()),((⟨1,g⟩:RVal),0,()))) (z8 (qco v3 c d e f b.Src) fun a=>some ((((),(),(),a.1.1.2.2.2.1,()),a.1.2.1,a.1.2.2.1,a.1.2.2.2.1,()),(a.2.1,a.2.2.1,()))):=by kernel_rfl
def gp2:=okG wq5 func49
def kq7:KG:=⟨cG gp2 eN,4,[(8,1)],[([O,I,I,I],qt [0,3,5,22]),([I,I,I,I],qt [0,3,5])],f22,n0,[.a7,.c3],[.b3,.c8,.c9,.c7],[.a1]⟩
abbrev vq0:=Option (u3×u1)
def qap (n:Nat) (a:List RVal) (b:List Int) (c:List Bool) (d:List Int) (e:Ins):vq0:=tG kq7 n ((a,b,c,d,()),e,())
def vq3 (n:Nat) (l:Bool) (a:List Int) (m:List RVal) (o:List Int) (p:List Bool) (b:Int) (c:Bool) (d e:Int) (f:Bool) (g h i j k:Int):vq0:=uG kq7 n [O,I,I,I] ⟨[(0,.ptr 0 0),(3,.ptr 4 0),(5,.ptr 5 0),(22,cb l)],[.k5 a,.k9 m,.k10 o,.k8 p,.k1 b c d e f g h i,.k7 j k]⟩
def vp7 (n:Nat) (a:List Int) (l:List RVal) (m:List Int) (o:List Bool) (b:Int) (c:Bool) (d e:Int) (f:Bool) (g h i j k:Int):vq0:=uG kq7 n [I,I,I,I] ⟨[(0,.ptr 0 0),(3,.ptr 4 0),(5,.ptr 5 0)],[.k5 a,.k9 l,.k10 m,.k8 o,.k1 b c d e f g h i,.k7 j k]⟩
def un1 (n c d e f a):qap n c d e f a=z8 (qdo v3 c d e f a) fun b=>j4 (b.2.2.1 != 0) (some ((((),(),(),b.1.1.2.2.2.1,()),b.1.2.1,b.1.2.2.1,b.1.2.2.2.1,()),(b.2.2.1,()))) (j4 a.Narrow (vq3 n (b.2.1.Kind != 1) b.1.1.2.2.2.1 b.1.2.1 b.1.2.2.1 b.1.2.2.2.1 a.Op a.Narrow a.Dst a.Src a.UseImm a.Off a.Imm a.Size b.2.1.Kind b.2.1.N) (vq3 n false b.1.1.2.2.2.1 b.1.2.1 b.1.2.2.1 b.1.2.2.2.1 a.Op a.Narrow a.Dst a.Src a.UseImm a.Off a.Imm a.Size b.2.1.Kind b.2.1.N)):=by kernel_rfl
def qf7 (n l a m o p c b d e f g h i j k):vq3 (n+1) l a m o p c b d e f g h i j k=j4 l (some ((((),(),(),a,()),m,o,p,()),(114,()))) (j4 b (vp7 n a m o p c b d e f g h i j (g9 .u64 k 4294967295)) (vp7 n a m o p c b d e f g h i j k)):=by kernel_rfl
def qd1 (n b l m o e f a g h i j k c d):vp7 (n+1) b l m o e f a g h i j k c d=if 0<=a/\a<(l.length:Int) then (some ((((),(),(),b,()),l.set a.toNat (⟨c,d⟩:RVal),m,o,()),(0,()))) else none:=by kernel_rfl
def ux2:=okG kq7 func22
def ww7:KG:=⟨cG qp7 (cG gp2 eN),4,[(3,1),(5,1)],[],f53,n0,[.a7,.c3],[.b3,.c8,.c9,.c7],[.val (.user 5),.val (.user 5),.a1]⟩
def qct (n:Nat) (a:List RVal) (b:List Int) (c:List Bool) (d:List Int) (e:Ins):Option (u3×(RVal×RVal×Int×Unit)):=tG ww7 n ((a,b,c,d,()),e,())
def gt2 (n d e f g c):qct n d e f g c=z8 (qco v3 d e f g c.Dst) fun a=>j4 (a.2.2.1 != 0) (some ((((),(),(),a.1.1.2.2.2.1,()),a.1.2.1,a.1.2.2.1,a.1.2.2.2.1,()),(a.2.1,a.2.1,a.2.2.1,()))) (z8 (qdo v3 a.1.2.1 a.1.2.2.1 a.1.2.2.2.1 a.1.1.2.2.2.1 c) fun b=>some ((((),(),(),b.1.1.2.2.2.1,()),b.1.2.1,b.1.2.2.1,b.1.2.2.2.1,()),(a.2.1,b.2.1,b.2.2.1,()))):=by kernel_rfl
def vo3:=okG ww7 func53
def wz6:KF:=⟨eN,0,[],[],f52,z0,[.a2,.a1],[.a8]⟩
def qcx (n:Nat) (a b:Int):Option (Bool):=tF wz6 n (a,b)
def uw1 (n b a):qcx n b a=if IntKind.u64.wrap a<0 then none else (some ((g9 .u64 (za6 .u64 b (IntKind.u64.wrap a)) 1)==1)):=by kernel_rfl
def vm5:=okF wz6 func52
def kt1:KF:=⟨cF vm5 eN,0,[],[([O,I,O,I,I],qt [0,1,2,7,8]),([I,O,O,I,O,I,I],qt [0,1,2,7,8]),([I,O,O,I,O,O,I,O,I,I],qt [0,1,2,7,8,9,10,11]),([I,I,O,O,I,O,O,I,O,I,I],qt [0,1,2,7,8,9,10,11]),([I,I,I,O,O,I,O,O,I,O,I,I],qt [0,1,2,7,8,11])],f50,z0,[.b7,.a2,.a2],[.a2]⟩
def qm (n:Nat) (a b c:Int):Option (Int):=tF kt1 n (a,b,c)
def vg1 (n:Nat) (a b c d e:Int):Option (Int):=uF kt1 n [O,I,O,I,I] ⟨[(0,cu8 a),(1,zd7 b),(2,zd7 c),(7,zd7 d),(8,ci e)],[]⟩
def kq9 (n:Nat) (c d e f g:Int) (h a b:Bool):Option (Int):=uF kt1 n [I,O,O,I,O,O,I,O,I,I] ⟨[(0,cu8 c),(1,zd7 d),(2,zd7 e),(7,zd7 f),(8,ci g),(9,cb h),(10,cb a),(11,cb b)],[]⟩
def vg0 (n:Nat) (c d e f g:Int) (h a b:Bool):Option (Int):=uF kt1 n [I,I,O,O,I,O,O,I,O,I,I] ⟨[(0,cu8 c),(1,zd7 d),(2,zd7 e),(7,zd7 f),(8,ci g),(9,cb h),(10,cb a),(11,cb b)],[]⟩
def kn2 (n:Nat) (b c d e f:Int) (a:Bool):Option (Int):=uF kt1 n [I,I,I,O,O,I,O,O,I,O,I,I] ⟨[(0,cu8 b),(1,zd7 c),(2,zd7 d),(7,zd7 e),(8,ci f),(11,cb a)],[]⟩
def kq1 (n:Nat) (a b c d e:Int):Option (Int):=uF kt1 n [I,O,O,I,O,I,I] ⟨[(0,cu8 a),(1,zd7 b),(2,zd7 c),(7,zd7 d),(8,ci e)],[]⟩
def zaf2 (n a b c):qm n a b c=vg1 n a b c 0 0:=by kernel_rfl
def qw8 (n e b c d a):vg1 (n+1) e b c d a=j4 (decide (a<64)) (z8 (qcx v3 b a) fun f=>z8 (qcx v3 c a) fun g=>j4 f (kq9 n e b c d a f g g) (kq9 n e b c d a f g false)) (some d):=by kernel_rfl
def kt6 (n b e f g h c a d):kq9 (n+1) b e f g h c a d=j4 (b==7) (j4 c (vg0 n b e f g h c a true) (vg0 n b e f g h c a a)) (vg0 n b e f g h c a d):=by kernel_rfl
def ku1 (n c d e f g h a b):vg0 (n+1) c d e f g h a b=j4 (c==8) (kn2 n c d e f g (!(h==a))) (kn2 n c d e f g b):=by kernel_rfl
def gd7 (n c d e f a b):kn2 (n+1) c d e f a b=j4 b (if IntKind.u64.wrap a<0 then none else (kq1 n c d e (bOr .u64 f (zr4 .u64 1 (IntKind.u64.wrap a))) a)) (kq1 n c d e f a):=by kernel_rfl
def gf0 (n a b c d e):kq1 (n+1) a b c d e=vg1 n a b c d (IntKind.i64.wrap (e+1)):=by kernel_rfl
def ws1:=okF kt1 func50
def gi3:KF:=⟨cF vm5 eN,0,[],[([O,I,O,I,I],qt [0,1,2,3,9,10]),([I,O,O,I,O,I,I],qt [0,1,2,3,9,10]),([I,I,O,O,I,O,O,I,O,I,I],qt [0,1,2,3,9,10,12]),([O,I,I,O,O,I,O,O,I,O,I,I],qt [0,1,2,3,9,10,11,12,28])],f51,z0,[.a2,.a1,.a1,.a8],[.a2]⟩
def qs (n:Nat) (a b c:Int) (d:Bool):Option (Int):=tF gi3 n (a,b,c,d)
def vk1 (n:Nat) (b c d:Int) (e:Bool) (f a:Int):Option (Int):=uF gi3 n [O,I,O,I,I] ⟨[(0,zd7 b),(1,ci c),(2,ci d),(3,cb e),(9,zd7 f),(10,ci a)],[]⟩
def wb0 (n:Nat) (e f g:Int) (h:Bool) (i a b:Int) (c d:Bool):Option (Int):=uF gi3 n [O,I,I,O,O,I,O,O,I,O,I,I] ⟨[(0,zd7 e),(1,ci f),(2,ci g),(3,cb h),(9,zd7 i),(10,ci a),(11,ci b),(12,cb c),(28,cb d)],[]⟩
def kq4 (n:Nat) (c d e:Int) (f:Bool) (g a:Int) (b:Bool):Option (Int):=uF gi3 n [I,I,O,O,I,O,O,I,O,I,I] ⟨[(0,zd7 c),(1,ci d),(2,ci e),(3,cb f),(9,zd7 g),(10,ci a),(12,cb b)],[]⟩
def kp3 (n:Nat) (b c d:Int) (e:Bool) (f a:Int):Option (Int):=uF gi3 n [I,O,O,I,O,I,I] ⟨[(0,zd7 b),(1,ci c),(2,ci d),(3,cb e),(9,zd7 f),(10,ci a)],[]⟩
def zam0 (n a b c d):qs n a b c d=vk1 n a b c d 0 0:=by kernel_rfl
def vc2 (n f b c d e a):vk1 (n+1) f b c d e a=j4 (decide (a<c)) (j4 (decide ((IntKind.i64.wrap (a-b))>=0)) (wb0 n f b c d e a (IntKind.i64.wrap (a-b)) d (decide ((IntKind.i64.wrap (a-b))<c))) (wb0 n f b c d e a (IntKind.i64.wrap (a-b)) d false)) (some e):=by kernel_rfl
def qu8 (n e f g h i a b c d):wb0 (n+1) e f g h i a b c d=j4 d (z8 (qcx v3 e b) fun j=>kq4 n e f g h i a j) (kq4 n e f g h i a c):=by kernel_rfl
def ga1 (n c d e f g a b):kq4 (n+1) c d e f g a b=j4 b (if IntKind.u64.wrap a<0 then none else (kp3 n c d e f (bOr .u64 g (zr4 .u64 1 (IntKind.u64.wrap a))) a)) (kp3 n c d e f g a):=by kernel_rfl
def gd3 (n b c d e f a):kp3 (n+1) b c d e f a=vk1 n b c d e f (IntKind.i64.wrap (a+1)):=by kernel_rfl
def zaf0:=okF gi3 func51
def gs1:KF:=⟨cF ws1 (cF zaf0 (cF vm5 eN)),0,[],[([I,I],qt [0,1,2,3,10]),([I,I,I,I],qt [1,11]),([I,I,I,I,I,I,O,I,O,I,I,I,I],qt [0,1,2,3,10,17,33]),([I,I,I,I,I,I,I,I,O,I,O,I,I,I,I],qt [0,1,2,3,10,17,48])],f24,z0,[.b7,.a8,.a2,.a2],[.a2,.a1]⟩
def qe (n:Nat) (a:Int) (b:Bool) (c d:Int):Option u15:=tF gs1 n (a,b,c,d)
def ko1 (n:Nat) (b:Int) (c:Bool) (d e a:Int):Option u15:=uF gs1 n [I,I] ⟨[(0,cu8 b),(1,cb c),(2,zd7 d),(3,zd7 e),(10,ci a)],[]⟩
def yk9 (n:Nat) (b:Bool) (a:Int):Option u15:=uF gs1 n [I,I,I,I] ⟨[(1,cb b),(11,zd7 a)],[]⟩
def gz9 (n:Nat) (d:Int) (e:Bool) (f g a b:Int) (c:Bool):Option u15:=uF gs1 n [I,I,I,I,I,I,O,I,O,I,I,I,I] ⟨[(0,cu8 d),(1,cb e),(2,zd7 f),(3,zd7 g),(10,ci a),(17,cu8 b),(33,cb c)],[]⟩
def kp6 (n:Nat) (d:Int) (e:Bool) (f g a b:Int) (c:Bool):Option u15:=uF gs1 n [I,I,I,I,I,I,I,I,O,I,O,I,I,I,I] ⟨[(0,cu8 d),(1,cb e),(2,zd7 f),(3,zd7 g),(10,ci a),(17,cu8 b),(48,cb c)],[]⟩
def zal1 (n b a c d):qe n b a c d=j4 a (ko1 n b a (g9 .u64 c 4294967295) (g9 .u64 d 4294967295) 32) (ko1 n b a c d 64):=by kernel_rfl
def zh9 (n a c d e b):ko1 (n+1) a c d e b=j4 (a==1) (yk9 n c (IntKind.u64.wrap (d+e))) (j4 (a==2) (yk9 n c (IntKind.u64.wrap (d-e))) (j4 (a==3) (yk9 n c (IntKind.u64.wrap (d*e))) (j4 (a==4) (gz9 n a c d e b a (a==4)) (gz9 n a c d e b a (a==5))))):=by kernel_rfl
def gc3 (n b a):yk9 (n+1) b a=j4 b (some (g9 .u64 a 4294967295,0)) (some (a,0)):=by kernel_rfl
def zl7 (n f e d b c a g):gz9 (n+1) f e d b c a g=j4 g (j4 (b==0) (some (0,113)) (if b=0 then none else (j4 (f==5) (yk9 n e (IntKind.u64.wrap (d-(IntKind.u64.wrap ((IntKind.u64.wrap (d.tdiv b))*b))))) (yk9 n e (IntKind.u64.wrap (d.tdiv b)))))) (j4 (a==6) (kp6 n f e d b c a (a==6)) (j4 (a==7) (kp6 n f e d b c a (a==7)) (kp6 n f e d b c a (a==8)))):=by kernel_rfl
def zq2 (n g c d e a b f):kp6 (n+1) g c d e a b f=j4 f (z8 (qm v3 g d e) fun h=>yk9 n c h) (j4 (b==9) (if IntKind.u64.wrap a=0 then none else (z8 (qs v3 d (IntKind.i64.wrap (e.tmod (IntKind.u64.wrap a))) a false) fun i=>yk9 n c i)) (j4 (b==10) (if IntKind.u64.wrap a=0 then none else (z8 (qs v3 d (IntKind.i64.wrap (0-IntKind.i64.wrap (e.tmod (IntKind.u64.wrap a)))) a false) fun j=>yk9 n c j)) (j4 (b==11) (if IntKind.u64.wrap a=0 then none else (z8 (qcx v3 d (IntKind.i64.wrap (a-1))) fun k=>z8 (qs v3 d (IntKind.i64.wrap (0-IntKind.i64.wrap (e.tmod (IntKind.u64.wrap a)))) a k) fun l=>yk9 n c l)) (j4 (b==12) (yk9 n c e) (j4 (b==13) (yk9 n c (IntKind.u64.wrap (0-d))) (some (0,2))))))):=by kernel_rfl
def wz7:=okF gs1 func24
def gh2:KG:=⟨cG vo3 (cF wz7 eN),4,[(7,1),(14,1)],[([O,I,I,I],qt [0,3,5,6,28]),([I,O,I,O,I,I,I],qt [9]),([O,I,I,I,I],qt [0,3,5,6,74]),([I,I,I,I,I,I],qt [0,3,5,10])],f25,n0,[.a7,.c3],[.b3,.c8,.c9,.c7],[.a1]⟩
abbrev vf3:=Option (u3×u1)
def qn (n:Nat) (a:List RVal) (b:List Int) (c:List Bool) (d:List Int) (e:Ins):vf3:=tG gh2 n ((a,b,c,d,()),e,())
def wc8 (n:Nat) (o:Bool) (a:List Int) (p:List RVal) (q:List Int) (r:List Bool) (b:Int) (c:Bool) (d e:Int) (f:Bool) (g h i j k l m:Int):vf3:=uG gh2 n [O,I,I,I] ⟨[(0,.ptr 0 0),(3,.ptr 4 0),(5,.ptr 5 0),(6,.ptr 6 0),(28,cb o)],[.k5 a,.k9 p,.k10 q,.k8 r,.k1 b c d e f g h i,.k7 j k,.k7 l m]⟩
def wa8 (n:Nat) (b:Int) (a:List Int) (c:List RVal) (d:List Int) (e:List Bool):vf3:=uG gh2 n [I,O,I,O,I,I,I] ⟨[(9,ci b)],[.k5 a,.k9 c,.k10 d,.k8 e]⟩
def jz7 (n:Nat) (o:Bool) (a:List Int) (p:List RVal) (q:List Int) (r:List Bool) (b:Int) (c:Bool) (d e:Int) (f:Bool) (g h i j k l m:Int):vf3:=uG gh2 n [O,I,I,I,I] ⟨[(0,.ptr 0 0),(3,.ptr 4 0),(5,.ptr 5 0),(6,.ptr 6 0),(74,cb o)],[.k5 a,.k9 p,.k10 q,.k8 r,.k1 b c d e f g h i,.k7 j k,.k7 l m]⟩
def wb3 (n:Nat) (l:Int) (a:List Int) (m:List RVal) (o:List Int) (p:List Bool) (b:Int) (c:Bool) (d e:Int) (f:Bool) (g h i j k:Int):vf3:=uG gh2 n [I,I,I,I,I,I] ⟨[(0,.ptr 0 0),(3,.ptr 4 0),(5,.ptr 5 0),(10,zd7 l)],[.k5 a,.k9 m,.k10 o,.k8 p,.k1 b c d e f g h i,.k7 j k]⟩
def zah3 (n c d e f b):qn n c d e f b=z8 (qct v3 c d e f b) fun a=>j4 (a.2.2.2.1 != 0) (some ((((),(),(),a.1.1.2.2.2.1,()),a.1.2.1,a.1.2.2.1,a.1.2.2.2.1,()),(a.2.2.2.1,()))) (j4 (a.2.1.Kind==1) (wc8 n (a.2.2.1.Kind==1) a.1.1.2.2.2.1 a.1.2.1 a.1.2.2.1 a.1.2.2.2.1 b.Op b.Narrow b.Dst b.Src b.UseImm b.Off b.Imm b.Size a.2.1.Kind a.2.1.N a.2.2.1.Kind a.2.2.1.N) (wc8 n false a.1.1.2.2.2.1 a.1.2.1 a.1.2.2.1 a.1.2.2.2.1 b.Op b.Narrow b.Dst b.Src b.UseImm b.Off b.Imm b.Size a.2.1.Kind a.2.1.N a.2.2.1.Kind a.2.2.1.N)):=by kernel_rfl
def qt7 (n r c o p q a d b i j k l m e f g h):wc8 (n+1) r c o p q a d b i j k l m e f g h=j4 r (z8 (qe v3 a d f h) fun s=>j4 (s.2==0) (if 0<=b/\b<(o.length:Int) then (wa8 n s.2 c (o.set b.toNat (⟨1,s.1⟩:RVal)) p q) else none) (wa8 n s.2 c o p q)) (j4 (e==1) (jz7 n true c o p q a d b i j k l m e f g h) (j4 (g != 1) (jz7 n true c o p q a d b i j k l m e f g h) (j4 d (jz7 n true c o p q a d b i j k l m e f g h) (j4 (a != 1) (jz7 n (a != 2) c o p q a d b i j k l m e f g h) (jz7 n false c o p q a d b i j k l m e f g h))))):=by kernel_rfl
def va8 (n b a c d e):wa8 (n+1) b a c d e=some ((((),(),(),a,()),c,d,e,()),(b,())):=by kernel_rfl
def jw2 (n m b p q r c d e f g h i j k a o l):jz7 (n+1) m b p q r c d e f g h i j k a o l=j4 m (some ((((),(),(),b,()),p,q,r,()),(114,()))) (j4 (c==2) (wb3 n (IntKind.u64.wrap (a-l)) b p q r c d e f g h i j k a) (wb3 n (IntKind.u64.wrap (a+l)) b p q r c d e f g h i j k a)):=by kernel_rfl
def qv7 (n d b m o p e f a g h i j k c l):wb3 (n+1) d b m o p e f a g h i j k c l=if 0<=a/\a<(m.length:Int) then (some ((((),(),(),b,()),m.set a.toNat (⟨c,d⟩:RVal),o,p,()),(0,()))) else none:=by kernel_rfl
def zaj9:=okG gh2 func25
def wd5:KF:=⟨eN,0,[],[([O,I,I],qt [3,12,29])],f54,z0,[.a2,.a1,.a1,.a1,.a1],[.a1,.a1]⟩
def qbt (n:Nat) (a b c d e:Int):Option u15:=tF wd5 n (a,b,c,d,e)
def vl4 (n:Nat) (c a:Int) (b:Bool):Option u15:=uF wd5 n [O,I,I] ⟨[(3,ci c),(12,ci a),(29,cb b)],[]⟩
def ur4 (n a b d c e):qbt n a b d c e=j4 (decide ((IntKind.i64.wrap (IntKind.u64.wrap (a+(IntKind.u64.wrap b))))<c)) (vl4 n c (IntKind.i64.wrap (IntKind.u64.wrap (a+(IntKind.u64.wrap b)))) true) (vl4 n c (IntKind.i64.wrap (IntKind.u64.wrap (a+(IntKind.u64.wrap b)))) (decide ((IntKind.i64.wrap (IntKind.u64.wrap (a+(IntKind.u64.wrap b))))>(IntKind.i64.wrap ((IntKind.i64.wrap (c+e))-d))))):=by kernel_rfl
def qc0 (n c a b):vl4 (n+1) c a b=j4 b (some (0,112)) (some (IntKind.i64.wrap (a-c),0)):=by kernel_rfl
def gl8:=okF wd5 func54
def vs2:KG:=⟨cG qp7 (cF gl8 eN),4,[(21,1)],[([I,I,I,I,I,I],qt [0,3,5,7,8]),([O,I,O,I,I,I,I,I,I,I,I,I,I],qt [0,3,5,7,9,11,12]),([O,O,O,I,O,O,I,O,I,I,I,I,I,I,I,I,I,I],qt [0,3,5,7,9,11,12,74])],f26,n0,[.a7,.c3],[.b3,.c8,.c9,.c7],[.a1]⟩
abbrev qa7:=Option (u3×u1)
def qj (n:Nat) (a:List RVal) (b:List Int) (c:List Bool) (d:List Int) (e:Ins):qa7:=tG vs2 n ((a,b,c,d,()),e,())
def wy6 (n:Nat) (l:Int) (a:List Int) (m:List RVal) (o:List Int) (p:List Bool) (b:Int) (c:Bool) (d e:Int) (f:Bool) (g h i j k:Int):qa7:=uG vs2 n [I,I,I,I,I,I] ⟨[(0,.ptr 0 0),(3,.ptr 4 0),(5,.ptr 5 0),(7,.own 2),(8,ci l)],[.k5 a,.k9 m,.k10 o,.k8 p,.k1 b c d e f g h i,.k7 j k]⟩
def go9 (n:Nat) (l:List Int) (m:Int) (a:List Int) (o:List RVal) (p:List Int) (q:List Bool) (b:Int) (c:Bool) (d e:Int) (f:Bool) (g h i j k:Int):qa7:=uG vs2 n [I,I,I,I,I,I] ⟨[(0,.ptr 0 0),(3,.ptr 4 0),(5,.ptr 5 0),(7,.cell ⟨.list (.int .u8),l⟩),(8,ci m)],[.k5 a,.k9 o,.k10 p,.k8 q,.k1 b c d e f g h i,.k7 j k]⟩
def kp5 (n:Nat) (o l m:Int) (a:List Int) (p:List RVal) (q:List Int) (r:List Bool) (b:Int) (c:Bool) (d e:Int) (f:Bool) (g h i j k:Int):qa7:=uG vs2 n [O,I,O,I,I,I,I,I,I,I,I,I,I] ⟨[(0,.ptr 0 0),(3,.ptr 4 0),(5,.ptr 5 0),(7,.own 2),(9,ci o),(11,zd7 l),(12,ci m)],[.k5 a,.k9 p,.k10 q,.k8 r,.k1 b c d e f g h i,.k7 j k]⟩
def qq2 (n:Nat) (o:List Int) (p l m:Int) (a:List Int) (q:List RVal) (r:List Int) (s:List Bool) (b:Int) (c:Bool) (d e:Int) (f:Bool) (g h i j k:Int):qa7:=uG vs2 n [O,I,O,I,I,I,I,I,I,I,I,I,I] ⟨[(0,.ptr 0 0),(3,.ptr 4 0),(5,.ptr 5 0),(7,.cell ⟨.list (.int .u8),o⟩),(9,ci p),(11,zd7 l),(12,ci m)],[.k5 a,.k9 q,.k10 r,.k8 s,.k1 b c d e f g h i,.k7 j k]⟩
def gz0 (n:Nat) (p l m:Int) (o:Bool) (a:List Int) (q:List RVal) (r:List Int) (s:List Bool) (b:Int) (c:Bool) (d e:Int) (f:Bool) (g h i j k:Int):qa7:=uG vs2 n [O,O,O,I,O,O,I,O,I,I,I,I,I,I,I,I,I,I] ⟨[(0,.ptr 0 0),(3,.ptr 4 0),(5,.ptr 5 0),(7,.own 2),(9,ci p),(11,zd7 l),(12,ci m),(74,cb o)],[.k5 a,.k9 q,.k10 r,.k8 s,.k1 b c d e f g h i,.k7 j k]⟩
def vn0 (n:Nat) (p:List Int) (q l m:Int) (o:Bool) (a:List Int) (r:List RVal) (s:List Int) (t:List Bool) (b:Int) (c:Bool) (d e:Int) (f:Bool) (g h i j k:Int):qa7:=uG vs2 n [O,O,O,I,O,O,I,O,I,I,I,I,I,I,I,I,I,I] ⟨[(0,.ptr 0 0),(3,.ptr 4 0),(5,.ptr 5 0),(7,.cell ⟨.list (.int .u8),p⟩),(9,ci q),(11,zd7 l),(12,ci m),(74,cb o)],[.k5 a,.k9 r,.k10 s,.k8 t,.k1 b c d e f g h i,.k7 j k]⟩
def zai8 (n c d e f b):qj n c d e f b=z8 (qco v3 c d e f b.Src) fun a=>j4 (a.2.2.1 != 0) (some ((((),(),(),a.1.1.2.2.2.1,()),a.1.2.1,a.1.2.2.1,a.1.2.2.2.1,()),(a.2.2.1,()))) (j4 (a.2.1.Kind==1) (some ((((),(),(),a.1.1.2.2.2.1,()),a.1.2.1,a.1.2.2.1,a.1.2.2.2.1,()),(111,()))) (j4 (a.2.1.Kind==3) (wy6 n (-512:Int) a.1.1.2.2.2.1 a.1.2.1 a.1.2.2.1 a.1.2.2.2.1 b.Op b.Narrow b.Dst b.Src b.UseImm b.Off b.Imm b.Size a.2.1.Kind a.2.1.N) (go9 n a.1.1.2.2.2.1 0 a.1.1.2.2.2.1 a.1.2.1 a.1.2.2.1 a.1.2.2.2.1 b.Op b.Narrow b.Dst b.Src b.UseImm b.Off b.Imm b.Size a.2.1.Kind a.2.1.N))):=by kernel_rfl
def kz0 (n q a o l p e f g h i b j c k d):wy6 (n+1) q a o l p e f g h i b j c k d=z8 (qbt v3 d b c q (l.length:Int)) fun m=>j4 (m.2 != 0) (some ((((),(),(),a,()),o,l,p,()),(m.2,()))) (kp5 n m.1 0 m.1 a o l p e f g h i b j c k d):=by kernel_rfl
def kd2 (n m r a o p q e f g h i b j c k d):go9 (n+1) m r a o p q e f g h i b j c k d=z8 (qbt v3 d b c r (m.length:Int)) fun l=>j4 (l.2 != 0) (some ((((),(),(),a,()),o,p,q,()),(l.2,()))) (qq2 n m l.1 0 l.1 a o p q e f g h i b j c k d):=by kernel_rfl
def vb1 (n q m b c p r o f g a h i j k d e l):kp5 (n+1) q m b c p r o f g a h i j k d e l=j4 (decide (b<(IntKind.i64.wrap (q+d)))) (j4 (e==3) (if 0<=b/\b<(o.length:Int) then (gz0 n q m b (!(o.getD b.toNat false)) c p r o f g a h i j k d e l) else none) (gz0 n q m b false c p r o f g a h i j k d e l)) (if 0<=a/\a<(p.length:Int) then (some ((((),(),(),c,()),p.set a.toNat (⟨1,m⟩:RVal),r,o,()),(0,()))) else none):=by kernel_rfl
def qg6 (n s q m b c p r o f g a h i j k d e l):qq2 (n+1) s q m b c p r o f g a h i j k d e l=j4 (decide (b<(IntKind.i64.wrap (q+d)))) (j4 (e==3) (if 0<=b/\b<(o.length:Int) then (vn0 n s q m b (!(o.getD b.toNat false)) c p r o f g a h i j k d e l) else none) (vn0 n s q m b false c p r o f g a h i j k d e l)) (if 0<=a/\a<(p.length:Int) then (some ((((),(),(),c,()),p.set a.toNat (⟨1,m⟩:RVal),r,o,()),(0,()))) else none):=by kernel_rfl
def gf6 (n s m a o b q p r c d e f g h i j k l):gz0 (n+1) s m a o b q p r c d e f g h i j k l=j4 o (some ((((),(),(),b,()),q,p,r,()),(110,()))) (if 0<=a/\a<(p.length:Int) then (kp5 n s (bOr .u64 (zr4 .u64 m 8) (IntKind.u64.wrap (p.getD a.toNat 0))) (IntKind.i64.wrap (a+1)) b q p r c d e f g h i j k l) else none):=by kernel_rfl
def kb4 (n p t m a o b q r s c d e f g h i j k l):vn0 (n+1) p t m a o b q r s c d e f g h i j k l=j4 o (some ((((),(),(),b,()),q,r,s,()),(110,()))) (if 0<=a/\a<(p.length:Int) then (qq2 n p t (bOr .u64 (zr4 .u64 m 8) (IntKind.u64.wrap (p.getD a.toNat 0))) (IntKind.i64.wrap (a+1)) b q r s c d e f g h i j k l) else none):=by kernel_rfl
def zah4:=okG vs2 func26
def kr1:KG:=⟨cG vo3 (cF gl8 eN),4,[(14,1)],[([I,I,I,I,O,O,I,I],qt [0,3,5,6,26]),([O,I,O,I,I,I,I,I],qt [0,3,6,8,10])],f27,n0,[.a7,.c3],[.b3,.c8,.c9,.c7],[.a1]⟩
abbrev vq1:=Option (u3×u1)
def qal (n:Nat) (a:List RVal) (b:List Int) (c:List Bool) (d:List Int) (e:Ins):vq1:=tG kr1 n ((a,b,c,d,()),e,())
def jw8 (n:Nat) (o:Bool) (a:List Int) (p:List RVal) (q:List Int) (r:List Bool) (b:Int) (c:Bool) (d e:Int) (f:Bool) (g h i j k l m:Int):vq1:=uG kr1 n [I,I,I,I,O,O,I,I] ⟨[(0,.ptr 0 0),(3,.ptr 4 0),(5,.ptr 5 0),(6,.ptr 6 0),(26,cb o)],[.k5 a,.k9 p,.k10 q,.k8 r,.k1 b c d e f g h i,.k7 j k,.k7 l m]⟩
def qn7 (n:Nat) (m l:Int) (a:List Int) (o:List RVal) (p:List Int) (q:List Bool) (b:Int) (c:Bool) (d e:Int) (f:Bool) (g h i j k:Int):vq1:=uG kr1 n [O,I,O,I,I,I,I,I] ⟨[(0,.ptr 0 0),(3,.ptr 4 0),(6,.ptr 5 0),(8,ci m),(10,ci l)],[.k5 a,.k9 o,.k10 p,.k8 q,.k1 b c d e f g h i,.k7 j k]⟩
def ux9 (n c d e f b):qal n c d e f b=z8 (qct v3 c d e f b) fun a=>j4 (a.2.2.2.1 != 0) (some ((((),(),(),a.1.1.2.2.2.1,()),a.1.2.1,a.1.2.2.1,a.1.2.2.2.1,()),(a.2.2.2.1,()))) (j4 (a.2.1.Kind==2) (some ((((),(),(),a.1.1.2.2.2.1,()),a.1.2.1,a.1.2.2.1,a.1.2.2.2.1,()),(114,()))) (j4 (a.2.1.Kind==1) (jw8 n true a.1.1.2.2.2.1 a.1.2.1 a.1.2.2.1 a.1.2.2.2.1 b.Op b.Narrow b.Dst b.Src b.UseImm b.Off b.Imm b.Size a.2.1.Kind a.2.1.N a.2.2.1.Kind a.2.2.1.N) (jw8 n (a.2.2.1.Kind != 1) a.1.1.2.2.2.1 a.1.2.1 a.1.2.2.1 a.1.2.2.2.1 b.Op b.Narrow b.Dst b.Src b.UseImm b.Off b.Imm b.Size a.2.1.Kind a.2.1.N a.2.2.1.Kind a.2.2.1.N))):=by kernel_rfl
def kh9 (n m a p q r d e f g h b i c o j k l):jw8 (n+1) m a p q r d e f g h b i c o j k l=j4 m (some ((((),(),(),a,()),p,q,r,()),(111,()))) (z8 (qbt v3 j b c (-512:Int) 512) fun s=>j4 (s.2 != 0) (some ((((),(),(),a,()),p,q,r,()),(s.2,()))) (qn7 n s.1 0 a p q r d e f g h b i c k l)):=by kernel_rfl
def qe6 (n e a c q o p f g h i j k l b m d):qn7 (n+1) e a c q o p f g h i j k l b m d=j4 (decide (a<b)) (if IntKind.u64.wrap (IntKind.i64.wrap (8*(IntKind.i64.wrap ((IntKind.i64.wrap (b-1))-a))))<0 then none else (if 0<=IntKind.i64.wrap (e+a)/\IntKind.i64.wrap (e+a)<(o.length:Int) then (if 0<=IntKind.i64.wrap (e+a)/\IntKind.i64.wrap (e+a)<(p.length:Int) then (qn7 n e (IntKind.i64.wrap (a+1)) c q (o.set ((IntKind.i64.wrap (e+a)).toNat) (IntKind.u8.wrap (za6 .u64 d (IntKind.u64.wrap (IntKind.i64.wrap (8*(IntKind.i64.wrap ((IntKind.i64.wrap (b-1))-a)))))))) (p.set ((IntKind.i64.wrap (e+a)).toNat) true) f g h i j k l b m d) else none) else none)) (some ((((),(),(),c,()),q,o,p,()),(0,()))):=by kernel_rfl
def ut1:=okG kr1 func27
def vi0:KF:=⟨cF ws1 eN,0,[],[([I,I],qt [0,2,3,10]),([I,I,I],qt [0,2,3]),([O,I,I,I],qt [0,2,3,10,21]),([I,I,I,I,O,I,O,I,I,I,I],qt [2,3,28,39]),([I,I,I,I,I,I,O,I,O,I,I,I,I],qt [2,3,28,45]),([I,I,I,I,I,I,I,I,O,I,O,I,I,I,I],qt [2,3,28,51]),([I,I,I,I,I,I,I,I,I,I,O,I,O,I,I,I,I],qt [2,3,28,57])],f55,z0,[.b7,.a8,.a2,.a2],[.a8,.a1]⟩
def qb (n:Nat) (a:Int) (b:Bool) (c d:Int):Option u18:=tF vi0 n (a,b,c,d)
def km5 (n:Nat) (b c d a:Int):Option u18:=uF vi0 n [I,I] ⟨[(0,cu8 b),(2,zd7 c),(3,zd7 d),(10,zd7 a)],[]⟩
def gx6 (n:Nat) (c d e a:Int) (b:Bool):Option u18:=uF vi0 n [O,I,I,I] ⟨[(0,cu8 c),(2,zd7 d),(3,zd7 e),(10,zd7 a),(21,cb b)],[]⟩
def km3 (n:Nat) (a b c:Int):Option u18:=uF vi0 n [I,I,I] ⟨[(0,cu8 a),(2,zd7 b),(3,zd7 c)],[]⟩
def gw0 (n:Nat) (c d a:Int) (b:Bool):Option u18:=uF vi0 n [I,I,I,I,O,I,O,I,I,I,I] ⟨[(2,zd7 c),(3,zd7 d),(28,cu8 a),(39,cb b)],[]⟩
def wc7 (n:Nat) (c d a:Int) (b:Bool):Option u18:=uF vi0 n [I,I,I,I,I,I,O,I,O,I,I,I,I] ⟨[(2,zd7 c),(3,zd7 d),(28,cu8 a),(45,cb b)],[]⟩
def gz6 (n:Nat) (c d a:Int) (b:Bool):Option u18:=uF vi0 n [I,I,I,I,I,I,I,I,O,I,O,I,I,I,I] ⟨[(2,zd7 c),(3,zd7 d),(28,cu8 a),(51,cb b)],[]⟩
def gz4 (n:Nat) (c d a:Int) (b:Bool):Option u18:=uF vi0 n [I,I,I,I,I,I,I,I,I,I,O,I,O,I,I,I,I] ⟨[(2,zd7 c),(3,zd7 d),(28,cu8 a),(57,cb b)],[]⟩
def zad7 (n a d b c):qb n a d b c=j4 d (km5 n a (g9 .u64 b 4294967295) (g9 .u64 c 4294967295) 2147483648) (km5 n a b c 9223372036854775808):=by kernel_rfl
def gf5 (n b c d a):km5 (n+1) b c d a=j4 (decide (b>=23)) (gx6 n b c d a (decide (b<=26))) (gx6 n b c d a false):=by kernel_rfl
def qu9 (n c d e a b):gx6 (n+1) c d e a b=j4 b (km3 n c (yl9 .u64 d a) (yl9 .u64 e a)) (km3 n c d e):=by kernel_rfl
def zk5 (n a b c):km3 (n+1) a b c=j4 (a==17) (some (b==c,0)) (j4 (a==18) (some (b != c,0)) (j4 (a==19) (gw0 n b c a (a==19)) (gw0 n b c a (a==23)))):=by kernel_rfl
def zo1 (n c d a b):gw0 (n+1) c d a b=j4 b (some (decide (c>d),0)) (j4 (a==20) (wc7 n c d a (a==20)) (wc7 n c d a (a==24))):=by kernel_rfl
def zv1 (n c d a b):wc7 (n+1) c d a b=j4 b (some (decide (c>=d),0)) (j4 (a==21) (gz6 n c d a (a==21)) (gz6 n c d a (a==25))):=by kernel_rfl
def yh1 (n c d a b):gz6 (n+1) c d a b=j4 b (some (decide (c<d),0)) (j4 (a==22) (gz4 n c d a (a==22)) (gz4 n c d a (a==26))):=by kernel_rfl
def ja8 (n c d a b):gz4 (n+1) c d a b=j4 b (some (decide (c<=d),0)) (j4 (a==27) (z8 (qm v3 6 c d) fun e=>some (e != 0,0)) (some (false,2))):=by kernel_rfl
def zak4:=okF vi0 func55
def wc1:KG:=⟨cG vo3 (cF zak4 eN),4,[],[([O,I,I,I],qt [3,6,7,26])],f28,n0,[.a7,.c3],[.b3,.c8,.c9,.c7],[.a8,.a1]⟩
abbrev gs4:=Option (u3×(Bool×Int×Unit))
def qbu (n:Nat) (a:List RVal) (b:List Int) (c:List Bool) (d:List Int) (e:Ins):gs4:=tG wc1 n ((a,b,c,d,()),e,())
def vq6 (n:Nat) (o:Bool) (a:List Int) (p:List RVal) (q:List Int) (r:List Bool) (b:Int) (c:Bool) (d e:Int) (f:Bool) (g h i j k l m:Int):gs4:=uG wc1 n [O,I,I,I] ⟨[(3,.ptr 4 0),(6,.ptr 5 0),(7,.ptr 6 0),(26,cb o)],[.k5 a,.k9 p,.k10 q,.k8 r,.k1 b c d e f g h i,.k7 j k,.k7 l m]⟩
def zac5 (n c d e f b):qbu n c d e f b=z8 (qct v3 c d e f b) fun a=>j4 (a.2.2.2.1 != 0) (some ((((),(),(),a.1.1.2.2.2.1,()),a.1.2.1,a.1.2.2.1,a.1.2.2.2.1,()),(false,a.2.2.2.1,()))) (j4 (a.2.1.Kind != 1) (vq6 n true a.1.1.2.2.2.1 a.1.2.1 a.1.2.2.1 a.1.2.2.2.1 b.Op b.Narrow b.Dst b.Src b.UseImm b.Off b.Imm b.Size a.2.1.Kind a.2.1.N a.2.2.1.Kind a.2.2.1.N) (vq6 n (a.2.2.1.Kind != 1) a.1.1.2.2.2.1 a.1.2.1 a.1.2.2.1 a.1.2.2.2.1 b.Op b.Narrow b.Dst b.Src b.UseImm b.Off b.Imm b.Size a.2.1.Kind a.2.1.N a.2.2.1.Kind a.2.2.1.N)):=by kernel_rfl
def qc7 (n f a p q r b c g h i j k l m d o e):vq6 (n+1) f a p q r b c g h i j k l m d o e=j4 f (some ((((),(),(),a,()),p,q,r,()),(false,111,()))) (z8 (qb v3 b c d e) fun s=>some ((((),(),(),a,()),p,q,r,()),(s.1,s.2,()))):=by kernel_rfl
def zaa9:=okG wc1 func28
def kt0:KG:=⟨cG ux2 (cG qp7 (cG zaj9 (cG zah4 (cG ut1 (cG zaa9 (cF wz7 eN)))))),4,[(9,1)],[([I,O,I,I,I,O,O,I],qt [0,3,7,8]),([O,I,O,I,I,I,O,O,I],qt [0,3,7,8,39]),([I,I,O,I,I,I,O,O,I],qt [8]),([I,O,I,I,I,I,I,I,I,I,I,I,I,I,I,O,O,I],qt [12]),([O,I,O,I,I,I,I,I,I,I,I,I,I,I,I,I,O,O,I],qt [12,104])],f11,n0,[.a7,.c3],[.b3,.c8,.c9,.c7],[.a1,.a8,.a1]⟩
abbrev qo8:=Option (u3×(Int×Bool×Int×Unit))
def qk (n:Nat) (a:List RVal) (b:List Int) (c:List Bool) (d:List Int) (e:Ins):qo8:=tG kt0 n ((a,b,c,d,()),e,())
def wc0 (n:Nat) (m:Int) (l:Bool) (a:List Int) (o:List RVal) (p:List Int) (q:List Bool) (b:Int) (c:Bool) (d e:Int) (f:Bool) (g h i j k:Int):qo8:=uG kt0 n [O,I,O,I,I,I,O,O,I] ⟨[(0,.ptr 0 0),(3,.ptr 4 0),(7,.ptr 5 0),(8,ci m),(39,cb l)],[.k5 a,.k9 o,.k10 p,.k8 q,.k1 b c d e f g h i,.k7 j k]⟩
def wa6 (n:Nat) (c:Int) (a:Bool) (b:List Int) (d:List RVal) (e:List Int) (f:List Bool):qo8:=uG kt0 n [O,I,O,I,I,I,I,I,I,I,I,I,I,I,I,I,O,O,I] ⟨[(12,ci c),(104,cb a)],[.k5 b,.k9 d,.k10 e,.k8 f]⟩
def wa5 (n:Nat) (l:Int) (a:List Int) (m:List RVal) (o:List Int) (p:List Bool) (b:Int) (c:Bool) (d e:Int) (f:Bool) (g h i j k:Int):qo8:=uG kt0 n [I,O,I,I,I,O,O,I] ⟨[(0,.ptr 0 0),(3,.ptr 4 0),(7,.ptr 5 0),(8,ci l)],[.k5 a,.k9 m,.k10 o,.k8 p,.k1 b c d e f g h i,.k7 j k]⟩
def wb7 (n:Nat) (b:Int) (a:List Int) (c:List RVal) (d:List Int) (e:List Bool):qo8:=uG kt0 n [I,O,I,I,I,I,I,I,I,I,I,I,I,I,I,O,O,I] ⟨[(12,ci b)],[.k5 a,.k9 c,.k10 d,.k8 e]⟩
def kl5 (n:Nat) (b:Int) (a:List Int) (c:List RVal) (d:List Int) (e:List Bool):qo8:=uG kt0 n [I,I,O,I,I,I,O,O,I] ⟨[(8,ci b)],[.k5 a,.k9 c,.k10 d,.k8 e]⟩
def zai3 (n e f g h a):qk n e f g h a=j4 (a.Op==12) (z8 (qap v3 e f g h a) fun i=>some ((((),(),(),i.1.1.2.2.2.1,()),i.1.2.1,i.1.2.2.1,i.1.2.2.2.1,()),(0,false,i.2.1,()))) (j4 (a.Op==13) (z8 (qco v3 e f g h a.Dst) fun b=>j4 (b.2.2.1==0) (wc0 n b.2.2.1 (b.2.1.Kind != 1) b.1.1.2.2.2.1 b.1.2.1 b.1.2.2.1 b.1.2.2.2.1 a.Op a.Narrow a.Dst a.Src a.UseImm a.Off a.Imm a.Size b.2.1.Kind b.2.1.N) (wc0 n b.2.2.1 false b.1.1.2.2.2.1 b.1.2.1 b.1.2.2.1 b.1.2.2.2.1 a.Op a.Narrow a.Dst a.Src a.UseImm a.Off a.Imm a.Size b.2.1.Kind b.2.1.N)) (j4 (decide (a.Op<=11)) (z8 (qn v3 e f g h a) fun j=>some ((((),(),(),j.1.1.2.2.2.1,()),j.1.2.1,j.1.2.2.1,j.1.2.2.2.1,()),(0,false,j.2.1,()))) (j4 (a.Op==14) (z8 (qj v3 e f g h a) fun k=>some ((((),(),(),k.1.1.2.2.2.1,()),k.1.2.1,k.1.2.2.1,k.1.2.2.2.1,()),(0,false,k.2.1,()))) (j4 (a.Op==15) (z8 (qal v3 e f g h a) fun l=>some ((((),(),(),l.1.1.2.2.2.1,()),l.1.2.1,l.1.2.2.1,l.1.2.2.2.1,()),(0,false,l.2.1,()))) (j4 (a.Op==16) (some ((((),(),(),h,()),e,f,g,()),(a.Off,false,0,()))) (j4 (a.Op==28) (z8 (qco v3 e f g h 0) fun c=>j4 (c.2.2.1==0) (wa6 n c.2.2.1 (c.2.1.Kind != 1) c.1.1.2.2.2.1 c.1.2.1 c.1.2.2.1 c.1.2.2.2.1) (wa6 n c.2.2.1 false c.1.1.2.2.2.1 c.1.2.1 c.1.2.2.1 c.1.2.2.2.1)) (z8 (qbu v3 e f g h a) fun d=>j4 d.2.1 (some ((((),(),(),d.1.1.2.2.2.1,()),d.1.2.1,d.1.2.2.1,d.1.2.2.2.1,()),(a.Off,false,d.2.2.1,()))) (some ((((),(),(),d.1.1.2.2.2.1,()),d.1.2.1,d.1.2.2.1,d.1.2.2.2.1,()),(0,false,d.2.2.1,())))))))))):=by kernel_rfl
def qy6 (n q l a m o p b c d e f g h i j k):wc0 (n+1) q l a m o p b c d e f g h i j k=j4 l (wa5 n 114 a m o p b c d e f g h i j k) (wa5 n q a m o p b c d e f g h i j k):=by kernel_rfl
def qy3 (n c b a d e f):wa6 (n+1) c b a d e f=j4 b (wb7 n 111 a d e f) (wb7 n c a d e f):=by kernel_rfl
def ju1 (n l b m o p c d a f g h i j k e):wa5 (n+1) l b m o p c d a f g h i j k e=j4 (l==0) (z8 (qe v3 c d e 0) fun q=>if 0<=a/\a<(m.length:Int) then (kl5 n l b (m.set a.toNat (⟨1,q.1⟩:RVal)) o p) else none) (kl5 n l b m o p):=by kernel_rfl
def jv6 (n b a c d e):wb7 (n+1) b a c d e=some ((((),(),(),a,()),c,d,e,()),(0,true,b,())):=by kernel_rfl
def vb0 (n b a c d e):kl5 (n+1) b a c d e=some ((((),(),(),a,()),c,d,e,()),(0,false,b,())):=by kernel_rfl
def zal9:=okG kt0 func11
def vk3:KF:=⟨cF uj8 (cG wb5 (cG uu5 (cG zai6 (cG zal9 eN)))),0,[],[([O,I,I],qt [0,1,22]),([O,I,O,I,I,I,I,I,I,I],qt [0,5,7,8,9]),([O,I,I,O,O,I,O,O,I,O,I,I,I,I,I,I,I],qt [0,5,7,8,9,10,12,63])],f3,z0,[.b1,.val (.list (.int .u8))],[.a8]⟩
def qah (n:Nat) (a:List Ins) (b:List Int):Option (Bool):=tF vk3 n (a,b)
def vq2 (n:Nat) (b:List Ins) (c:List Int) (a:Bool):Option (Bool):=uF vk3 n [O,I,I] ⟨[(0,.cell ⟨.list (.user 2),b⟩),(1,.cell ⟨.list (.int .u8),c⟩),(22,cb a)],[]⟩
def qn9 (n:Nat) (b:List Ins) (c d:Int) (e:List Place) (a:List Int) (f:List RVal) (g:List Int) (h:List Bool):Option (Bool):=uF vk3 n [O,I,O,I,I,I,I,I,I,I] ⟨[(0,.cell ⟨.list (.user 2),b⟩),(5,.own 0),(7,.ptr 1 0),(8,ci c),(9,ci d)],[.row 37 (.user 4) e,.blk 69 [.own 2,.own 3,.own 4,.cell ⟨.list (.int .u8),a⟩],.k9 f,.k10 g,.k8 h]⟩
def vo5 (n:Nat) (e:List Ins) (f g b c:Int) (d:Bool) (h:List Place) (a:List Int) (i:List RVal) (j:List Int) (k:List Bool):Option (Bool):=uF vk3 n [O,I,I,O,O,I,O,O,I,O,I,I,I,I,I,I,I] ⟨[(0,.cell ⟨.list (.user 2),e⟩),(5,.own 0),(7,.ptr 1 0),(8,ci f),(9,ci g),(10,ci b),(12,ci c),(63,cb d)],[.row 37 (.user 4) h,.blk 69 [.own 2,.own 3,.own 4,.cell ⟨.list (.int .u8),a⟩],.k9 i,.k10 j,.k8 k]⟩
def uw0 (n a b):qah n a b=z8 (qbx v3) fun c=>j4 (!c) (some false) (j4 (decide ((a.length:Int)>200)) (vq2 n a b true) (vq2 n a b (decide ((b.length:Int)>3000)))):=by kernel_rfl
def jc6 (n c e a):vq2 (n+1) c e a=j4 a (some true) (z8 (qf v3 c) fun d=>j4 (d.2.2.1.Err != 0) (some ((d.2.1.length:Int)==0)) (z8 (qfj v3 e) fun b=>qn9 n c 0 0 d.2.1 b.2.1.2.2.2.1 b.2.1.1 b.2.1.2.1 b.2.1.2.2.1)):=by kernel_rfl
def vz1 (n d b g e c h i j):qn9 (n+1) d b g e c h i j=j4 (decide (g<(d.length:Int))) (if 0<=b/\b<(e.length:Int) then (z8 (qo v3 (e.getD b.toNat j8) h i j c) fun f=>j4 (!f.2.1) (some false) (if 0<=b/\b<(d.length:Int) then (z8 (qk v3 f.1.2.1 f.1.2.2.1 f.1.2.2.2.1 f.1.1.2.2.2.1 (d.getD b.toNat za1)) fun a=>j4 (a.2.2.2.1 != 0) (vo5 n d b g a.2.1 a.2.2.2.1 true e a.1.1.2.2.2.1 a.1.2.1 a.1.2.2.1 a.1.2.2.2.1) (vo5 n d b g a.2.1 a.2.2.2.1 a.2.2.1 e a.1.1.2.2.2.1 a.1.2.1 a.1.2.2.1 a.1.2.2.2.1)) else none)) else none) (some false):=by kernel_rfl
def ka4 (n e f g b c d h a i j k):vo5 (n+1) e f g b c d h a i j k=j4 d (some (c==0)) (qn9 n e (IntKind.i64.wrap ((IntKind.i64.wrap (f+1))+b)) (IntKind.i64.wrap (g+1)) h a i j k):=by kernel_rfl
def qah_ok:=okF vk3 func3
end
end Go.X
