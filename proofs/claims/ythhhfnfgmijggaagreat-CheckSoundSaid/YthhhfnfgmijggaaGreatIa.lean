import Derived.Test.YthhhfnfgmijggaaGreatTb
set_option linter.defProp false
namespace Go.X
open Go.RowKit Go.V Go.Proofs Tryz
noncomputable section
def gz9:KF:=⟨eN,0,[],[([O,O,I],qt [0,3])],f64,z0,[.b5],[.a1]⟩
def qco (n:Nat) (a:Int):Option (Int):=tF gz9 n a
def vq8 (n:Nat) (a:Int) (b:Bool):Option (Int):=uF gz9 n [O,O,I] ⟨[(0,cu8 a),(3,cb b)],[]⟩
def ut0 (n a):qco n a=z9 (decide (a>=1)) (vq8 n a (decide (a<=12))) (vq8 n a false):=by kernel_rfl
def ki7 (n a b):vq8 (n+1) a b=z9 b (some 201) (z9 (a==13) (some 193) (z9 (a==14) (some 181) (z9 (a==15) (some 186) (z9 (a==16) (some 144) (z9 (decide (a>=17)) (z9 (decide (a<=27)) (some 218) (z9 (a==28) (some 128) (some 0))) (z9 (a==28) (some 128) (some 0))))))):=by kernel_rfl
def ut1:=okF gz9 func64
def uc2:KF:=⟨eN,0,[],[([O,I,O,I],qt [0,1,7,8])],f91,z0,[.val (.list (.int .i64)),.a1],[.a1]⟩
def qgk (n:Nat) (a:List Int) (b:Int):Option (Int):=tF uc2 n (a,b)
def zah6:=okF uc2 func91
def ub0:KF:=⟨cF zah6 eN,0,[],[],f65,z0,[.val (.list (.int .i64)),.a1],[.a9]⟩
def qfy (n:Nat) (a:List Int) (b:Int):Option (Bool):=tF ub0 n (a,b)
def zaf7 (n a b):qfy n a b=z6 (qgk v3 a b) fun c=>some (decide (c>=0)):=by kernel_rfl
def zaf8:=okF ub0 func65
def wv7:KF:=⟨eN,0,[],[],f66,z0,[.a1,.a1,.a1],[.a9]⟩
def qdc (n:Nat) (a b c:Int):Option (Bool):=tF wv7 n (a,b,c)
def uv0 (n a b c):qdc n a b c=z9 (decide (a>=b)) (some (decide (a<=c))) (some false):=by kernel_rfl
def uv1:=okF wv7 func66
def qe4:KF:=⟨cF ut1 (cF zaf8 (cF uv1 eN)),0,[(8,1)],[([I,I,I],qt [1,3,4]),([I,I,I,I],qt [1,3,4]),([O,I,I,I,I],qt [1,3,4,31]),([I,I,I,I,I],qt [1,3,4]),([O,I,I,I,I,I],qt [1,3,4,41]),([I,I,I,I,I,I],qt [1,3,4]),([I,I,I,I,I,I,I],qt [1,3,4]),([I,I,I,I,I,I,I,I],qt [1,3,4]),([I,I,I,I,I,I,I,I,I,I],qt [1,3,4,5]),([I,I,I,I,I,I,I,I,I,I,I],qt [1,3,4,5,6])],f33,z0,[.c5],[.a9]⟩
def qa (n:Nat) (a:Ins):Option (Bool):=tF qe4 n a
def gx5 (n:Nat) (r a:Int) (b:Bool) (c d:Int) (e:Bool) (f g h i:Int) (j:Bool) (k l:Int) (m:Bool) (o p q:Int):Option (Bool):=uF qe4 n [I,I,I] ⟨[(1,.ptr 0 0),(3,ci r),(4,.ptr 1 0)],[.k1 a b c d e f g h,.k1 i j k l m o p q]⟩
def kn5 (n:Nat) (s:Int) (r:Bool) (a:Int) (b:Bool) (c d:Int) (e:Bool) (f g h i:Int) (j:Bool) (k l:Int) (m:Bool) (o p q:Int):Option (Bool):=uF qe4 n [O,I,I,I,I] ⟨[(1,.ptr 0 0),(3,ci s),(4,.ptr 1 0),(31,cb r)],[.k1 a b c d e f g h,.k1 i j k l m o p q]⟩
def gx6 (n:Nat) (r a:Int) (b:Bool) (c d:Int) (e:Bool) (f g h i:Int) (j:Bool) (k l:Int) (m:Bool) (o p q:Int):Option (Bool):=uF qe4 n [I,I,I,I] ⟨[(1,.ptr 0 0),(3,ci r),(4,.ptr 1 0)],[.k1 a b c d e f g h,.k1 i j k l m o p q]⟩
def gx8 (n:Nat) (s:Int) (r:Bool) (a:Int) (b:Bool) (c d:Int) (e:Bool) (f g h i:Int) (j:Bool) (k l:Int) (m:Bool) (o p q:Int):Option (Bool):=uF qe4 n [O,I,I,I,I,I] ⟨[(1,.ptr 0 0),(3,ci s),(4,.ptr 1 0),(41,cb r)],[.k1 a b c d e f g h,.k1 i j k l m o p q]⟩
def gx7 (n:Nat) (r a:Int) (b:Bool) (c d:Int) (e:Bool) (f g h i:Int) (j:Bool) (k l:Int) (m:Bool) (o p q:Int):Option (Bool):=uF qe4 n [I,I,I,I,I] ⟨[(1,.ptr 0 0),(3,ci r),(4,.ptr 1 0)],[.k1 a b c d e f g h,.k1 i j k l m o p q]⟩
def gx9 (n:Nat) (r a:Int) (b:Bool) (c d:Int) (e:Bool) (f g h i:Int) (j:Bool) (k l:Int) (m:Bool) (o p q:Int):Option (Bool):=uF qe4 n [I,I,I,I,I,I] ⟨[(1,.ptr 0 0),(3,ci r),(4,.ptr 1 0)],[.k1 a b c d e f g h,.k1 i j k l m o p q]⟩
def gy0 (n:Nat) (r a:Int) (b:Bool) (c d:Int) (e:Bool) (f g h i:Int) (j:Bool) (k l:Int) (m:Bool) (o p q:Int):Option (Bool):=uF qe4 n [I,I,I,I,I,I,I] ⟨[(1,.ptr 0 0),(3,ci r),(4,.ptr 1 0)],[.k1 a b c d e f g h,.k1 i j k l m o p q]⟩
def gy1 (n:Nat) (r a:Int) (b:Bool) (c d:Int) (e:Bool) (f g h i:Int) (j:Bool) (k l:Int) (m:Bool) (o p q:Int):Option (Bool):=uF qe4 n [I,I,I,I,I,I,I,I] ⟨[(1,.ptr 0 0),(3,ci r),(4,.ptr 1 0)],[.k1 a b c d e f g h,.k1 i j k l m o p q]⟩
def gy2 (n:Nat) (r s a:Int) (b:Bool) (c d:Int) (e:Bool) (f g h i:Int) (j:Bool) (k l:Int) (m:Bool) (o p q:Int):Option (Bool):=uF qe4 n [I,I,I,I,I,I,I,I,I,I] ⟨[(1,.ptr 0 0),(3,ci r),(4,.ptr 1 0),(5,ci s)],[.k1 a b c d e f g h,.k1 i j k l m o p q]⟩
def vi9 (n:Nat) (r s:Int) (t:Bool) (a:Int) (b:Bool) (c d:Int) (e:Bool) (f g h i:Int) (j:Bool) (k l:Int) (m:Bool) (o p q:Int):Option (Bool):=uF qe4 n [I,I,I,I,I,I,I,I,I,I,I] ⟨[(1,.ptr 0 0),(3,ci r),(4,.ptr 1 0),(5,ci s),(6,cb t)],[.k1 a b c d e f g h,.k1 i j k l m o p q]⟩
def zan2 (n a):qa n a=z6 (qco v3 a.Op) fun b=>z9 ((w9 .i64 b 3) != 0) (gx5 n b a.Op a.Narrow a.Dst a.Src a.UseImm a.Off a.Imm a.Size a.Op false a.Dst 0 false 0 0 0) (gx5 n b a.Op a.Narrow a.Dst a.Src a.UseImm a.Off a.Imm a.Size a.Op false 0 0 false 0 0 0):=by kernel_rfl
def zu3 (n r b c d e a f g h i j k l m o p q):gx5 (n+1) r b c d e a f g h i j k l m o p q=z9 ((w9 .i64 r 4) != 0) (kn5 n r true b c d e a f g h i j k l m o p q) (z9 ((w9 .i64 r 8) != 0) (kn5 n r (!a) b c d e a f g h i j k l m o p q) (kn5 n r false b c d e a f g h i j k l m o p q)):=by kernel_rfl
def zu5 (n s r b c d a e f g h i j k q l m o p):kn5 (n+1) s r b c d a e f g h i j k q l m o p=z9 r (gx6 n s b c d a e f g h i j k a l m o p) (gx6 n s b c d a e f g h i j k q l m o p):=by kernel_rfl
def zu4 (n r b c d e a f g h i j k l m o p q):gx6 (n+1) r b c d e a f g h i j k l m o p q=z9 ((w9 .i64 r 8) != 0) (gx8 n r a b c d e a f g h i j k l m o p q) (gx8 n r false b c d e a f g h i j k l m o p q):=by kernel_rfl
def zu7 (n s r b c d e f g a h i j k l p m q o):gx8 (n+1) s r b c d e f g a h i j k l p m q o=z9 r (gx7 n s b c d e f g a h i j k l true m a o) (gx7 n s b c d e f g a h i j k l p m q o):=by kernel_rfl
def zu6 (n r b c d e f a g h i j k l m q o p):gx7 (n+1) r b c d e f a g h i j k l m q o p=z9 ((w9 .i64 r 16) != 0) (gx9 n r b c d e f a g h i j k l m a o p) (gx9 n r b c d e f a g h i j k l m q o p):=by kernel_rfl
def zu8 (n r b c d e f g h a i j k l m o p q):gx9 (n+1) r b c d e f g h a i j k l m o p q=z9 ((w9 .i64 r 32) != 0) (gy0 n r b c d e f g h a i j k l m o p a) (gy0 n r b c d e f g h a i j k l m o p q):=by kernel_rfl
def zu9 (n r b a c d e f g h i q j k l m o p):gy0 (n+1) r b a c d e f g h i q j k l m o p=z9 ((w9 .i64 r 64) != 0) (gy1 n r b a c d e f g h i a j k l m o p) (gy1 n r b a c d e f g h i q j k l m o p):=by kernel_rfl
def zv0 (n r a b c d e f g h i j k l m o p q):gy1 (n+1) r a b c d e f g h i j k l m o p q=z9 ((w9 .i64 r 1) != 0) (gy2 n r 9 a b c d e f g h i j k l m o p q) (gy2 n r 10 a b c d e f g h i j k l m o p q):=by kernel_rfl
def zv1 (n r s b c d e f g h a i j k l m o p q):gy2 (n+1) r s b c d e f g h a i j k l m o p q=z9 ((w9 .i64 r 32)==0) (vi9 n r s true b c d e f g h a i j k l m o p q) (z6 (qfy v3 ([1,2,4,8]:List Int) a) fun t=>vi9 n r s t b c d e f g h a i j k l m o p q):=by kernel_rfl
def ky8 (n r s t e f a b g c d h i j k l m o p q):vi9 (n+1) r s t e f a b g c d h i j k l m o p q=z9 (r != 0) (z9 ((e==i)&&((f==j)&&((a==k)&&((b==l)&&((g==m)&&((c==o)&&((d==p)&&(h==q)))))))) (z6 (qdc v3 a 0 s) fun u=>z9 u (z6 (qdc v3 b 0 10) fun v=>z9 v (z6 (qdc v3 c (-32768:Int) 32767) fun w=>z9 w (z6 (qdc v3 d (-2147483648:Int) 2147483647) fun x=>z9 x (some t) (some false)) (some false)) (some false)) (some false)) (some false)) (some false):=by kernel_rfl
def ws9:=okF qe4 func33
def wu4:KF:=⟨eN,0,[],[],f32,z0,[.a9,.a1],[.a1]⟩
def qcg (n:Nat) (a:Bool) (b:Int):Option (Int):=tF wu4 n (a,b)
def us1 (n a b):qcg n a b=z9 a (some b) (some 0):=by kernel_rfl
def qq4:=okF wu4 func32
def ua5:KG:=⟨cF ws9 (cF qq4 eN),1,[],[],f31,n0,[.a1,.ptr 0 22 [.b2]],[.blk 22 [.b2]],[.a1]⟩
def qft (n:Nat) (a:Int) (b:List Ins):Option u21:=tG ua5 n (a,(b,()),())
def zae7 (n a b):qft n a b=if 0<=a/\a<(b.length:Int) then (z6 (qa v3 (b.getD a.toNat v8)) fun c=>z6 (qcg v3 (!c) 4) fun d=>some (((b,()),()),(d,()))) else none:=by kernel_rfl
def zae8:=okG ua5 func31
def ww2:KF:=⟨eN,0,[],[],f35,z0,[.c5],[.a9]⟩
def qdq (n:Nat) (a:Ins):Option (Bool):=tF ww2 n a
def uw7 (n a):qdq n a=z9 (decide (a.Op>=16)) (some (decide (a.Op<=27))) (some false):=by kernel_rfl
def gq2:=okF ww2 func35
def ua6:KG:=⟨cF gq2 (cF qq4 eN),1,[],[],f34,n0,[.a1,.ptr 0 22 [.b2]],[.blk 22 [.b2]],[.a1]⟩
def qfu (n:Nat) (a:Int) (b:List Ins):Option u21:=tG ua6 n (a,(b,()),())
def zae9 (n a b):qfu n a b=if 0<=a/\a<(b.length:Int) then (if 0<=a/\a<(b.length:Int) then (z6 (qdq v3 (b.getD a.toNat v8)) fun c=>z9 (!c) (some (((b,()),()),(0,()))) (z9 (decide ((IntKind.i64.wrap ((IntKind.i64.wrap (a+1))+((b.getD a.toNat v8).Off)))<=a)) (some (((b,()),()),(100,()))) (z6 (qcg v3 (decide ((IntKind.i64.wrap ((IntKind.i64.wrap (a+1))+((b.getD a.toNat v8).Off)))>=(b.length:Int))) 101) fun d=>some (((b,()),()),(d,()))))) else none) else none:=by kernel_rfl
def zaf0:=okG ua6 func34
def ua7:KG:=⟨cF qq4 eN,1,[],[],f36,n0,[.a1,.ptr 0 22 [.b2]],[.blk 22 [.b2]],[.a1]⟩
def qfv (n:Nat) (a:Int) (b:List Ins):Option u21:=tG ua7 n (a,(b,()),())
def zaf1 (n b a):qfv n b a=z9 (b==(IntKind.i64.wrap ((a.length:Int)-1))) (if 0<=b/\b<(a.length:Int) then (z9 (((a.getD b.toNat v8).Op) != 28) (if 0<=b/\b<(a.length:Int) then (z6 (qcg v3 (((a.getD b.toNat v8).Op) != 16) 102) fun c=>some (((a,()),()),(c,()))) else none) (z6 (qcg v3 false 102) fun d=>some (((a,()),()),(d,())))) else none) (z6 (qcg v3 false 102) fun e=>some (((a,()),()),(e,()))):=by kernel_rfl
def zaf2:=okG ua7 func36
def uf0:ByteArray:=⟨#[0,1,2,2,3,3,3,3,4,4,4,4,4,4,4,4,5,5,5,5,5,5,5,5,5,5,5,5,5,5,5,5,6,6,6,6,6,6,6,6,6,6,6,6,6,6,6,6,6,6,6,6,6,6,6,6,6,6,6,6,6,6,6,6,7,7,7,7,7,7,7,7,7,7,7,7,7,7,7,7,7,7,7,7,7,7,7,7,7,7,7,7,7,7,7,7,7,7,7,7,7,7,7,7,7,7,7,7,7,7,7,7,7,7,7,7,7,7,7,7,7,7,7,7,7,7,7,7,8,8,8,8,8,8,8,8,8,8,8,8,8,8,8,8,8,8,8,8,8,8,8,8,8,8,8,8,8,8,8,8,8,8,8,8,8,8,8,8,8,8,8,8,8,8,8,8,8,8,8,8,8,8,8,8,8,8,8,8,8,8,8,8,8,8,8,8,8,8,8,8,8,8,8,8,8,8,8,8,8,8,8,8,8,8,8,8,8,8,8,8,8,8,8,8,8,8,8,8,8,8,8,8,8,8,8,8,8,8,8,8,8,8,8,8,8,8,8,8,8,8,8,8,8,8,8,8]⟩
def wm4:KF:=⟨eN,0,[],[([I],qt [0,2]),([I,I],qt [0,2]),([I,I,I],qt [0,2])],f129,z0,[.a2],[.a1]⟩
def qx (n:Nat) (a:Int):Option (Int):=tF wm4 n a
def kq8 (n:Nat) (a b:Int):Option (Int):=uF wm4 n [I] ⟨[(0,yk4 a),(2,ci b)],[]⟩
def kq9 (n:Nat) (a b:Int):Option (Int):=uF wm4 n [I,I] ⟨[(0,yk4 a),(2,ci b)],[]⟩
def kr0 (n:Nat) (a b:Int):Option (Int):=uF wm4 n [I,I,I] ⟨[(0,yk4 a),(2,ci b)],[]⟩
def zaq7 (n a):qx n a=z9 (decide (a>=4294967296)) (kq8 n (zb1 .u64 a 32) 32) (kq8 n a 0):=by kernel_rfl
def gd4 (n a b):kq8 (n+1) a b=z9 (decide (a>=65536)) (kq9 n (zb1 .u64 a 16) (IntKind.i64.wrap (b+16))) (kq9 n a b):=by kernel_rfl
def gd5 (n a b):kq9 (n+1) a b=z9 (decide (a>=256)) (kr0 n (zb1 .u64 a 8) (IntKind.i64.wrap (b+8))) (kr0 n a b):=by kernel_rfl
def gd6 (n a b):kr0 (n+1) a b=jj7 uf0 (IntKind.u8.wrap a) fun c=>some (IntKind.i64.wrap (b+(IntKind.i64.wrap c))):=by kernel_rfl
def ue2:=okF wm4 func129
def uc4:KF:=⟨cF ue2 eN,0,[],[],f93,z0,[.a2],[.a1]⟩
def qgm (n:Nat) (a:Int):Option (Int):=tF uc4 n a
def gt4:=okF uc4 func93
def ua1:KF:=⟨eN,0,[],[],f178,z0,[.a1],[.a9]⟩
def qfp (n:Nat) (a:Int):Option (Bool):=tF ua1 n a
def zad9 (n a):qfp n a=some (a != a):=by kernel_rfl
def zae0:=okF ua1 func178
def ww8:KF:=⟨cF zae0 eN,0,[],[],f125,z0,[.a1,.a1],[.a9]⟩
def qdx (n:Nat) (a b:Int):Option (Bool):=tF ww8 n (a,b)
def ux8 (n a b):qdx n a b=z6 (qfp v3 a) fun c=>z9 c (z6 (qfp v3 b) fun d=>z9 (!d) (some true) (some (decide (a<b)))) (some (decide (a<b))):=by kernel_rfl
def gq5:=okF ww8 func125
def uc0:KF:=⟨cF gq5 eN,1,[(6,1)],[([O,I],qt [0,1,2,6]),([O,I,O,O,I,O,O,I],qt [0,1,2,6,7]),([O,O,O,I,O,O,I,O,O,I],qt [0,1,2,6,7,30])],f119,z0,[.io 3 (.int .i64),.a1,.a1],[]⟩
def qgi (n:Nat) (a:List Int) (b c:Int):Option u9:=tF uc0 n (a,b,c)
def gt3:=okF uc0 func119
def uc5:KF:=⟨cF gt3 eN,1,[],[([O,I,I],qt [0,1,2,3,8,9]),([I,I,I,O,O,O,I,I],qt [0,1,2,3,8,9,10])],f92,z0,[.io 3 (.int .i64),.a1,.a1,.a1],[]⟩
def qgn (n:Nat) (a:List Int) (b c d:Int):Option u9:=tF uc5 n (a,b,c,d)
def gt5:=okF uc5 func92
def ub7:KF:=⟨cF gt4 (cF gt5 eN),1,[],[],f67,z0,[.io 3 (.int .i64)],[]⟩
def qgf (n:Nat) (a:List Int):Option u9:=tF ub7 n a
def zah1:=okF ub7 func67
def uc6:KG:=⟨cF gq5 eN,1,[(6,1)],[([O,I],qt [0,1,2,6]),([O,I,O,O,I,O,O,I],qt [0,1,2,6,7]),([O,O,O,I,O,O,I,O,O,I],qt [0,1,2,6,7,30])],f119,n0,[.slr 3 (.int .i64),.a1,.a1],[.d2],[]⟩
def qgo (n:Nat) (a:List Int) (b c:Nat) (d e:Int):Option (u9×Unit):=tG uc6 n ((a,b,c),d,e,())
def zah8:=okG uc6 func119
def uc7:KG:=⟨cE (v9 zah8 (zd2 gt3)) eN,1,[],[([O,I,I],qt [0,1,2,3,8,9]),([I,I,I,O,O,O,I,I],qt [0,1,2,3,8,9,10])],f92,n0,[.slr 3 (.int .i64),.a1,.a1,.a1],[.d2],[]⟩
def qgp (n:Nat) (a:List Int) (b c:Nat) (d e f:Int):Option (u9×Unit):=tG uc7 n ((a,b,c),d,e,f,())
def zah9:=okG uc7 func92
def uc3:KG:=⟨cF gt4 (cE (v9 zah9 (zd2 gt5)) eN),1,[],[],f67,n0,[.slr 3 (.int .i64)],[.d2],[]⟩
def qgl (n:Nat) (a:List Int) (b c:Nat):Option (u9×Unit):=tG uc3 n ((a,b,c),())
def zah7:=okG uc3 func67
def uc1:KG:=⟨eN,1,[],[([O,I,O,I,I],qt [0,3]),([O,I,O,I,O,I,O,O,I,O,O,I,O,I,I],qt [0,3,4,5]),([I,O,O,I,O,I,O,I,O,O,I,O,O,I,O,I,I],qt [0,3,4,5])],f68,n0,[.slr 3 (.int .i64)],[.d2],[.part 0 1]⟩
def qgj (n:Nat) (a:List Int) (b c:Nat):Option (u9×u19):=tG uc1 n ((a,b,c),())
def zah5:=okG uc1 func68
def ub9:KG:=⟨eN,1,[],[([O,I,O,I,I],qt [0,3]),([O,I,O,I,O,I,O,O,I,O,O,I,O,I,I],qt [0,3,4,5]),([I,O,O,I,O,I,O,I,O,O,I,O,O,I,O,I,I],qt [0,3,4,5])],f68,⟨[],[0],[],[],[]⟩,[.d2],[.d2],[.part 0 1]⟩
def qgh (n:Nat) (a:List Int):Option (u9×u19):=tG ub9 n (a,())
def zah4:=okG ub9 func68
def ko1:KG:=⟨cF ws9 (cF gq2 (cE (v9 zah7 (zd2 zah1)) (cE (v9 zah4 (v9 zah5 (q7 68))) eN))),0,[],[([O,I],qt [0,1,29]),([I,I,I],qt [0,1,5])],f38,⟨[(0,3,.int .i64,false)],[],[],[],[]⟩,[.b2,.a1],[],[.slr 3 (.int .i64)]⟩
abbrev vo7:=Option (Unit×((List Int×Nat×Nat)×Unit))
def qak (n:Nat) (a:List Ins) (b:Int):vo7:=tG ko1 n (a,b,())
def jl1 (n:Nat) (b:List Ins) (c:Int) (a:Bool):vo7:=uG ko1 n [O,I] ⟨[(0,.cell ⟨.list (.user 2),b⟩),(1,ci c),(29,cb a)],[]⟩
def vo6 (n:Nat) (a:List Ins) (b:Int) (c:List Int):vo7:=uG ko1 n [I,I,I] ⟨[(0,.cell ⟨.list (.user 2),a⟩),(1,ci b),(5,.own 0)],[.row 3 (.int .i64) c]⟩
def ul4 (n b a):qak n b a=z9 (decide (a<0)) (jl1 n b a true) (z9 (decide (a>=(b.length:Int))) (jl1 n b a true) (if 0<=a/\a<(b.length:Int) then (z6 (qa v3 (b.getD a.toNat v8)) fun c=>z9 (!c) (jl1 n b a true) (if 0<=a/\a<(b.length:Int) then (jl1 n b a (((b.getD a.toNat v8).Op)==28)) else none)) else none)):=by kernel_rfl
def kg2 (n b a c):jl1 (n+1) b a c=z9 c (some ((),((([]:List Int),0,0),()))) (if 0<=a/\a<(b.length:Int) then (z6 (qdq v3 (b.getD a.toNat v8)) fun d=>z9 d (if 0<=a/\a<(b.length:Int) then (vo6 n b a ([IntKind.i64.wrap (a+1),IntKind.i64.wrap ((IntKind.i64.wrap (a+1))+((b.getD a.toNat v8).Off))]:List Int)) else none) (vo6 n b a ([IntKind.i64.wrap (a+1)]:List Int))) else none):=by kernel_rfl
def kg3 (n c b a):vo6 (n+1) c b a=if 0<=b/\b<((c.length:Nat):Int) then (z9 (((c.getD b.toNat v8).Op)==(16:Int)) (if 0<=(1:Int)/\(1:Int)<=((a.length:Nat):Int)/\((a.length:Nat):Int)<=((a.length:Nat):Int) then (z6 (qgl v3 a 1 ((((a.length:Nat):Int).toNat)-1)) fun f=>z6 (qgj v3 f.1.1 1 ((((a.length:Nat):Int).toNat)-1)) fun d=>some ((),((d.1.1,d.2.1.1,d.2.1.2),()))) else none) (z6 (qgf v3 a) fun g=>z6 (qgh v3 g.1) fun e=>some ((),((e.1.1,e.2.1.1,e.2.1.2),())))) else none:=by kernel_rfl
def ul5:=okG ko1 func38
def kn6:KG:=⟨cG ul5 (cF qq4 eN),3,[(4,1)],[([O,I,O,I],qt [0,2,9,10,11]),([I,I,O,O,I,O,I],qt [0,2,9,10,11])],f37,n0,[.a1,.ptr 0 22 [.b2],.ptr 0 35 [.row 4 (.bool)]],[.blk 22 [.b2],.blk 35 [.own 2],.row 4 (.bool)],[.a1]⟩
abbrev vn9:=Option (((List Ins×Unit)×u4×List Bool×Unit)×u1)
def qab (n:Nat) (a:Int) (b:List Ins) (c:List Bool):vn9:=tG kn6 n (a,(b,()),(c,()),())
def yx2 (n:Nat) (f:Int) (b c:Nat) (d e:Int) (a:List Ins) (g:List Bool) (h:List Int):vn9:=uG kn6 n [O,I,O,I] ⟨[(0,ci f),(2,.ptr 1 0),(9,.sl 3 1 b c),(10,ci d),(11,ci e)],[.k12 a,.blk 35 [.own 2],.row 4 (.bool) g,.row 3 (.int .i64) h]⟩
def vn8 (n:Nat) (f:Int) (b c:Nat) (d e:Int) (a:List Ins) (g:List Bool) (h:List Int):vn9:=uG kn6 n [I,I,O,O,I,O,I] ⟨[(0,ci f),(2,.ptr 1 0),(9,.sl 3 1 b c),(10,ci d),(11,ci e)],[.k12 a,.blk 35 [.own 2],.row 4 (.bool) g,.row 3 (.int .i64) h]⟩
def uk1 (n b c d):qab n b c d=z6 (qak v3 c b) fun a=>yx2 n b a.2.1.2.1 a.2.1.2.2 (a.2.1.2.2:Int) 0 c d a.2.1.1:=by kernel_rfl
def qe6 (n f b g h a c e d):yx2 (n+1) f b g h a c e d=z9 (decide (a<h)) (if 0<=a/\a<(g:Int) then (if b+a.toNat<d.length then (if 0<=d.getD (b+a.toNat) 0/\d.getD (b+a.toNat) 0<(e.length:Int) then (z9 (e.getD ((d.getD (b+a.toNat) 0).toNat) false) (if 0<=d.getD (b+a.toNat) 0/\d.getD (b+a.toNat) 0<(e.length:Int) then (vn8 n f b g h a c (e.set ((d.getD (b+a.toNat) 0).toNat) true) d) else none) (if 0<=f/\f<(e.length:Int) then (if 0<=d.getD (b+a.toNat) 0/\d.getD (b+a.toNat) 0<(e.length:Int) then (vn8 n f b g h a c (e.set ((d.getD (b+a.toNat) 0).toNat) (e.getD f.toNat false)) d) else none) else none)) else none) else none) else none) (if 0<=f/\f<(e.length:Int) then (z6 (qcg v3 (!(e.getD f.toNat false)) 103) fun i=>some (((c,()),((),()),e,()),(i,()))) else none):=by kernel_rfl
def qe5 (n f b c d e a g h):vn8 (n+1) f b c d e a g h=yx2 n f b c d (IntKind.i64.wrap (e+1)) a g h:=by kernel_rfl
def uk2:=okG kn6 func37
def gq6:KG:=⟨cG zae8 (cG zaf0 (cG zaf2 (cG uk2 eN))),4,[],[([O,I,O,I],⟨[0,4,9,10,11],[],true,[],0,false⟩),([O,I,I,O,O,I,I,O,O,I,O,I],qt [0,4,6,9,10,11,15,16])],f30,n0,[.a1,.slb 1 4 94 [.fn 31 [] [.ptr 0 22 [.b2]],.fn 34 [] [.at_ 1 0],.fn 36 [] [.at_ 1 0],.fn 37 [] [.at_ 1 0,.ptr 0 35 [.row 4 (.bool)]]]],[.blk 94 [.fn 31 [] [.at_ 1 0],.fn 34 [] [.at_ 1 0],.fn 36 [] [.at_ 1 0],.fn 37 [] [.at_ 1 0,.at_ 2 0]],.blk 22 [.b2],.blk 35 [.own 3],.row 4 (.bool)],[.e4]⟩
abbrev vj5:=Option ((((Unit×u4)×(Unit×u4)×(Unit×u4)×(Unit×(Unit×Unit×Unit))×Unit)×(List Ins×Unit)×u4×List Bool×Unit)×(Fault×Unit))
def qe (n:Nat) (a:Int) (b:List Ins) (c:List Bool):vj5:=tG gq6 n (a,(((),((b,()),())),((),((),())),((),((),())),((),((),(c,()),())),()),())
def jq9 (n:Nat) (f d e:Int) (a:List Ins) (g:List Bool) (b c:Int):vj5:=uG gq6 n [O,I,I,O,O,I,I,O,O,I,O,I] ⟨[(0,ci f),(4,.ptr 4 0),(6,.fn (.func 31) [] [.ptr 1 0]),(9,.sl 0 1 0 4),(10,.cell ⟨.int .i64,(4:Int)⟩),(11,.cell ⟨.int .i64,(0:Int)⟩),(15,ci d),(16,ci e)],[.b7,.k12 a,.blk 35 [.own 3],.row 4 (.bool) g,.k13 b c]⟩
def yt0 (n:Nat) (f d e:Int) (a:List Ins) (g:List Bool) (b c:Int):vj5:=uG gq6 n [O,I,I,O,O,I,I,O,O,I,O,I] ⟨[(0,ci f),(4,.ptr 4 0),(6,.fn (.func 34) [] [.ptr 1 0]),(9,.sl 0 1 0 4),(10,.cell ⟨.int .i64,(4:Int)⟩),(11,.cell ⟨.int .i64,(1:Int)⟩),(15,ci d),(16,ci e)],[.b7,.k12 a,.blk 35 [.own 3],.row 4 (.bool) g,.k13 b c]⟩
def yt1 (n:Nat) (f d e:Int) (a:List Ins) (g:List Bool) (b c:Int):vj5:=uG gq6 n [O,I,I,O,O,I,I,O,O,I,O,I] ⟨[(0,ci f),(4,.ptr 4 0),(6,.fn (.func 36) [] [.ptr 1 0]),(9,.sl 0 1 0 4),(10,.cell ⟨.int .i64,(4:Int)⟩),(11,.cell ⟨.int .i64,(2:Int)⟩),(15,ci d),(16,ci e)],[.b7,.k12 a,.blk 35 [.own 3],.row 4 (.bool) g,.k13 b c]⟩
def yt2 (n:Nat) (f d e:Int) (a:List Ins) (g:List Bool) (b c:Int):vj5:=uG gq6 n [O,I,I,O,O,I,I,O,O,I,O,I] ⟨[(0,ci f),(4,.ptr 4 0),(6,.fn (.func 37) [] [.ptr 1 0,.ptr 2 0]),(9,.sl 0 1 0 4),(10,.cell ⟨.int .i64,(4:Int)⟩),(11,.cell ⟨.int .i64,(3:Int)⟩),(15,ci d),(16,ci e)],[.b7,.k12 a,.blk 35 [.own 3],.row 4 (.bool) g,.k13 b c]⟩
def zao0 (n a b c):qe (n+1) a b c=jq9 n a a 0 b c 0 0:=by kernel_rfl
def ju7 (n f e a b g c d):jq9 (n+2) f e a b g c d=z9 (decide (a<e)) (z6 (qft v3 a b) fun h=>z9 (h.2.1 != 0) (some (((((),((),())),((),((),())),((),((),())),((),((),(),())),()),(h.1.1.1,()),((),()),g,()),((⟨h.2.1,a⟩:Fault),()))) (jq9 (n+1) f e (IntKind.i64.wrap (a+1)) h.1.1.1 g c d)) (yt0 n f f 0 b g c d):=by kernel_rfl
def je6 (n f e a b g c d):yt0 (n+2) f e a b g c d=z9 (decide (a<e)) (z6 (qfu v3 a b) fun h=>z9 (h.2.1 != 0) (some (((((),((),())),((),((),())),((),((),())),((),((),(),())),()),(h.1.1.1,()),((),()),g,()),((⟨h.2.1,a⟩:Fault),()))) (yt0 (n+1) f e (IntKind.i64.wrap (a+1)) h.1.1.1 g c d)) (yt1 n f f 0 b g c d):=by kernel_rfl
def je7 (n f e a b g c d):yt1 (n+2) f e a b g c d=z9 (decide (a<e)) (z6 (qfv v3 a b) fun h=>z9 (h.2.1 != 0) (some (((((),((),())),((),((),())),((),((),())),((),((),(),())),()),(h.1.1.1,()),((),()),g,()),((⟨h.2.1,a⟩:Fault),()))) (yt1 (n+1) f e (IntKind.i64.wrap (a+1)) h.1.1.1 g c d)) (yt2 n f f 0 b g c d):=by kernel_rfl
def je8 (n h e a b g c d):yt2 (n+2) h e a b g c d=z9 (decide (a<e)) (z6 (qab v3 a b g) fun f=>z9 (f.2.1 != 0) (some (((((),((),())),((),((),())),((),((),())),((),((),(),())),()),(f.1.1.1,()),((),()),f.1.2.2.1,()),((⟨f.2.1,a⟩:Fault),()))) (yt2 (n+1) h e (IntKind.i64.wrap (a+1)) f.1.1.1 f.1.2.2.1 c d)) (some (((((),((),())),((),((),())),((),((),())),((),((),(),())),()),(b,()),((),()),g,()),((⟨0,0⟩:Fault),()))):=by kernel_rfl
def zao1:=okG gq6 func30
def wa3:KF:=⟨cG zao1 eN,0,[],[],f16,z0,[.b2],[.e4]⟩
def qdd (n:Nat) (a:List Ins):Option (Fault):=tF wa3 n a
def uv2 (n a):qdd n a=z9 (((a.length:Nat):Int)==(0:Int)) (some (⟨(6:Int),(0:Int)⟩:Fault)) (z9 (decide (((a.length:Nat):Int)>(4096:Int))) (some (⟨(3:Int),(0:Int)⟩:Fault)) (if 0<=((a.length:Nat):Int)/\((a.length:Nat):Int)<=((a.length:Nat):Int)/\1*(((a.length:Nat):Int).toNat)<=281474976710656/\((a.length:Nat):Int)<=9223372036854775807 then (if 0<=(0:Int)/\(0:Int)<(((List.replicate (((a.length:Nat):Int).toNat) false).length:Nat):Int) then (z6 (qe v3 ((a.length:Nat):Int) a ((List.replicate (((a.length:Nat):Int).toNat) false).set 0 true)) fun b=>some b.2.1) else none) else none)):=by kernel_rfl
def gp1:=okF wa3 func16
end
end Go.X
