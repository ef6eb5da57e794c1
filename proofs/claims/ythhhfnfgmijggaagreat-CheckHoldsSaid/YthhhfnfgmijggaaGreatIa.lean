import Derived.Test.YthhhfnfgmijggaaGreatTb
set_option linter.defProp false
namespace Go.X
open Go.RowKit Go.V Go.Proofs Tryz
noncomputable section
def wb2:KF:=⟨eN,0,[],[([O,O,I],qt [0,3])],f64,z0,[.b7],[.a1]⟩
def qcj (n:Nat) (a:Int):Option (Int):=tF wb2 n a
def vl3 (n:Nat) (a:Int) (b:Bool):Option (Int):=uF wb2 n [O,O,I] ⟨[(0,cu8 a),(3,cb b)],[]⟩
def ud9 (n a):qcj n a=j4 (decide (a>=1)) (vl3 n a (decide (a<=12))) (vl3 n a false):=by kernel_rfl
def kk1 (n a b):vl3 (n+1) a b=j4 b (some 201) (j4 (a==13) (some 193) (j4 (a==14) (some 181) (j4 (a==15) (some 186) (j4 (a==16) (some 144) (j4 (decide (a>=17)) (j4 (decide (a<=27)) (some 218) (j4 (a==28) (some 128) (some 0))) (j4 (a==28) (some 128) (some 0))))))):=by kernel_rfl
def uq2:=okF wb2 func64
def wz1:KF:=⟨eN,0,[],[([O,I,O,I],qt [0,1,7,8])],f91,z0,[.val (.list (.int .i64)),.a1],[.a1]⟩
def qfq (n:Nat) (a:List Int) (b:Int):Option (Int):=tF wz1 n (a,b)
def ui1:=okF wz1 func91
def ww6:KF:=⟨cF ui1 eN,0,[],[],f65,z0,[.val (.list (.int .i64)),.a1],[.a8]⟩
def qdv (n:Nat) (a:List Int) (b:Int):Option (Bool):=tF ww6 n (a,b)
def up7 (n a b):qdv n a b=z8 (qfq v3 a b) fun c=>some (decide (c>=0)):=by kernel_rfl
def zab9:=okF ww6 func65
def ub2:KF:=⟨eN,0,[],[],f66,z0,[.a1,.a1,.a1],[.a8]⟩
def qcz (n:Nat) (a b c:Int):Option (Bool):=tF ub2 n (a,b,c)
def uw5 (n a b c):qcz n a b c=j4 (decide (a>=b)) (some (decide (a<=c))) (some false):=by kernel_rfl
def uw7:=okF ub2 func66
def qh6:KF:=⟨cF uq2 (cF zab9 (cF uw7 eN)),0,[(8,1)],[([I,I,I],qt [1,3,4]),([I,I,I,I],qt [1,3,4]),([O,I,I,I,I],qt [1,3,4,31]),([I,I,I,I,I],qt [1,3,4]),([O,I,I,I,I,I],qt [1,3,4,41]),([I,I,I,I,I,I],qt [1,3,4]),([I,I,I,I,I,I,I],qt [1,3,4]),([I,I,I,I,I,I,I,I],qt [1,3,4]),([I,I,I,I,I,I,I,I,I,I],qt [1,3,4,5]),([I,I,I,I,I,I,I,I,I,I,I],qt [1,3,4,5,6])],f33,z0,[.c3],[.a8]⟩
def qa (n:Nat) (a:Ins):Option (Bool):=tF qh6 n a
def gx9 (n:Nat) (r a:Int) (b:Bool) (c d:Int) (e:Bool) (f g h i:Int) (j:Bool) (k l:Int) (m:Bool) (o p q:Int):Option (Bool):=uF qh6 n [I,I,I] ⟨[(1,.ptr 0 0),(3,ci r),(4,.ptr 1 0)],[.k1 a b c d e f g h,.k1 i j k l m o p q]⟩
def kn3 (n:Nat) (s:Int) (r:Bool) (a:Int) (b:Bool) (c d:Int) (e:Bool) (f g h i:Int) (j:Bool) (k l:Int) (m:Bool) (o p q:Int):Option (Bool):=uF qh6 n [O,I,I,I,I] ⟨[(1,.ptr 0 0),(3,ci s),(4,.ptr 1 0),(31,cb r)],[.k1 a b c d e f g h,.k1 i j k l m o p q]⟩
def gy4 (n:Nat) (r a:Int) (b:Bool) (c d:Int) (e:Bool) (f g h i:Int) (j:Bool) (k l:Int) (m:Bool) (o p q:Int):Option (Bool):=uF qh6 n [I,I,I,I] ⟨[(1,.ptr 0 0),(3,ci r),(4,.ptr 1 0)],[.k1 a b c d e f g h,.k1 i j k l m o p q]⟩
def wb4 (n:Nat) (s:Int) (r:Bool) (a:Int) (b:Bool) (c d:Int) (e:Bool) (f g h i:Int) (j:Bool) (k l:Int) (m:Bool) (o p q:Int):Option (Bool):=uF qh6 n [O,I,I,I,I,I] ⟨[(1,.ptr 0 0),(3,ci s),(4,.ptr 1 0),(41,cb r)],[.k1 a b c d e f g h,.k1 i j k l m o p q]⟩
def gx7 (n:Nat) (r a:Int) (b:Bool) (c d:Int) (e:Bool) (f g h i:Int) (j:Bool) (k l:Int) (m:Bool) (o p q:Int):Option (Bool):=uF qh6 n [I,I,I,I,I] ⟨[(1,.ptr 0 0),(3,ci r),(4,.ptr 1 0)],[.k1 a b c d e f g h,.k1 i j k l m o p q]⟩
def wb1 (n:Nat) (r a:Int) (b:Bool) (c d:Int) (e:Bool) (f g h i:Int) (j:Bool) (k l:Int) (m:Bool) (o p q:Int):Option (Bool):=uF qh6 n [I,I,I,I,I,I] ⟨[(1,.ptr 0 0),(3,ci r),(4,.ptr 1 0)],[.k1 a b c d e f g h,.k1 i j k l m o p q]⟩
def wc3 (n:Nat) (r a:Int) (b:Bool) (c d:Int) (e:Bool) (f g h i:Int) (j:Bool) (k l:Int) (m:Bool) (o p q:Int):Option (Bool):=uF qh6 n [I,I,I,I,I,I,I] ⟨[(1,.ptr 0 0),(3,ci r),(4,.ptr 1 0)],[.k1 a b c d e f g h,.k1 i j k l m o p q]⟩
def wc9 (n:Nat) (r a:Int) (b:Bool) (c d:Int) (e:Bool) (f g h i:Int) (j:Bool) (k l:Int) (m:Bool) (o p q:Int):Option (Bool):=uF qh6 n [I,I,I,I,I,I,I,I] ⟨[(1,.ptr 0 0),(3,ci r),(4,.ptr 1 0)],[.k1 a b c d e f g h,.k1 i j k l m o p q]⟩
def wa3 (n:Nat) (r s a:Int) (b:Bool) (c d:Int) (e:Bool) (f g h i:Int) (j:Bool) (k l:Int) (m:Bool) (o p q:Int):Option (Bool):=uF qh6 n [I,I,I,I,I,I,I,I,I,I] ⟨[(1,.ptr 0 0),(3,ci r),(4,.ptr 1 0),(5,ci s)],[.k1 a b c d e f g h,.k1 i j k l m o p q]⟩
def vh0 (n:Nat) (r s:Int) (t:Bool) (a:Int) (b:Bool) (c d:Int) (e:Bool) (f g h i:Int) (j:Bool) (k l:Int) (m:Bool) (o p q:Int):Option (Bool):=uF qh6 n [I,I,I,I,I,I,I,I,I,I,I] ⟨[(1,.ptr 0 0),(3,ci r),(4,.ptr 1 0),(5,ci s),(6,cb t)],[.k1 a b c d e f g h,.k1 i j k l m o p q]⟩
def zaf6 (n a):qa n a=z8 (qcj v3 a.Op) fun b=>j4 ((g9 .i64 b 3) != 0) (gx9 n b a.Op a.Narrow a.Dst a.Src a.UseImm a.Off a.Imm a.Size a.Op false a.Dst 0 false 0 0 0) (gx9 n b a.Op a.Narrow a.Dst a.Src a.UseImm a.Off a.Imm a.Size a.Op false 0 0 false 0 0 0):=by kernel_rfl
def zu3 (n r b c d e a f g h i j k l m o p q):gx9 (n+1) r b c d e a f g h i j k l m o p q=j4 ((g9 .i64 r 4) != 0) (kn3 n r true b c d e a f g h i j k l m o p q) (j4 ((g9 .i64 r 8) != 0) (kn3 n r (!a) b c d e a f g h i j k l m o p q) (kn3 n r false b c d e a f g h i j k l m o p q)):=by kernel_rfl
def zu4 (n s r b c d a e f g h i j k q l m o p):kn3 (n+1) s r b c d a e f g h i j k q l m o p=j4 r (gy4 n s b c d a e f g h i j k a l m o p) (gy4 n s b c d a e f g h i j k q l m o p):=by kernel_rfl
def zv4 (n r b c d e a f g h i j k l m o p q):gy4 (n+1) r b c d e a f g h i j k l m o p q=j4 ((g9 .i64 r 8) != 0) (wb4 n r a b c d e a f g h i j k l m o p q) (wb4 n r false b c d e a f g h i j k l m o p q):=by kernel_rfl
def zv2 (n s r b c d e f g a h i j k l p m q o):wb4 (n+1) s r b c d e f g a h i j k l p m q o=j4 r (gx7 n s b c d e f g a h i j k l true m a o) (gx7 n s b c d e f g a h i j k l p m q o):=by kernel_rfl
def zt8 (n r b c d e f a g h i j k l m q o p):gx7 (n+1) r b c d e f a g h i j k l m q o p=j4 ((g9 .i64 r 16) != 0) (wb1 n r b c d e f a g h i j k l m a o p) (wb1 n r b c d e f a g h i j k l m q o p):=by kernel_rfl
def zu9 (n r b c d e f g h a i j k l m o p q):wb1 (n+1) r b c d e f g h a i j k l m o p q=j4 ((g9 .i64 r 32) != 0) (wc3 n r b c d e f g h a i j k l m o p a) (wc3 n r b c d e f g h a i j k l m o p q):=by kernel_rfl
def zu2 (n r b a c d e f g h i q j k l m o p):wc3 (n+1) r b a c d e f g h i q j k l m o p=j4 ((g9 .i64 r 64) != 0) (wc9 n r b a c d e f g h i a j k l m o p) (wc9 n r b a c d e f g h i q j k l m o p):=by kernel_rfl
def zu6 (n r a b c d e f g h i j k l m o p q):wc9 (n+1) r a b c d e f g h i j k l m o p q=j4 ((g9 .i64 r 1) != 0) (wa3 n r 9 a b c d e f g h i j k l m o p q) (wa3 n r 10 a b c d e f g h i j k l m o p q):=by kernel_rfl
def zt7 (n r s b c d e f g h a i j k l m o p q):wa3 (n+1) r s b c d e f g h a i j k l m o p q=j4 ((g9 .i64 r 32)==0) (vh0 n r s true b c d e f g h a i j k l m o p q) (z8 (qdv v3 ([1,2,4,8]:List Int) a) fun t=>vh0 n r s t b c d e f g h a i j k l m o p q):=by kernel_rfl
def gb6 (n r s t e f a b g c d h i j k l m o p q):vh0 (n+1) r s t e f a b g c d h i j k l m o p q=j4 (r != 0) (j4 ((e==i)&&((f==j)&&((a==k)&&((b==l)&&((g==m)&&((c==o)&&((d==p)&&(h==q)))))))) (z8 (qcz v3 a 0 s) fun u=>j4 u (z8 (qcz v3 b 0 10) fun v=>j4 v (z8 (qcz v3 c (-32768:Int) 32767) fun w=>j4 w (z8 (qcz v3 d (-2147483648:Int) 2147483647) fun x=>j4 x (some t) (some false)) (some false)) (some false)) (some false)) (some false)) (some false):=by kernel_rfl
def wt4:=okF qh6 func33
def wq3:KF:=⟨eN,0,[],[],f32,z0,[.a8,.a1],[.a1]⟩
def qcc (n:Nat) (a:Bool) (b:Int):Option (Int):=tF wq3 n (a,b)
def um6 (n a b):qcc n a b=j4 a (some b) (some 0):=by kernel_rfl
def qq8:=okF wq3 func32
def wq4:KG:=⟨cF wt4 (cF qq8 eN),1,[],[],f31,n0,[.a1,.ptr 0 22 [.b1]],[.blk 22 [.b1]],[.a1]⟩
def qdw (n:Nat) (a:Int) (b:List Ins):Option u19:=tG wq4 n (a,(b,()),())
def ux6 (n a b):qdw n a b=if 0<=a/\a<(b.length:Int) then (z8 (qa v3 (b.getD a.toNat za1)) fun c=>z8 (qcc v3 (!c) 4) fun d=>some (((b,()),()),(d,()))) else none:=by kernel_rfl
def uf9:=okG wq4 func31
def wx4:KF:=⟨eN,0,[],[],f35,z0,[.c3],[.a8]⟩
def qdb (n:Nat) (a:Ins):Option (Bool):=tF wx4 n a
def ul9 (n a):qdb n a=j4 (decide (a.Op>=16)) (some (decide (a.Op<=27))) (some false):=by kernel_rfl
def gl7:=okF wx4 func35
def ua6:KG:=⟨cF gl7 (cF qq8 eN),1,[],[],f34,n0,[.a1,.ptr 0 22 [.b1]],[.blk 22 [.b1]],[.a1]⟩
def qdx (n:Nat) (a:Int) (b:List Ins):Option u19:=tG ua6 n (a,(b,()),())
def uf2 (n a b):qdx n a b=if 0<=a/\a<(b.length:Int) then (if 0<=a/\a<(b.length:Int) then (z8 (qdb v3 (b.getD a.toNat za1)) fun c=>j4 (!c) (some (((b,()),()),(0,()))) (j4 (decide ((IntKind.i64.wrap ((IntKind.i64.wrap (a+1))+((b.getD a.toNat za1).Off)))<=a)) (some (((b,()),()),(100,()))) (z8 (qcc v3 (decide ((IntKind.i64.wrap ((IntKind.i64.wrap (a+1))+((b.getD a.toNat za1).Off)))>=(b.length:Int))) 101) fun d=>some (((b,()),()),(d,()))))) else none) else none:=by kernel_rfl
def ui0:=okG ua6 func34
def uc1:KG:=⟨cF qq8 eN,1,[],[],f36,n0,[.a1,.ptr 0 22 [.b1]],[.blk 22 [.b1]],[.a1]⟩
def qdy (n:Nat) (a:Int) (b:List Ins):Option u19:=tG uc1 n (a,(b,()),())
def zac7 (n b a):qdy n b a=j4 (b==(IntKind.i64.wrap ((a.length:Int)-1))) (if 0<=b/\b<(a.length:Int) then (j4 (((a.getD b.toNat za1).Op) != 28) (if 0<=b/\b<(a.length:Int) then (z8 (qcc v3 (((a.getD b.toNat za1).Op) != 16) 102) fun c=>some (((a,()),()),(c,()))) else none) (z8 (qcc v3 false 102) fun d=>some (((a,()),()),(d,())))) else none) (z8 (qcc v3 false 102) fun e=>some (((a,()),()),(e,()))):=by kernel_rfl
def uh8:=okG uc1 func36
def wz4:ByteArray:=⟨#[0,1,2,2,3,3,3,3,4,4,4,4,4,4,4,4,5,5,5,5,5,5,5,5,5,5,5,5,5,5,5,5,6,6,6,6,6,6,6,6,6,6,6,6,6,6,6,6,6,6,6,6,6,6,6,6,6,6,6,6,6,6,6,6,7,7,7,7,7,7,7,7,7,7,7,7,7,7,7,7,7,7,7,7,7,7,7,7,7,7,7,7,7,7,7,7,7,7,7,7,7,7,7,7,7,7,7,7,7,7,7,7,7,7,7,7,7,7,7,7,7,7,7,7,7,7,7,7,8,8,8,8,8,8,8,8,8,8,8,8,8,8,8,8,8,8,8,8,8,8,8,8,8,8,8,8,8,8,8,8,8,8,8,8,8,8,8,8,8,8,8,8,8,8,8,8,8,8,8,8,8,8,8,8,8,8,8,8,8,8,8,8,8,8,8,8,8,8,8,8,8,8,8,8,8,8,8,8,8,8,8,8,8,8,8,8,8,8,8,8,8,8,8,8,8,8,8,8,8,8,8,8,8,8,8,8,8,8,8,8,8,8,8,8,8,8,8,8,8,8,8,8,8,8,8,8]⟩
def vj5:KF:=⟨eN,0,[],[([I],qt [0,2]),([I,I],qt [0,2]),([I,I,I],qt [0,2])],f129,z0,[.a2],[.a1]⟩
def qab (n:Nat) (a:Int):Option (Int):=tF vj5 n a
def qo0 (n:Nat) (a b:Int):Option (Int):=uF vj5 n [I] ⟨[(0,zd7 a),(2,ci b)],[]⟩
def qp6 (n:Nat) (a b:Int):Option (Int):=uF vj5 n [I,I] ⟨[(0,zd7 a),(2,ci b)],[]⟩
def qq0 (n:Nat) (a b:Int):Option (Int):=uF vj5 n [I,I,I] ⟨[(0,zd7 a),(2,ci b)],[]⟩
def ue4 (n a):qab n a=j4 (decide (a>=4294967296)) (qo0 n (za6 .u64 a 32) 32) (qo0 n a 0):=by kernel_rfl
def vz8 (n a b):qo0 (n+1) a b=j4 (decide (a>=65536)) (qp6 n (za6 .u64 a 16) (IntKind.i64.wrap (b+16))) (qp6 n a b):=by kernel_rfl
def kb5 (n a b):qp6 (n+1) a b=j4 (decide (a>=256)) (qq0 n (za6 .u64 a 8) (IntKind.i64.wrap (b+8))) (qq0 n a b):=by kernel_rfl
def kd0 (n a b):qq0 (n+1) a b=jh9 wz4 (IntKind.u8.wrap a) fun c=>some (IntKind.i64.wrap (b+(IntKind.i64.wrap c))):=by kernel_rfl
def gn3:=okF vj5 func129
def ww1:KF:=⟨cF gn3 eN,0,[],[],f93,z0,[.a2],[.a1]⟩
def qft (n:Nat) (a:Int):Option (Int):=tF ww1 n a
def gk7:=okF ww1 func93
def wp3:KF:=⟨eN,0,[],[],f178,z0,[.a1],[.a8]⟩
def qdz (n:Nat) (a:Int):Option (Bool):=tF wp3 n a
def ur8 (n a):qdz n a=some (a != a):=by kernel_rfl
def uu7:=okF wp3 func178
def wx0:KF:=⟨cF uu7 eN,0,[],[],f125,z0,[.a1,.a1],[.a8]⟩
def qdp (n:Nat) (a b:Int):Option (Bool):=tF wx0 n (a,b)
def uk1 (n a b):qdp n a b=z8 (qdz v3 a) fun c=>j4 c (z8 (qdz v3 b) fun d=>j4 (!d) (some true) (some (decide (a<b)))) (some (decide (a<b))):=by kernel_rfl
def gj1:=okF wx0 func125
def ua7:KF:=⟨cF gj1 eN,1,[(6,1)],[([O,I],qt [0,1,2,6]),([O,I,O,O,I,O,O,I],qt [0,1,2,6,7]),([O,O,O,I,O,O,I,O,O,I],qt [0,1,2,6,7,30])],f119,z0,[.io 3 (.int .i64),.a1,.a1],[]⟩
def qfo (n:Nat) (a:List Int) (b c:Int):Option u11:=tF ua7 n (a,b,c)
def gp6:=okF ua7 func119
def wq6:KF:=⟨cF gp6 eN,1,[],[([O,I,I],qt [0,1,2,3,8,9]),([I,I,I,O,O,O,I,I],qt [0,1,2,3,8,9,10])],f92,z0,[.io 3 (.int .i64),.a1,.a1,.a1],[]⟩
def qfu (n:Nat) (a:List Int) (b c d:Int):Option u11:=tF wq6 n (a,b,c,d)
def go8:=okF wq6 func92
def wy7:KF:=⟨cF gk7 (cF go8 eN),1,[],[],f67,z0,[.io 3 (.int .i64)],[]⟩
def qfk (n:Nat) (a:List Int):Option u11:=tF wy7 n a
def uq6:=okF wy7 func67
def ws2:KG:=⟨cF gj1 eN,1,[(6,1)],[([O,I],qt [0,1,2,6]),([O,I,O,O,I,O,O,I],qt [0,1,2,6,7]),([O,O,O,I,O,O,I,O,O,I],qt [0,1,2,6,7,30])],f119,n0,[.slr 3 (.int .i64),.a1,.a1],[.d9],[]⟩
def qfv (n:Nat) (a:List Int) (b c:Nat) (d e:Int):Option (u11×Unit):=tG ws2 n ((a,b,c),d,e,())
def ue8:=okG ws2 func119
def uc4:KG:=⟨cE (zb4 ue8 (zc9 gp6)) eN,1,[],[([O,I,I],qt [0,1,2,3,8,9]),([I,I,I,O,O,O,I,I],qt [0,1,2,3,8,9,10])],f92,n0,[.slr 3 (.int .i64),.a1,.a1,.a1],[.d9],[]⟩
def qfw (n:Nat) (a:List Int) (b c:Nat) (d e f:Int):Option (u11×Unit):=tG uc4 n ((a,b,c),d,e,f,())
def ul1:=okG uc4 func92
def wr5:KG:=⟨cF gk7 (cE (zb4 ul1 (zc9 go8)) eN),1,[],[],f67,n0,[.slr 3 (.int .i64)],[.d9],[]⟩
def qfr (n:Nat) (a:List Int) (b c:Nat):Option (u11×Unit):=tG wr5 n ((a,b,c),())
def uu9:=okG wr5 func67
def uc8:KG:=⟨eN,1,[],[([O,I,O,I,I],qt [0,3]),([O,I,O,I,O,I,O,O,I,O,O,I,O,I,I],qt [0,3,4,5]),([I,O,O,I,O,I,O,I,O,O,I,O,O,I,O,I,I],qt [0,3,4,5])],f68,n0,[.slr 3 (.int .i64)],[.d9],[.part 0 1]⟩
def qfs (n:Nat) (a:List Int) (b c:Nat):Option (u11×((Nat×Nat)×Unit)):=tG uc8 n ((a,b,c),())
def zad1:=okG uc8 func68
def ud1:KG:=⟨eN,1,[],[([O,I,O,I,I],qt [0,3]),([O,I,O,I,O,I,O,O,I,O,O,I,O,I,I],qt [0,3,4,5]),([I,O,O,I,O,I,O,I,O,O,I,O,O,I,O,I,I],qt [0,3,4,5])],f68,⟨[],[0],[],[],[]⟩,[.d9],[.d9],[.part 0 1]⟩
def qfp (n:Nat) (a:List Int):Option (u11×((Nat×Nat)×Unit)):=tG ud1 n (a,())
def ui5:=okG ud1 func68
def kl1:KG:=⟨cF wt4 (cF gl7 (cE (zb4 uu9 (zc9 uq6)) (cE (zb4 ui5 (zb4 zad1 (v7 68))) eN))),0,[],[([O,I],qt [0,1,29]),([I,I,I],qt [0,1,5])],f38,⟨[(0,3,.int .i64,false)],[],[],[],[]⟩,[.b1,.a1],[],[.slr 3 (.int .i64)]⟩
abbrev vm2:=Option (Unit×((List Int×Nat×Nat)×Unit))
def qam (n:Nat) (a:List Ins) (b:Int):vm2:=tG kl1 n (a,b,())
def jl1 (n:Nat) (b:List Ins) (c:Int) (a:Bool):vm2:=uG kl1 n [O,I] ⟨[(0,.cell ⟨.list (.user 2),b⟩),(1,ci c),(29,cb a)],[]⟩
def vl5 (n:Nat) (a:List Ins) (b:Int) (c:List Int):vm2:=uG kl1 n [I,I,I] ⟨[(0,.cell ⟨.list (.user 2),a⟩),(1,ci b),(5,.own 0)],[.row 3 (.int .i64) c]⟩
def zab7 (n b a):qam n b a=j4 (decide (a<0)) (jl1 n b a true) (j4 (decide (a>=(b.length:Int))) (jl1 n b a true) (if 0<=a/\a<(b.length:Int) then (z8 (qa v3 (b.getD a.toNat za1)) fun c=>j4 (!c) (jl1 n b a true) (if 0<=a/\a<(b.length:Int) then (jl1 n b a (((b.getD a.toNat za1).Op)==28)) else none)) else none)):=by kernel_rfl
def kd9 (n b a c):jl1 (n+1) b a c=j4 c (some ((),((([]:List Int),0,0),()))) (if 0<=a/\a<(b.length:Int) then (z8 (qdb v3 (b.getD a.toNat za1)) fun d=>j4 d (if 0<=a/\a<(b.length:Int) then (vl5 n b a ([IntKind.i64.wrap (a+1),IntKind.i64.wrap ((IntKind.i64.wrap (a+1))+((b.getD a.toNat za1).Off))]:List Int)) else none) (vl5 n b a ([IntKind.i64.wrap (a+1)]:List Int))) else none):=by kernel_rfl
def ki2 (n c b a):vl5 (n+1) c b a=if 0<=b/\b<((c.length:Nat):Int) then (j4 (((c.getD b.toNat za1).Op)==(16:Int)) (if 0<=(1:Int)/\(1:Int)<=((a.length:Nat):Int)/\((a.length:Nat):Int)<=((a.length:Nat):Int) then (z8 (qfr v3 a 1 ((((a.length:Nat):Int).toNat)-1)) fun f=>z8 (qfs v3 f.1.1 1 ((((a.length:Nat):Int).toNat)-1)) fun d=>some ((),((d.1.1,d.2.1.1,d.2.1.2),()))) else none) (z8 (qfk v3 a) fun g=>z8 (qfp v3 g.1) fun e=>some ((),((e.1.1,e.2.1.1,e.2.1.2),())))) else none:=by kernel_rfl
def uh1:=okG kl1 func38
def kp8:KG:=⟨cG uh1 (cF qq8 eN),3,[(4,1)],[([O,I,O,I],qt [0,2,9,10,11]),([I,I,O,O,I,O,I],qt [0,2,9,10,11])],f37,n0,[.a1,.ptr 0 22 [.b1],.ptr 0 35 [.c7]],[.blk 22 [.b1],.blk 35 [.own 2],.c7],[.a1]⟩
abbrev vo6:=Option (((List Ins×Unit)×u4×List Bool×Unit)×u1)
def qae (n:Nat) (a:Int) (b:List Ins) (c:List Bool):vo6:=tG kp8 n (a,(b,()),(c,()),())
def yx3 (n:Nat) (f:Int) (b c:Nat) (d e:Int) (a:List Ins) (g:List Bool) (h:List Int):vo6:=uG kp8 n [O,I,O,I] ⟨[(0,ci f),(2,.ptr 1 0),(9,.sl 3 1 b c),(10,ci d),(11,ci e)],[.k16 a,.blk 35 [.own 2],.k8 g,.row 3 (.int .i64) h]⟩
def vr0 (n:Nat) (f:Int) (b c:Nat) (d e:Int) (a:List Ins) (g:List Bool) (h:List Int):vo6:=uG kp8 n [I,I,O,O,I,O,I] ⟨[(0,ci f),(2,.ptr 1 0),(9,.sl 3 1 b c),(10,ci d),(11,ci e)],[.k16 a,.blk 35 [.own 2],.k8 g,.row 3 (.int .i64) h]⟩
def uf1 (n b c d):qae n b c d=z8 (qam v3 c b) fun a=>yx3 n b a.2.1.2.1 a.2.1.2.2 (a.2.1.2.2:Int) 0 c d a.2.1.1:=by kernel_rfl
def qh7 (n f b g h a c e d):yx3 (n+1) f b g h a c e d=j4 (decide (a<h)) (if 0<=a/\a<(g:Int) then (if b+a.toNat<d.length then (if 0<=d.getD (b+a.toNat) 0/\d.getD (b+a.toNat) 0<(e.length:Int) then (j4 (e.getD ((d.getD (b+a.toNat) 0).toNat) false) (if 0<=d.getD (b+a.toNat) 0/\d.getD (b+a.toNat) 0<(e.length:Int) then (vr0 n f b g h a c (e.set ((d.getD (b+a.toNat) 0).toNat) true) d) else none) (if 0<=f/\f<(e.length:Int) then (if 0<=d.getD (b+a.toNat) 0/\d.getD (b+a.toNat) 0<(e.length:Int) then (vr0 n f b g h a c (e.set ((d.getD (b+a.toNat) 0).toNat) (e.getD f.toNat false)) d) else none) else none)) else none) else none) else none) (if 0<=f/\f<(e.length:Int) then (z8 (qcc v3 (!(e.getD f.toNat false)) 103) fun i=>some (((c,()),((),()),e,()),(i,()))) else none):=by kernel_rfl
def qc6 (n f b c d e a g h):vr0 (n+1) f b c d e a g h=yx3 n f b c d (IntKind.i64.wrap (e+1)) a g h:=by kernel_rfl
def ut6:=okG kp8 func37
def gu7:KG:=⟨cG uf9 (cG ui0 (cG uh8 (cG ut6 eN))),4,[],[([O,I,O,I],⟨[0,4,9,10,11],[],true,[],0,false⟩),([O,I,I,O,O,I,I,O,O,I,O,I],qt [0,4,6,9,10,11,15,16])],f30,n0,[.a1,.slb 1 4 94 [.fn 31 [] [.ptr 0 22 [.b1]],.fn 34 [] [.at_ 1 0],.fn 36 [] [.at_ 1 0],.fn 37 [] [.at_ 1 0,.ptr 0 35 [.c7]]]],[.blk 94 [.fn 31 [] [.at_ 1 0],.fn 34 [] [.at_ 1 0],.fn 36 [] [.at_ 1 0],.fn 37 [] [.at_ 1 0,.at_ 2 0]],.blk 22 [.b1],.blk 35 [.own 3],.c7],[.d6]⟩
abbrev vh4:=Option ((((Unit×u4)×(Unit×u4)×(Unit×u4)×(Unit×(Unit×Unit×Unit))×Unit)×(List Ins×Unit)×u4×List Bool×Unit)×(Fault×Unit))
def qg (n:Nat) (a:Int) (b:List Ins) (c:List Bool):vh4:=tG gu7 n (a,(((),((b,()),())),((),((),())),((),((),())),((),((),(c,()),())),()),())
def jq4 (n:Nat) (f d e:Int) (a:List Ins) (g:List Bool) (b c:Int):vh4:=uG gu7 n [O,I,I,O,O,I,I,O,O,I,O,I] ⟨[(0,ci f),(4,.ptr 4 0),(6,.fn (.func 31) [] [.ptr 1 0]),(9,.sl 0 1 0 4),(10,.cell ⟨.int .i64,(4:Int)⟩),(11,.cell ⟨.int .i64,(0:Int)⟩),(15,ci d),(16,ci e)],[.b4,.k16 a,.blk 35 [.own 3],.k8 g,.k17 b c]⟩
def yt8 (n:Nat) (f d e:Int) (a:List Ins) (g:List Bool) (b c:Int):vh4:=uG gu7 n [O,I,I,O,O,I,I,O,O,I,O,I] ⟨[(0,ci f),(4,.ptr 4 0),(6,.fn (.func 34) [] [.ptr 1 0]),(9,.sl 0 1 0 4),(10,.cell ⟨.int .i64,(4:Int)⟩),(11,.cell ⟨.int .i64,(1:Int)⟩),(15,ci d),(16,ci e)],[.b4,.k16 a,.blk 35 [.own 3],.k8 g,.k17 b c]⟩
def ys9 (n:Nat) (f d e:Int) (a:List Ins) (g:List Bool) (b c:Int):vh4:=uG gu7 n [O,I,I,O,O,I,I,O,O,I,O,I] ⟨[(0,ci f),(4,.ptr 4 0),(6,.fn (.func 36) [] [.ptr 1 0]),(9,.sl 0 1 0 4),(10,.cell ⟨.int .i64,(4:Int)⟩),(11,.cell ⟨.int .i64,(2:Int)⟩),(15,ci d),(16,ci e)],[.b4,.k16 a,.blk 35 [.own 3],.k8 g,.k17 b c]⟩
def yt6 (n:Nat) (f d e:Int) (a:List Ins) (g:List Bool) (b c:Int):vh4:=uG gu7 n [O,I,I,O,O,I,I,O,O,I,O,I] ⟨[(0,ci f),(4,.ptr 4 0),(6,.fn (.func 37) [] [.ptr 1 0,.ptr 2 0]),(9,.sl 0 1 0 4),(10,.cell ⟨.int .i64,(4:Int)⟩),(11,.cell ⟨.int .i64,(3:Int)⟩),(15,ci d),(16,ci e)],[.b4,.k16 a,.blk 35 [.own 3],.k8 g,.k17 b c]⟩
def zaf5 (n a b c):qg (n+1) a b c=jq4 n a a 0 b c 0 0:=by kernel_rfl
def jw4 (n f e a b g c d):jq4 (n+2) f e a b g c d=j4 (decide (a<e)) (z8 (qdw v3 a b) fun h=>j4 (h.2.1 != 0) (some (((((),((),())),((),((),())),((),((),())),((),((),(),())),()),(h.1.1.1,()),((),()),g,()),((⟨h.2.1,a⟩:Fault),()))) (jq4 (n+1) f e (IntKind.i64.wrap (a+1)) h.1.1.1 g c d)) (yt8 n f f 0 b g c d):=by kernel_rfl
def jf3 (n f e a b g c d):yt8 (n+2) f e a b g c d=j4 (decide (a<e)) (z8 (qdx v3 a b) fun h=>j4 (h.2.1 != 0) (some (((((),((),())),((),((),())),((),((),())),((),((),(),())),()),(h.1.1.1,()),((),()),g,()),((⟨h.2.1,a⟩:Fault),()))) (yt8 (n+1) f e (IntKind.i64.wrap (a+1)) h.1.1.1 g c d)) (ys9 n f f 0 b g c d):=by kernel_rfl
def jd3 (n f e a b g c d):ys9 (n+2) f e a b g c d=j4 (decide (a<e)) (z8 (qdy v3 a b) fun h=>j4 (h.2.1 != 0) (some (((((),((),())),((),((),())),((),((),())),((),((),(),())),()),(h.1.1.1,()),((),()),g,()),((⟨h.2.1,a⟩:Fault),()))) (ys9 (n+1) f e (IntKind.i64.wrap (a+1)) h.1.1.1 g c d)) (yt6 n f f 0 b g c d):=by kernel_rfl
def je1 (n h e a b g c d):yt6 (n+2) h e a b g c d=j4 (decide (a<e)) (z8 (qae v3 a b g) fun f=>j4 (f.2.1 != 0) (some (((((),((),())),((),((),())),((),((),())),((),((),(),())),()),(f.1.1.1,()),((),()),f.1.2.2.1,()),((⟨f.2.1,a⟩:Fault),()))) (yt6 (n+1) h e (IntKind.i64.wrap (a+1)) f.1.1.1 f.1.2.2.1 c d)) (some (((((),((),())),((),((),())),((),((),())),((),((),(),())),()),(b,()),((),()),g,()),((⟨0,0⟩:Fault),()))):=by kernel_rfl
def zag6:=okG gu7 func30
def gw9:KF:=⟨cG zag6 eN,0,[],[],f16,z0,[.b1],[.d6]⟩
def qdq (n:Nat) (a:List Ins):Option (Fault):=tF gw9 n a
def um2 (n a):qdq n a=j4 (((a.length:Nat):Int)==(0:Int)) (some (⟨(6:Int),(0:Int)⟩:Fault)) (j4 (decide (((a.length:Nat):Int)>(4096:Int))) (some (⟨(3:Int),(0:Int)⟩:Fault)) (if 0<=((a.length:Nat):Int)/\((a.length:Nat):Int)<=((a.length:Nat):Int)/\1*(((a.length:Nat):Int).toNat)<=281474976710656/\((a.length:Nat):Int)<=9223372036854775807 then (if 0<=(0:Int)/\(0:Int)<(((List.replicate (((a.length:Nat):Int).toNat) false).length:Nat):Int) then (z8 (qg v3 ((a.length:Nat):Int) a ((List.replicate (((a.length:Nat):Int).toNat) false).set 0 true)) fun b=>some b.2.1) else none) else none)):=by kernel_rfl
def ut9:=okF gw9 func16
end
end Go.X
