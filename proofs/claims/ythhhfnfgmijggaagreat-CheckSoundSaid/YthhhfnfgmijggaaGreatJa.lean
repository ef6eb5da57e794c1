import Derived.Test.YthhhfnfgmijggaaGreatIp
set_option linter.defProp false
namespace Go.X
open Go.RowKit Go.V Go.Proofs Tryz
noncomputable section
def ub4:KF:=⟨eN,0,[],[],f117,z0,[.b5,.a8,.a8],[.a9,.a1]⟩
def qgc (n:Nat) (a b c:Int):Option (Bool×Int):=tF ub4 n (a,b,c)
def zag5 (n a b c):qgc n a b c=z9 (a==17) (some (b==c,0)) (z9 (a==18) (some (b != c,0)) (z9 (a==19) (some (decide (b>c),0)) (z9 (a==20) (some (decide (b>=c),0)) (z9 (a==21) (some (decide (b<c),0)) (z9 (a==22) (some (decide (b<=c),0)) (z9 (a==23) (some (decide ((IntKind.i32.wrap b)>(IntKind.i32.wrap c)),0)) (z9 (a==24) (some (decide ((IntKind.i32.wrap b)>=(IntKind.i32.wrap c)),0)) (z9 (a==25) (some (decide ((IntKind.i32.wrap b)<(IntKind.i32.wrap c)),0)) (z9 (a==26) (some (decide ((IntKind.i32.wrap b)<=(IntKind.i32.wrap c)),0)) (z9 (a==27) (some ((w9 .u32 b c) != 0,0)) (some (false,2)))))))))))):=by kernel_rfl
def zag6:=okF ub4 func117
def ub5:KF:=⟨eN,0,[],[],f118,z0,[.b5,.a2,.a2],[.a9,.a1]⟩
def qgd (n:Nat) (a b c:Int):Option (Bool×Int):=tF ub5 n (a,b,c)
def zag7 (n a b c):qgd n a b c=z9 (a==17) (some (b==c,0)) (z9 (a==18) (some (b != c,0)) (z9 (a==19) (some (decide (b>c),0)) (z9 (a==20) (some (decide (b>=c),0)) (z9 (a==21) (some (decide (b<c),0)) (z9 (a==22) (some (decide (b<=c),0)) (z9 (a==23) (some (decide ((IntKind.i64.wrap b)>(IntKind.i64.wrap c)),0)) (z9 (a==24) (some (decide ((IntKind.i64.wrap b)>=(IntKind.i64.wrap c)),0)) (z9 (a==25) (some (decide ((IntKind.i64.wrap b)<(IntKind.i64.wrap c)),0)) (z9 (a==26) (some (decide ((IntKind.i64.wrap b)<=(IntKind.i64.wrap c)),0)) (z9 (a==27) (some ((w9 .u64 b c) != 0,0)) (some (false,2)))))))))))):=by kernel_rfl
def zag8:=okF ub5 func118
def wx1:KF:=⟨cF zag6 (cF zag8 eN),0,[],[],f90,z0,[.b5,.a9,.a2,.a2],[.a9,.a1]⟩
def qel (n:Nat) (a:Int) (b:Bool) (c d:Int):Option (Bool×Int):=tF wx1 n (a,b,c,d)
def zaa5 (n a d b c):qel n a d b c=z9 d (z6 (qgc v3 a (IntKind.u32.wrap b) (IntKind.u32.wrap c)) fun e=>some (e.1,e.2)) (z6 (qgd v3 a b c) fun f=>some (f.1,f.2)):=by kernel_rfl
def zaa6:=okF wx1 func90
def ww4:KG:=⟨eN,0,[],[],f171,n0,[],[],[.arr (.bool) 9]⟩
def qds (n:Nat):Option (Unit×u8):=tG ww4 n ()
def ux0 (n):qds n=some ((),(([O,I,I,O,I,O,O,O,I]:List Bool),())):=by kernel_rfl
def gq3:=okG ww4 func171
def qo9:KP:=⟨⟨cG gq3 eN,0,[],[([I],qt [0,1,2]),([O,I],qt [0,1,2,19])],f114,n0,[.c1,.a1,.a1],[],[]⟩,.ifc 26 (.val (.int .i64))⟩
abbrev vo1:=Option (Unit×u18)
def qaf (n:Nat) (a:List Int) (b c:Int):vo1:=tP qo9 n (a,b,c,())
def jx7 (n:Nat) (b:List Int) (c d:Int) (a:Bool):vo1:=uP qo9 n [O,I] ⟨[(0,.cell ⟨.list (.int .u8),b⟩),(1,ci c),(2,ci d),(19,cb a)],[]⟩
def gk6 (n:Nat) (a:List Int) (b c:Int):vo1:=uP qo9 n [I] ⟨[(0,.cell ⟨.list (.int .u8),a⟩),(1,ci b),(2,ci c)],[]⟩
def uk7 (n b c a):qaf n b c a=z6 (qds v3) fun d=>z9 (decide (a<0)) (jx7 n b c a true) (z9 (decide (a>=9)) (jx7 n b c a true) (if 0<=a/\a<(9:Int) then (jx7 n b c a (!(d.2.1.getD a.toNat false))) else none)):=by kernel_rfl
def kf8 (n b c d a):jx7 (n+1) b c d a=z9 a (some ((),.inr (2,()))) (gk6 n b c d):=by kernel_rfl
def kf7 (n b a c):gk6 (n+1) b a c=z9 (decide (a<0)) (some ((),.inr (112,()))) (z9 (decide (a>(IntKind.i64.wrap ((b.length:Int)-c)))) (some ((),.inr (112,()))) (some ((),.inl ()))):=by kernel_rfl
def gk7:=okP qo9 func114
def kp7:KG:=⟨eN,0,[],[],f115,n0,[.a1,.a1],[],[.fn 172 [] [.d1,.c9]]⟩
def qda (n:Nat) (a b:Int):Option (Unit×((Unit×(u1×u1×Unit))×Unit)):=tG kp7 n (a,b,())
def go9 (n a b):qda n a b=some ((),(((),((b,()),(a,()),())),())):=by kernel_rfl
def gp0:=okG kp7 func115
def qal_C:Ctx TT:=⟨yk9,[(114,(sP qo9).toCall (za8 TT)),(115,(sG kp7).toCall (za8 TT))],4,[(4,1)],zo5,yk6⟩
def wj5:zb4 TT prog qal_C.E:=zn0 (za9 gk7 (q7 114)) (zn0 (v9 gp0 (q7 115)) (zh9))
def vo8:RfP TT:=⟨2,172,(wq9 3 2),[12,0,3]⟩
def qal (a:List Int) (b c d:Int):Option ((u9×u1×u1×u1×Unit)×u18):=topR TT prog qal_C f113 (w5 f113) ⟨[],[],[],[],[]⟩ [.ptr 0 23 [.c1],.c9,.d1,.b6] [.blk 23 [.c1],.d4,.d5,.b9] [] (.ifc 26 (.val (.int .i64))) vo8 ((a,()),(b,()),(c,()),(d,()),())
def jx8 (m k:Nat) (a:List Int) (b:Int) (c:Int) (d:Int) (e:Int) (f:Int):Option ((u9×u1×u1×u1×Unit)×u18):=vy3 TT prog qal_C f113 (w5 f113) ⟨[],[],[],[],[]⟩ [.blk 23 [.c1],.d4,.d5,.b9] [] (.ifc 26 (.val (.int .i64))) vo8 [.ptr 4 0,.ptr 5 0] m k (⟨[(12,.fn (.func 172) [] [.ptr 4 0,.ptr 5 0]),(0,.ptr 0 0),(3,.ptr 3 0)],[.blk 23 [.cell ⟨.list (.int .u8),a⟩],.blk 2 [.cell ⟨.int .i64,b⟩],.blk 3 [.cell ⟨.int .i64,c⟩],.blk 49 [.cell ⟨.int .u64,d⟩],.blk 3 [.cell ⟨.int .i64,e⟩],.blk 2 [.cell ⟨.int .i64,f⟩]]⟩:St TT)
def qt9 (k a b c d e f):jx8 0 k a b c d e f=some (((a,()),(b,()),(c,()),(d,()),()),.inl ()):=by kernel_rfl
def qt8 (m k b d e f c a):jx8 (m+1) k b d e f c a=if 0<=IntKind.i64.wrap (a+(k:Int))/\IntKind.i64.wrap (a+(k:Int))<(b.length:Int) then (if IntKind.i64.wrap (8*IntKind.i64.wrap (IntKind.i64.wrap (c-1)-(k:Int)))<0 then none else (jx8 m (k+1) b d e (bOr .u64 f (yd6 .u64 (IntKind.u64.wrap (b.getD ((IntKind.i64.wrap (a+(k:Int))).toNat) 0)) (IntKind.i64.wrap (8*IntKind.i64.wrap (IntKind.i64.wrap (c-1)-(k:Int)))))) c a)) else none:=by kernel_rfl
def ul6 (c a b e):qal c a b e=z6 (qaf v3 c a b) fun f=>match f.2 with| .inl h=>(z6 (qda v3 a b) fun d=>match z9 (decide (d.2.1.2.1.1<=8)) (some d.2.1.2.1.1.toNat) none with|some N=>jx8 N 0 c a b e d.2.1.2.1.1 d.2.1.2.2.1.1|none=>none)| .inr g=>(some (((c,()),(a,()),(b,()),(e,()),()),.inr (g.1,()))):=by kernel_rfl
def qal_sp:PSpec TT:=⟨[.ptr 0 23 [.c1],.c9,.d1,.b6],[.blk 23 [.c1],.d4,.d5,.b9],[],.ifc 26 (.val (.int .i64)),fun x=>qal x.1.1 x.2.1.1 x.2.2.1.1 x.2.2.2.1.1⟩
def ul7:POk TT prog 113 qal_sp:=vv6 (C:=qal_C) (D:=vo8) (by kernel_rfl) wj5 func113 (show f113.body=some (w5 f113) by kernel_rfl) (by kernel_rfl) (by kernel_rfl) (by kernel_rfl) qe1 fun x y h=>h
def qbx_C:Ctx TT:=⟨yk9,[],1,[],zo5,yk6⟩
def wk8:zb4 TT prog qbx_C.E:=zh9
def qbx (a:Int):Option u20:=yj8 prog qbx_C f170 (w5 f170) [.d7] (.rw 1) [.d9] ((a,()),(),())
def go0 (a):qbx a=some ((a,()),()):=by kernel_rfl
def ql2:DSpec TT:=⟨[.d7],.rw 1,[.d9],fun x=>qbx x.1.1⟩
def vw4:DOk TT prog 170 ql2:=zx9 (C:=qbx_C) (by kernel_rfl) wk8 func170 (show f170.body=some (w5 f170) by kernel_rfl) (by kernel_rfl) (by kernel_rfl) (by kernel_rfl) (by kernel_rfl) fun x y h=>h
def qby_C:Ctx TT:=⟨yk9,[],1,[],zo5,yk6⟩
def wk9:zb4 TT prog qby_C.E:=zh9
def qby (a b:Int):Option u20:=yj8 prog qby_C f170 (w5 f170) [.d7] (.ifc 26 (.val (.int .i64))) [.d9] ((a,()),b,())
def go1 (b a):qby b a=some ((a,()),()):=by kernel_rfl
def ql3:DSpec TT:=⟨[.d7],.ifc 26 (.val (.int .i64)),[.d9],fun x=>qby x.1.1 x.2.1⟩
def vw5:DOk TT prog 170 ql3:=zx9 (C:=qby_C) (by kernel_rfl) wk9 func170 (show f170.body=some (w5 f170) by kernel_rfl) (by kernel_rfl) (by kernel_rfl) (by kernel_rfl) (by kernel_rfl) fun x y h=>h
def qbi_C:Ctx TT:=⟨yk9,[(113,qal_sp.toCall (za8 TT))],4,[],zo5,yk6⟩
def wk1:zb4 TT prog qbi_C.E:=zn0 (za9 ul7 (q7 113)) (zh9)
def qz8:List (Pos×Cut):= []
def wt4:DefP TT:=⟨1,3,[3,0,2],5,170,[(4,0)],ql2,ql3⟩
def qbi (n:Nat) (a:List Int) (b c d:Int):Option ((u9×u1×u1×u1×Unit)×u1):=vl6 prog qbi_C qz8 f112 (w5 f112) ⟨[],[],[],[],[]⟩ [.fn 113 [] [.ptr 0 23 [.c1],.c9,.d1,.b6]] [.blk 23 [.c1],.d4,.d5,.b9] [.a1] wt4 n (((),((a,()),(b,()),(c,()),(d,()),())),())
def uo9 (n b c d e):qbi n b c d e=z6 (qal b c d e) fun a=>match a.2 with| .inl i=>(z6 (qbx 0) fun f=>some (((a.1.1.1,()),(a.1.2.1.1,()),(a.1.2.2.1.1,()),(a.1.2.2.2.1.1,()),()),(f.1.1,())))| .inr g=>(z6 (qby 0 g.1) fun h=>some (((a.1.1.1,()),(a.1.2.1.1,()),(a.1.2.2.1.1,()),(a.1.2.2.2.1.1,()),()),(h.1.1,()))):=by kernel_rfl
def up0:GSpec TT:=⟨[.fn 113 [] [.ptr 0 23 [.c1],.c9,.d1,.b6]],[.blk 23 [.c1],.d4,.d5,.b9],[.a1],fun x=>qbi v3 x.1.2.1.1 x.1.2.2.1.1 x.1.2.2.2.1.1 x.1.2.2.2.2.1.1⟩
def gm7:GOk TT prog 112 up0:=ye2 (C:=qbi_C) (cuts:=qz8) (D:=wt4) (by kernel_rfl) wk1 func112 (show f112.body=some (w5 f112) by kernel_rfl) (by kernel_rfl) (by kernel_rfl) (by kernel_rfl) vw4 vw5 fun x y h=>⟨v3,h⟩
def ww9:KF:=⟨cG gm7 eN,0,[],[],f86,z0,[.c1,.a1,.a1],[.a2,.a1]⟩
def qei (n:Nat) (a:List Int) (b c:Int):Option (Int×Int):=tF ww9 n (a,b,c)
def uz9 (n a b c):qei n a b c=z6 (qbi v3 a b c 0) fun d=>some (d.1.2.2.2.1.1,d.2.1):=by kernel_rfl
def zaa0:=okF ww9 func86
end
end Go.X
