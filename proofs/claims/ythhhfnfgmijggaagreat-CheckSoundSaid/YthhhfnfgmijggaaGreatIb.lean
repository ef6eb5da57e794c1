import Derived.Test.YthhhfnfgmijggaaGreatIa
set_option linter.defProp false
namespace Go.X
open Go.RowKit Go.V Go.Proofs Tryz
noncomputable section
def ub3:KF:=⟨eN,0,[],[],f39,⟨[],[(0,.list (.bool))]⟩,[],[.a6]⟩
def qgb (n:Nat):Option (List Bool):=tF ub3 n ()
def zag3 (n):qgb n=if 0<=512/\512<=512/\1*512<=281474976710656/\512<=9223372036854775807 then (some (List.replicate 512 false)) else none:=by kernel_rfl
def zag4:=okF ub3 func39
def wu6:KP:=⟨⟨eN,0,[],[],f96,n0,[.a6],[],[.lpk (.bool) 0 0]⟩,.ifc 26 (.val (.int .i64))⟩
def qcm (n:Nat) (a:List Bool):Option (Unit×(u8⊕u1)):=tP wu6 n (a,())
def go5 (n a):qcm n a=z9 ((a.length:Int) != 512) (some ((),.inr (2,()))) (if 512<=a.length then (some ((),.inl (a,()))) else none):=by kernel_rfl
def vq7:=okP wu6 func96
def gt6:KP:=⟨⟨eN,0,[],[([I],qt [0,1,2]),([O,I,O,I],qt [0,1,2,9]),([I,I],qt [0,1,2]),([O,I,I],qt [0,1,2,21])],f97,n0,[.lpk (.bool) 0 0,.a1,.a1],[],[.a6]⟩,.ifc 26 (.val (.int .i64))⟩
abbrev vj6:=Option (Unit×(u8⊕u1))
def ql (n:Nat) (a:List Bool) (b c:Int):vj6:=tP gt6 n (a,b,c,())
def qr1 (n:Nat) (a:List Bool) (b c:Int) (d:Bool):vj6:=uP gt6 n [O,I,O,I] ⟨[(0,.lptr (.bool) a 0 0),(1,ci b),(2,ci c),(9,cb d)],[]⟩
def ud1 (n:Nat) (a:List Bool) (b c:Int):vj6:=uP gt6 n [I] ⟨[(0,.lptr (.bool) a 0 0),(1,ci b),(2,ci c)],[]⟩
def wc4 (n:Nat) (a:List Bool) (c d:Int) (b:Bool):vj6:=uP gt6 n [O,I,I] ⟨[(0,.lptr (.bool) a 0 0),(1,ci c),(2,ci d),(21,cb b)],[]⟩
def ud2 (n:Nat) (a:List Bool) (b c:Int):vj6:=uP gt6 n [I,I] ⟨[(0,.lptr (.bool) a 0 0),(1,ci b),(2,ci c)],[]⟩
def zap3 (n b c a):ql n b c a=z9 (a==1) (qr1 n b c a (a==1)) (z9 (a==2) (qr1 n b c a (a==2)) (z9 (a==4) (qr1 n b c a (a==4)) (qr1 n b c a (a==8)))):=by kernel_rfl
def gc5 (n a b c d):qr1 (n+1) a b c d=z9 d (ud1 n a b c) (some ((),.inr (2,()))):=by kernel_rfl
def gc4 (n a b c):ud1 (n+1) a b c=z9 (decide (b<(-512:Int))) (wc4 n a b c true) (wc4 n a b c (decide (b>(IntKind.i64.wrap (0-c))))):=by kernel_rfl
def ju8 (n a c d b):wc4 (n+1) a c d b=z9 b (some ((),.inr (112,()))) (ud2 n a c d):=by kernel_rfl
def gc6 (n a b c):ud2 (n+1) a b c=if 512<=a.length then (if 0<=IntKind.i64.wrap ((512:Int)+b)/\IntKind.i64.wrap ((512:Int)+b)<=((512:Nat):Int)/\((512:Nat):Int)<=((512:Nat):Int) then (if 0<=(0:Int)/\(0:Int)<=c/\c<=(((List.take (((512:Nat):Int).toNat-(IntKind.i64.wrap ((512:Int)+b)).toNat) (List.drop ((IntKind.i64.wrap ((512:Int)+b)).toNat) a)).length:Nat):Int) then (some ((),.inl (List.take (c.toNat-0) (List.drop 0 (List.take (((512:Nat):Int).toNat-(IntKind.i64.wrap ((512:Int)+b)).toNat) (List.drop ((IntKind.i64.wrap ((512:Int)+b)).toNat) a))),()))) else none) else none) else none:=by kernel_rfl
def ud3:=okP gt6 func97
def wm5:KP:=⟨⟨cP vq7 (cP ud3 eN),3,[(1,1)],[([O,I,O,I],qt [10,11,12]),([I,I,O,O,I,O,I],qt [10,11,12])],f95,n0,[.d6,.c9,.d1],[.d8,.d4,.d5],[.a9]⟩,.ifc 26 (.val (.int .i64))⟩
abbrev wc7:=Option ((u8×u1×u1×Unit)×((Bool×Unit)⊕u1))
def qz (n:Nat) (a:List Bool) (b c:Int):wc7:=tP wm5 n ((a,()),(b,()),(c,()),())
def jj4 (n:Nat) (d:List Bool) (e f:Int) (a:List Bool) (b c:Int):wc7:=uP wm5 n [O,I,O,I] ⟨[(10,.cell ⟨.list (.bool),d⟩),(11,ci e),(12,ci f)],[.k11 a,.blk 2 [ci b],.blk 3 [ci c]]⟩
def ue3 (n:Nat) (d:List Bool) (e f:Int) (a:List Bool) (b c:Int):wc7:=uP wm5 n [I,I,O,O,I,O,I] ⟨[(10,.cell ⟨.list (.bool),d⟩),(11,ci e),(12,ci f)],[.k11 a,.blk 2 [ci b],.blk 3 [ci c]]⟩
def zar1 (n a b c):qz n a b c=z6 (qcm v3 a) fun e=>match e.2 with| .inl f=>(z6 (ql v3 f.1 b c) fun g=>match g.2 with| .inl d=>(jj4 n d.1 (d.1.length:Int) 0 a b c)| .inr h=>(some (((a,()),(b,()),(c,()),()),.inr (h.1,()))))| .inr i=>(some (((a,()),(b,()),(c,()),()),.inr (i.1,()))):=by kernel_rfl
def va7 (n e f d a b c):jj4 (n+1) e f d a b c=z9 (decide (d<f)) (if 0<=d/\d<(e.length:Int) then (z9 (!(e.getD d.toNat false)) (some (((a,()),(b,()),(c,()),()),.inr (110,()))) (ue3 n e f d a b c)) else none) (some (((a,()),(b,()),(c,()),()),.inl (true,()))):=by kernel_rfl
def gd8 (n d e f a b c):ue3 (n+1) d e f a b c=jj4 n d e (IntKind.i64.wrap (f+1)) a b c:=by kernel_rfl
def zar2:=okP wm5 func95
def qcr_C:Ctx TT:=⟨yk9,[],1,[],zo5,yk6⟩
def wl7:zb4 TT prog qcr_C.E:=zh9
def qcr (a:Int):Option u20:=yj8 prog qcr_C f130 (w5 f130) [.d7] (.rw 1) [.d9] ((a,()),(),())
def ut4 (a):qcr a=some ((a,()),()):=by kernel_rfl
def vw9:DSpec TT:=⟨[.d7],.rw 1,[.d9],fun x=>qcr x.1.1⟩
def wl6:DOk TT prog 130 vw9:=zx9 (C:=qcr_C) (by kernel_rfl) wl7 func130 (show f130.body=some (w5 f130) by kernel_rfl) (by kernel_rfl) (by kernel_rfl) (by kernel_rfl) (by kernel_rfl) fun x y h=>h
def qce_C:Ctx TT:=⟨yk9,[],1,[],zo5,yk6⟩
def wl1:zb4 TT prog qce_C.E:=zh9
def qce (a b:Int):Option u20:=yj8 prog qce_C f130 (w5 f130) [.d7] (.ifc 26 (.val (.int .i64))) [.d9] ((a,()),b,())
def go2 (b a):qce b a=some ((a,()),()):=by kernel_rfl
def vw6:DSpec TT:=⟨[.d7],.ifc 26 (.val (.int .i64)),[.d9],fun x=>qce x.1.1 x.2.1⟩
def wl0:DOk TT prog 130 vw6:=zx9 (C:=qce_C) (by kernel_rfl) wl1 func130 (show f130.body=some (w5 f130) by kernel_rfl) (by kernel_rfl) (by kernel_rfl) (by kernel_rfl) (by kernel_rfl) fun x y h=>h
def qbu_C:Ctx TT:=⟨yk9,[(95,(sP wm5).toCall (za8 TT))],3,[],zo5,yk6⟩
def wk6:zb4 TT prog qbu_C.E:=zn0 (za9 zar2 (q7 95)) (zh9)
def va1:List (Pos×Cut):= []
def wt7:DefP TT:=⟨1,4,[4,0,2,3],4,130,[(3,0)],vw9,vw6⟩
def qbu (n:Nat) (a:List Bool) (b c:Int):Option ((u8×u1×u1×Unit)×(Bool×Int×Unit)):=vl6 prog qbu_C va1 f94 (w5 f94) ⟨[],[],[],[],[]⟩ [.fn 95 [] [.d6,.c9,.d1]] [.d8,.d4,.d5] [.a9,.a1] wt7 n (((),((a,()),(b,()),(c,()),())),())
def uq8 (n b c d):qbu n b c d=z6 (qz v3 b c d) fun a=>match a.2 with| .inl e=>(z6 (qcr 0) fun f=>some (((a.1.1.1,()),(a.1.2.1.1,()),(a.1.2.2.1.1,()),()),(e.1,f.1.1,())))| .inr g=>(z6 (qce 0 g.1) fun h=>some (((a.1.1.1,()),(a.1.2.1.1,()),(a.1.2.2.1.1,()),()),(false,h.1.1,()))):=by kernel_rfl
def ur0:GSpec TT:=⟨[.fn 95 [] [.d6,.c9,.d1]],[.d8,.d4,.d5],[.a9,.a1],fun x=>qbu v3 x.1.2.1.1 x.1.2.2.1.1 x.1.2.2.2.1.1⟩
def uq9:GOk TT prog 94 ur0:=ye2 (C:=qbu_C) (cuts:=va1) (D:=wt7) (by kernel_rfl) wk6 func94 (show f94.body=some (w5 f94) by kernel_rfl) (by kernel_rfl) (by kernel_rfl) (by kernel_rfl) wl6 wl0 fun x y h=>⟨v3,h⟩
def ww5:KF:=⟨cG uq9 eN,0,[],[],f70,z0,[.a6,.a1,.a1],[.a1]⟩
def qdt (n:Nat) (a:List Bool) (b c:Int):Option (Int):=tF ww5 n (a,b,c)
def ux1 (n a b c):qdt n a b c=z6 (qbu v3 a b c) fun d=>some d.2.2.1:=by kernel_rfl
def ux2:=okF ww5 func70
def wm3:KP:=⟨⟨cP vq7 eN,2,[(1,1)],[([O,I,O,I,I],qt [3,4,12]),([I,I,O,O,I,O,I,I],qt [3,4,12])],f180,⟨[],[],[],[],[0]⟩,[.d6,.d6],[.d8,.d8],[.row 157 (.bool)]⟩,.ifc 26 (.val (.int .i64))⟩
abbrev wc6:=Option ((u8×u8×Unit)×(u8⊕u1))
def qv (n:Nat) (a b:List Bool):wc6:=tP wm3 n ((a,()),(b,()),())
def jj3 (n:Nat) (d:List Bool) (e:Int) (b c a:List Bool):wc6:=uP wm3 n [O,I,O,I,I] ⟨[(3,.ptr 2 0),(4,.lptr (.bool) d 0 0),(12,ci e)],[.k11 b,.k11 c,.k14 a]⟩
def kq7 (n:Nat) (d:List Bool) (e:Int) (b c a:List Bool):wc6:=uP wm3 n [I,I,O,O,I,O,I,I] ⟨[(3,.ptr 2 0),(4,.lptr (.bool) d 0 0),(12,ci e)],[.k11 b,.k11 c,.k14 a]⟩
def zaq4 (n a b):qv n a b=z6 (qcm v3 a) fun d=>match d.2 with| .inl c=>(if 512<=c.1.length then (z6 (qcm v3 b) fun e=>match e.2 with| .inl f=>(jj3 n f.1 0 a b (List.take 512 (List.drop 0 c.1)))| .inr g=>(some (((a,()),(b,()),()),.inr (g.1,())))) else none)| .inr h=>(some (((a,()),(b,()),()),.inr (h.1,()))):=by kernel_rfl
def va6 (n e a c d b):jj3 (n+1) e a c d b=z9 (decide (a<512)) (if 0<=a/\a<(512:Int) then (z9 (b.getD a.toNat false) (if 0<=a/\a<(512:Int) then (if 0+a.toNat<e.length then (if 0<=a/\a<(512:Int) then (kq7 n e a c d (b.set a.toNat (e.getD (0+a.toNat) false))) else none) else none) else none) (if 0<=a/\a<(512:Int) then (kq7 n e a c d (b.set a.toNat false)) else none)) else none) (some (((c,()),(d,()),()),.inl (b,()))):=by kernel_rfl
def gd3 (n d e b c a):kq7 (n+1) d e b c a=jj3 n d (IntKind.i64.wrap (e+1)) b c a:=by kernel_rfl
def zaq5:=okP wm3 func180
def qbk_C:Ctx TT:=⟨yk9,[],1,[],zo5,yk6⟩
def wk3:zb4 TT prog qbk_C.E:=zh9
def qbk (a:Int):Option u20:=yj8 prog qbk_C f133 (w5 f133) [.d7] (.rw 1) [.d9] ((a,()),(),())
def gm9 (a):qbk a=some ((a,()),()):=by kernel_rfl
def ql0:DSpec TT:=⟨[.d7],.rw 1,[.d9],fun x=>qbk x.1.1⟩
def vw2:DOk TT prog 133 ql0:=zx9 (C:=qbk_C) (by kernel_rfl) wk3 func133 (show f133.body=some (w5 f133) by kernel_rfl) (by kernel_rfl) (by kernel_rfl) (by kernel_rfl) (by kernel_rfl) fun x y h=>h
def qbl_C:Ctx TT:=⟨yk9,[],1,[],zo5,yk6⟩
def wk4:zb4 TT prog qbl_C.E:=zh9
def qbl (a b:Int):Option u20:=yj8 prog qbl_C f133 (w5 f133) [.d7] (.ifc 26 (.val (.int .i64))) [.d9] ((a,()),b,())
def gn0 (b a):qbl b a=some ((a,()),()):=by kernel_rfl
def ql1:DSpec TT:=⟨[.d7],.ifc 26 (.val (.int .i64)),[.d9],fun x=>qbl x.1.1 x.2.1⟩
def vw3:DOk TT prog 133 ql1:=zx9 (C:=qbl_C) (by kernel_rfl) wk4 func133 (show f133.body=some (w5 f133) by kernel_rfl) (by kernel_rfl) (by kernel_rfl) (by kernel_rfl) (by kernel_rfl) fun x y h=>h
def qbj_C:Ctx TT:=⟨yk9,[(180,(sP wm3).toCall (za8 TT))],2,[],zo5,yk6⟩
def wk2:zb4 TT prog qbj_C.E:=zn0 (za9 zaq5 (q7 180)) (zh9)
def qz9:List (Pos×Cut):= []
def wt5:DefP TT:=⟨1,4,[4,0,2,3],3,133,[(2,0)],ql0,ql1⟩
def qbj (n:Nat) (a b:List Bool):Option ((u8×u8×Unit)×(List Bool×Int×Unit)):=vl6 prog qbj_C qz9 f100 (w5 f100) ⟨[(0,157,.bool,true)],[],[],[],[]⟩ [.fn 180 [] [.d6,.d6]] [.d8,.d8] [.row 157 (.bool),.a1] wt5 n (((),((a,()),(b,()),())),())
def up1 (n b c):qbj n b c=z6 (qv v3 b c) fun a=>match a.2 with| .inl d=>(z6 (qbk 0) fun e=>some (((a.1.1.1,()),(a.1.2.1.1,()),()),(d.1,e.1.1,())))| .inr f=>(z6 (qbl 0 f.1) fun g=>some (((a.1.1.1,()),(a.1.2.1.1,()),()),(([]:List Bool),g.1.1,()))):=by kernel_rfl
def up2:GSpec TT:=⟨[.fn 180 [] [.d6,.d6]],[.d8,.d8],[.row 157 (.bool),.a1],fun x=>qbj v3 x.1.2.1.1 x.1.2.2.1.1⟩
def gm8:GOk TT prog 100 up2:=ye2 (C:=qbj_C) (cuts:=qz9) (D:=wt5) (by kernel_rfl) wk2 func100 (show f100.body=some (w5 f100) by kernel_rfl) (by kernel_rfl) (by kernel_rfl) (by kernel_rfl) vw2 vw3 fun x y h=>⟨v3,h⟩
def wv1:KF:=⟨cG gm8 eN,0,[],[],f132,⟨[],[(0,.list (.bool))]⟩,[.a6,.a6],[.a6]⟩
def qcx (n:Nat) (a b:List Bool):Option (List Bool):=tF wv1 n (a,b)
def uu4 (n a b):qcx n a b=z6 (qbj v3 a b) fun c=>some c.2.1:=by kernel_rfl
def go7:=okF wv1 func132
def gt7:KP:=⟨⟨eN,1,[],[([I],qt [0,1,2]),([O,I,O,I],qt [0,1,2,9]),([I,I],qt [0,1,2]),([O,I,I],qt [0,1,2,21])],f97,n0,[.ptr 0 157 [.e3],.a1,.a1],[.blk 157 [.e3]],[.asp 0 0 1 512]⟩,.ifc 26 (.val (.int .i64))⟩
abbrev vj7:=Option ((u8×Unit)×(u19⊕u1))
def qm (n:Nat) (a:List Bool) (b c:Int):vj7:=tP gt7 n ((a,()),b,c,())
def qr2 (n:Nat) (b c:Int) (d:Bool) (a:List Bool):vj7:=uP gt7 n [O,I,O,I] ⟨[(0,.ptr 0 0),(1,ci b),(2,ci c),(9,cb d)],[.k14 a]⟩
def ud4 (n:Nat) (b c:Int) (a:List Bool):vj7:=uP gt7 n [I] ⟨[(0,.ptr 0 0),(1,ci b),(2,ci c)],[.k14 a]⟩
def wc5 (n:Nat) (c d:Int) (b:Bool) (a:List Bool):vj7:=uP gt7 n [O,I,I] ⟨[(0,.ptr 0 0),(1,ci c),(2,ci d),(21,cb b)],[.k14 a]⟩
def ud5 (n:Nat) (b c:Int) (a:List Bool):vj7:=uP gt7 n [I,I] ⟨[(0,.ptr 0 0),(1,ci b),(2,ci c)],[.k14 a]⟩
def zap4 (n b c a):qm n b c a=z9 (a==1) (qr2 n c a (a==1) b) (z9 (a==2) (qr2 n c a (a==2) b) (z9 (a==4) (qr2 n c a (a==4) b) (qr2 n c a (a==8) b))):=by kernel_rfl
def gc8 (n b c d a):qr2 (n+1) b c d a=z9 d (ud4 n b c a) (some (((a,()),()),.inr (2,()))):=by kernel_rfl
def gc7 (n b c a):ud4 (n+1) b c a=z9 (decide (b<(-512:Int))) (wc5 n b c true a) (wc5 n b c (decide (b>(IntKind.i64.wrap (0-c)))) a):=by kernel_rfl
def ju9 (n c d b a):wc5 (n+1) c d b a=z9 b (some (((a,()),()),.inr (112,()))) (ud5 n c d a):=by kernel_rfl
def gc9 (n b c a):ud5 (n+1) b c a=if 0<=IntKind.i64.wrap ((512:Int)+b)/\IntKind.i64.wrap ((512:Int)+b)<=((512:Nat):Int)/\((512:Nat):Int)<=((512:Nat):Int) then (if 0<=(0:Int)/\(0:Int)<=c/\(((IntKind.i64.wrap ((512:Int)+b)).toNat:Nat):Int)+c<=((512:Nat):Int) then (some (((a,()),()),.inl ((((IntKind.i64.wrap ((512:Int)+b)).toNat)+0,c.toNat-0),()))) else none) else none:=by kernel_rfl
def zap5:=okP gt7 func97
def ko6:KP:=⟨⟨cP vq7 (cE (za9 zap5 (za9 ud3 (q7 97))) eN),3,[],[([O,I,O,I,I,I],qt [4,5,15,16])],f101,⟨[],[],[],[],[0]⟩,[.d6,.c9,.d1],[.d8,.d4,.d5],[.row 157 (.bool)]⟩,.ifc 26 (.val (.int .i64))⟩
abbrev gm0:=Option ((u8×u1×u1×Unit)×(u8⊕u1))
def qay (n:Nat) (a:List Bool) (b c:Int):gm0:=tP ko6 n ((a,()),(b,()),(c,()),())
def ys8 (n e f:Nat) (g h:Int) (b:List Bool) (c d:Int) (a:List Bool):gm0:=uP ko6 n [O,I,O,I,I,I] ⟨[(4,.ptr 3 0),(5,.asl 3 0 1 512 e f),(15,ci g),(16,ci h)],[.k11 b,.blk 2 [ci c],.blk 3 [ci d],.k14 a]⟩
def un3 (n a b c):qay n a b c=z6 (qcm v3 a) fun g=>match g.2 with| .inl e=>(if 512<=e.1.length then (z6 (qm v3 (List.take 512 (List.drop 0 e.1)) b c) fun f=>match f.2 with| .inl d=>(ys8 n d.1.1 d.1.2 (d.1.2:Int) 0 a b c f.1.1.1)| .inr h=>(some (((a,()),(b,()),(c,()),()),.inr (h.1,())))) else none)| .inr i=>(some (((a,()),(b,()),(c,()),()),.inr (i.1,()))):=by kernel_rfl
def qf5 (n f g h b c d e a):ys8 (n+1) f g h b c d e a=z9 (decide (b<h)) (if 0<=b/\b<(g:Int) then (ys8 n f g h (IntKind.i64.wrap (b+1)) c d e (a.set (f+b.toNat) true)) else none) (some (((c,()),(d,()),(e,()),()),.inl (a,()))):=by kernel_rfl
def un4:=okP ko6 func101
def qbv_C:Ctx TT:=⟨yk9,[(101,(sP ko6).toCall (za8 TT))],3,[],zo5,yk6⟩
def wk7:zb4 TT prog qbv_C.E:=zn0 (za9 un4 (q7 101)) (zh9)
def va2:List (Pos×Cut):= []
def wt8:DefP TT:=⟨1,4,[4,0,2,3],4,133,[(3,0)],ql0,ql1⟩
def qbv (n:Nat) (a:List Bool) (b c:Int):Option ((u8×u1×u1×Unit)×(List Bool×Int×Unit)):=vl6 prog qbv_C va2 f100 (w5 f100) ⟨[(0,157,.bool,true)],[],[],[],[]⟩ [.fn 101 [] [.d6,.c9,.d1]] [.d8,.d4,.d5] [.row 157 (.bool),.a1] wt8 n (((),((a,()),(b,()),(c,()),())),())
def ur1 (n b c d):qbv n b c d=z6 (qay v3 b c d) fun a=>match a.2 with| .inl e=>(z6 (qbk 0) fun f=>some (((a.1.1.1,()),(a.1.2.1.1,()),(a.1.2.2.1.1,()),()),(e.1,f.1.1,())))| .inr g=>(z6 (qbl 0 g.1) fun h=>some (((a.1.1.1,()),(a.1.2.1.1,()),(a.1.2.2.1.1,()),()),(([]:List Bool),h.1.1,()))):=by kernel_rfl
def ur3:GSpec TT:=⟨[.fn 101 [] [.d6,.c9,.d1]],[.d8,.d4,.d5],[.row 157 (.bool),.a1],fun x=>qbv v3 x.1.2.1.1 x.1.2.2.1.1 x.1.2.2.2.1.1⟩
def ur2:GOk TT prog 100 ur3:=ye2 (C:=qbv_C) (cuts:=va2) (D:=wt8) (by kernel_rfl) wk7 func100 (show f100.body=some (w5 f100) by kernel_rfl) (by kernel_rfl) (by kernel_rfl) (by kernel_rfl) vw2 vw3 fun x y h=>⟨v3,h⟩
def ww6:KF:=⟨cE (v9 ur2 (v9 gm8 (q7 100))) eN,0,[],[],f76,⟨[],[(0,.list (.bool))]⟩,[.a6,.a1,.a1],[.a6,.a1]⟩
def qdu (n:Nat) (a:List Bool) (b c:Int):Option (List Bool×Int):=tF ww6 n (a,b,c)
def ux3 (n a b c):qdu n a b c=z6 (qbv v3 a b c) fun d=>some (d.2.1,d.2.2.1):=by kernel_rfl
def ux4:=okF ww6 func76
def qi_k:KF:=⟨eN,0,[(3,1)],[],f103,z0,[.e1],[.b1,.a9]⟩
def qi (n:Nat) (a:Known):Option (Span×Bool):=tF qi_k n a
def zao8 (n a):qi n a=z9 (a.Kind==4) (some ((⟨0,65535⟩:Span),true)) (some ((⟨a.In_Lo,a.In_Hi⟩:Span),a.Kind==1)):=by kernel_rfl
def uc9:=okF qi_k func103
def wt9:KF:=⟨eN,0,[],[],f99,z0,[.a2],[.b1]⟩
def qbz (n:Nat) (a:Int):Option (Span):=tF wt9 n a
def ur6 (n a):qbz n a=some (⟨a,a⟩:Span):=by kernel_rfl
def jl5:=okF wt9 func99
def ud7:KF:=⟨eN,0,[],[],f106,z0,[.b1],[.a9]⟩
def qp (n:Nat) (a:Span):Option (Bool):=tF ud7 n a
def zap8 (n a):qp n a=some (decide (a.Lo<=a.Hi)):=by kernel_rfl
def kq3:=okF ud7 func106
def ko4:KF:=⟨cF jl5 (cF kq3 eN),0,[],[([O,I,O,I],qt [1]),([O,O,O,O,I,O,I],qt [1])],f102,z0,[.e1],[.a9]⟩
def qas (n:Nat) (a:Known):Option (Bool):=tF ko4 n a
def vp5 (n:Nat) (a b c:Int):Option (Bool):=uF ko4 n [O,O,O,O,I,O,I] ⟨[(1,.ptr 0 0)],[.k2 a b c]⟩
def vp4 (n:Nat) (a b c:Int):Option (Bool):=uF ko4 n [O,I,O,I] ⟨[(1,.ptr 0 0)],[.k2 a b c]⟩
def um6 (n a):qas n a=z9 (a.Kind==4) (vp5 n a.Kind a.In_Lo a.In_Hi) (z9 (a.Kind==0) (vp5 n a.Kind a.In_Lo a.In_Hi) (z9 (a.Kind==1) (vp4 n a.Kind a.In_Lo a.In_Hi) (z9 (a.Kind==2) (vp4 n a.Kind a.In_Lo a.In_Hi) (z9 (a.Kind==3) (z6 (qbz v3 a.In_Lo) fun b=>some ((a.In_Lo==b.Lo)&&(a.In_Hi==b.Hi))) (some false))))):=by kernel_rfl
def kg7 (n c a b):vp5 (n+1) c a b=some ((a==0)&&(b==0)):=by kernel_rfl
def kg6 (n c a b):vp4 (n+1) c a b=z6 (qp v3 (⟨a,b⟩:Span)) fun d=>some d:=by kernel_rfl
def gl3:=okF ko4 func102
def wx0:KF:=⟨eN,0,[],[],f179,z0,[.b1,.b1],[.b1]⟩
def qej (n:Nat) (a b:Span):Option (Span):=tF wx0 n (a,b)
def zaa1 (n a b):qej n a b=some (⟨zo3 a.Lo b.Lo,zi1 a.Hi b.Hi⟩:Span):=by kernel_rfl
def zaa2:=okF wx0 func179
def vj0:KF:=⟨cF uc9 (cF gl3 (cF zaa2 eN)),0,[],[([O,O,I,I,I],qt [2,3,4,5,6,7,8,19]),([I,I,I,I,O,O,I,I,I],qt [2,3,4,5,7,34]),([I,I,I,I,I,I,O,O,I,I,I],qt [2,3,4,43])],f131,z0,[.e1,.e1],[.e1]⟩
def qaa (n:Nat) (a b:Known):Option (Known):=tF vj0 n (a,b)
def vn5 (n:Nat) (p q o:Bool) (a b c d e f g h i j k l m:Int):Option (Known):=uF vj0 n [O,O,I,I,I] ⟨[(2,.ptr 0 0),(3,.ptr 1 0),(4,.ptr 2 0),(5,.ptr 3 0),(6,cb p),(7,.ptr 4 0),(8,cb q),(19,cb o)],[.k2 a b c,.k2 d e f,.k2 g h i,.k3 j k,.k3 l m]⟩
def vn6 (n:Nat) (o:Bool) (a b c d e f g h i j k l m:Int):Option (Known):=uF vj0 n [I,I,I,I,O,O,I,I,I] ⟨[(2,.ptr 0 0),(3,.ptr 1 0),(4,.ptr 2 0),(5,.ptr 3 0),(7,.ptr 4 0),(34,cb o)],[.k2 a b c,.k2 d e f,.k2 g h i,.k3 j k,.k3 l m]⟩
def vn7 (n:Nat) (j:Bool) (a b c d e f g h i:Int):Option (Known):=uF vj0 n [I,I,I,I,I,I,O,O,I,I,I] ⟨[(2,.ptr 0 0),(3,.ptr 1 0),(4,.ptr 2 0),(43,cb j)],[.k2 a b c,.k2 d e f,.k2 g h i]⟩
def uk0 (n a b):qaa n a b=z6 (qi v3 a) fun c=>z6 (qi v3 b) fun d=>z6 (qas v3 a) fun e=>z9 (!e) (vn5 n c.2 d.2 true a.Kind a.In_Lo a.In_Hi b.Kind b.In_Lo b.In_Hi 0 0 0 c.1.Lo c.1.Hi d.1.Lo d.1.Hi) (z6 (qas v3 b) fun f=>vn5 n c.2 d.2 (!f) a.Kind a.In_Lo a.In_Hi b.Kind b.In_Lo b.In_Hi 0 0 0 c.1.Lo c.1.Hi d.1.Lo d.1.Hi):=by kernel_rfl
def kf2 (n p q o a b c d e f g h i j k l m):vn5 (n+1) p q o a b c d e f g h i j k l m=z9 o (some (⟨0,0,0⟩:Known)) (z9 ((a==d)&&((b==e)&&(c==f))) (some (⟨a,b,c⟩:Known)) (z9 p (vn6 n q a b c d e f g h i j k l m) (vn6 n false a b c d e f g h i j k l m))):=by kernel_rfl
def kf3 (n o a c d b e f g h i j k l m):vn6 (n+1) o a c d b e f g h i j k l m=z9 o (z6 (qej v3 (⟨j,k⟩:Span) (⟨l,m⟩:Span)) fun p=>some (⟨1,p.Lo,p.Hi⟩:Known)) (z9 (a==2) (vn7 n (b==2) a c d b e f g h i) (vn7 n false a c d b e f g h i)):=by kernel_rfl
def kf4 (n e f a b g c d h i j):vn7 (n+1) e f a b g c d h i j=z9 e (z6 (qej v3 (⟨a,b⟩:Span) (⟨c,d⟩:Span)) fun k=>some (⟨2,k.Lo,k.Hi⟩:Known)) (some (⟨0,0,0⟩:Known)):=by kernel_rfl
def gk4:=okF vj0 func131
end
end Go.X
