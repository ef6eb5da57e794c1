import Derived.Test.YthhhfnfgmijggaaGreatIa
set_option linter.defProp false
namespace Go.X
open Go.RowKit Go.V Go.Proofs Tryz
noncomputable section
def ub6:KF:=⟨eN,0,[],[],f39,⟨[],[(0,.list (.bool))]⟩,[],[.a4]⟩
def qea (n:Nat):Option (List Bool):=tF ub6 n ()
def up4 (n):qea n=if 0<=512/\512<=512/\1*512<=281474976710656/\512<=9223372036854775807 then (some (List.replicate 512 false)) else none:=by kernel_rfl
def us8:=okF ub6 func39
def wp7:KP:=⟨⟨eN,0,[],[],f96,n0,[.a4],[],[.lpk (.bool) 0 0]⟩,.ifc 26 (.val (.int .i64))⟩
def qcd (n:Nat) (a:List Bool):Option (Unit×(u7⊕u1)):=tP wp7 n (a,())
def gj7 (n a):qcd n a=j4 ((a.length:Int) != 512) (some ((),.inr (2,()))) (if 512<=a.length then (some ((),.inl (a,()))) else none):=by kernel_rfl
def vq8:=okP wp7 func96
def gm9:KP:=⟨⟨eN,0,[],[([I],qt [0,1,2]),([O,I,O,I],qt [0,1,2,9]),([I,I],qt [0,1,2]),([O,I,I],qt [0,1,2,21])],f97,n0,[.lpk (.bool) 0 0,.a1,.a1],[],[.a4]⟩,.ifc 26 (.val (.int .i64))⟩
abbrev vd4:=Option (Unit×(u7⊕u1))
def qp (n:Nat) (a:List Bool) (b c:Int):vd4:=tP gm9 n (a,b,c,())
def qr2 (n:Nat) (a:List Bool) (b c:Int) (d:Bool):vd4:=uP gm9 n [O,I,O,I] ⟨[(0,.lptr (.bool) a 0 0),(1,ci b),(2,ci c),(9,cb d)],[]⟩
def wp0 (n:Nat) (a:List Bool) (b c:Int):vd4:=uP gm9 n [I] ⟨[(0,.lptr (.bool) a 0 0),(1,ci b),(2,ci c)],[]⟩
def gz1 (n:Nat) (a:List Bool) (c d:Int) (b:Bool):vd4:=uP gm9 n [O,I,I] ⟨[(0,.lptr (.bool) a 0 0),(1,ci c),(2,ci d),(21,cb b)],[]⟩
def wn7 (n:Nat) (a:List Bool) (b c:Int):vd4:=uP gm9 n [I,I] ⟨[(0,.lptr (.bool) a 0 0),(1,ci b),(2,ci c)],[]⟩
def zal0 (n b c a):qp n b c a=j4 (a==1) (qr2 n b c a (a==1)) (j4 (a==2) (qr2 n b c a (a==2)) (j4 (a==4) (qr2 n b c a (a==4)) (qr2 n b c a (a==8)))):=by kernel_rfl
def ga9 (n a b c d):qr2 (n+1) a b c d=j4 d (wp0 n a b c) (some ((),.inr (2,()))):=by kernel_rfl
def gc5 (n a b c):wp0 (n+1) a b c=j4 (decide (b<(-512:Int))) (gz1 n a b c true) (gz1 n a b c (decide (b>(IntKind.i64.wrap (0-c))))):=by kernel_rfl
def jw1 (n a c d b):gz1 (n+1) a c d b=j4 b (some ((),.inr (112,()))) (wn7 n a c d):=by kernel_rfl
def kz4 (n a b c):wn7 (n+1) a b c=if 512<=a.length then (if 0<=IntKind.i64.wrap ((512:Int)+b)/\IntKind.i64.wrap ((512:Int)+b)<=((512:Nat):Int)/\((512:Nat):Int)<=((512:Nat):Int) then (if 0<=(0:Int)/\(0:Int)<=c/\c<=(((List.take (((512:Nat):Int).toNat-(IntKind.i64.wrap ((512:Int)+b)).toNat) (List.drop ((IntKind.i64.wrap ((512:Int)+b)).toNat) a)).length:Nat):Int) then (some ((),.inl (List.take (c.toNat-0) (List.drop 0 (List.take (((512:Nat):Int).toNat-(IntKind.i64.wrap ((512:Int)+b)).toNat) (List.drop ((IntKind.i64.wrap ((512:Int)+b)).toNat) a))),()))) else none) else none) else none:=by kernel_rfl
def wq2:=okP gm9 func97
def vd3:KP:=⟨⟨cP vq8 (cP wq2 eN),3,[(1,1)],[([O,I,O,I],qt [10,11,12]),([I,I,O,O,I,O,I],qt [10,11,12])],f95,n0,[.d2,.ptr 0 2 [.a1],.ptr 0 3 [.a1]],[.d4,.blk 2 [.a1],.blk 3 [.a1]],[.a8]⟩,.ifc 26 (.val (.int .i64))⟩
abbrev vq7:=Option ((u7×u1×u1×Unit)×((Bool×Unit)⊕u1))
def qac (n:Nat) (a:List Bool) (b c:Int):vq7:=tP vd3 n ((a,()),(b,()),(c,()),())
def yl4 (n:Nat) (d:List Bool) (e f:Int) (a:List Bool) (b c:Int):vq7:=uP vd3 n [O,I,O,I] ⟨[(10,.cell ⟨.list (.bool),d⟩),(11,ci e),(12,ci f)],[.k15 a,.blk 2 [ci b],.blk 3 [ci c]]⟩
def gp0 (n:Nat) (d:List Bool) (e f:Int) (a:List Bool) (b c:Int):vq7:=uP vd3 n [I,I,O,O,I,O,I] ⟨[(10,.cell ⟨.list (.bool),d⟩),(11,ci e),(12,ci f)],[.k15 a,.blk 2 [ci b],.blk 3 [ci c]]⟩
def ul5 (n a b c):qac n a b c=z8 (qcd v3 a) fun e=>match e.2 with| .inl f=>(z8 (qp v3 f.1 b c) fun g=>match g.2 with| .inl d=>(yl4 n d.1 (d.1.length:Int) 0 a b c)| .inr h=>(some (((a,()),(b,()),(c,()),()),.inr (h.1,()))))| .inr i=>(some (((a,()),(b,()),(c,()),()),.inr (i.1,()))):=by kernel_rfl
def qd0 (n e f d a b c):yl4 (n+1) e f d a b c=j4 (decide (d<f)) (if 0<=d/\d<(e.length:Int) then (j4 (!(e.getD d.toNat false)) (some (((a,()),(b,()),(c,()),()),.inr (110,()))) (gp0 n e f d a b c)) else none) (some (((a,()),(b,()),(c,()),()),.inl (true,()))):=by kernel_rfl
def kd5 (n d e f a b c):gp0 (n+1) d e f a b c=yl4 n d e (IntKind.i64.wrap (f+1)) a b c:=by kernel_rfl
def uj3:=okP vd3 func95
def qck_C:Ctx TT:=⟨ja9,[],1,[],zz2,jc2⟩
def wi3:zc4 TT prog qck_C.E:=zm4
def qck (a:Int):Option (u1×Unit):=yr2 prog qck_C f130 (zb0 f130) [.d7] (.rw 1) [.blk 26 [.a1]] ((a,()),(),())
def zab6 (a):qck a=some ((a,()),()):=by kernel_rfl
def vs5:DSpec TT:=⟨[.d7],.rw 1,[.blk 26 [.a1]],fun x=>qck x.1.1⟩
def wk0:DOk TT prog 130 vs5:=yf9 (C:=qck_C) (by kernel_rfl) wi3 func130 (show f130.body=some (zb0 f130) by kernel_rfl) (by kernel_rfl) (by kernel_rfl) (by kernel_rfl) (by kernel_rfl) fun x y h=>h
def qby_C:Ctx TT:=⟨ja9,[],1,[],zz2,jc2⟩
def wf6:zc4 TT prog qby_C.E:=zm4
def qby (a b:Int):Option (u1×Unit):=yr2 prog qby_C f130 (zb0 f130) [.d7] (.ifc 26 (.val (.int .i64))) [.blk 26 [.a1]] ((a,()),b,())
def gm0 (b a):qby b a=some ((a,()),()):=by kernel_rfl
def vy6:DSpec TT:=⟨[.d7],.ifc 26 (.val (.int .i64)),[.blk 26 [.a1]],fun x=>qby x.1.1 x.2.1⟩
def wg5:DOk TT prog 130 vy6:=yf9 (C:=qby_C) (by kernel_rfl) wf6 func130 (show f130.body=some (zb0 f130) by kernel_rfl) (by kernel_rfl) (by kernel_rfl) (by kernel_rfl) (by kernel_rfl) fun x y h=>h
def qbl_C:Ctx TT:=⟨ja9,[(95,(sP vd3).toCall (ze7 TT))],3,[],zz2,jc2⟩
def wl4:zc4 TT prog qbl_C.E:=zr2 (zc6 uj3 (v7 95)) (zm4)
def qx7:List (Pos×Cut):= []
def wv8:DefP TT:=⟨1,4,[4,0,2,3],4,130,[(3,0)],vs5,vy6⟩
def qbl (n:Nat) (a:List Bool) (b c:Int):Option ((u7×u1×u1×Unit)×(Bool×Int×Unit)):=ks7 prog qbl_C qx7 f94 (zb0 f94) ⟨[],[],[],[],[]⟩ [.fn 95 [] [.d2,.ptr 0 2 [.a1],.ptr 0 3 [.a1]]] [.d4,.blk 2 [.a1],.blk 3 [.a1]] [.a8,.a1] wv8 n (((),((a,()),(b,()),(c,()),())),())
def us5 (n b c d):qbl n b c d=z8 (qac v3 b c d) fun a=>match a.2 with| .inl e=>(z8 (qck 0) fun f=>some (((a.1.1.1,()),(a.1.2.1.1,()),(a.1.2.2.1.1,()),()),(e.1,f.1.1,())))| .inr g=>(z8 (qby 0 g.1) fun h=>some (((a.1.1.1,()),(a.1.2.1.1,()),(a.1.2.2.1.1,()),()),(false,h.1.1,()))):=by kernel_rfl
def zac0:GSpec TT:=⟨[.fn 95 [] [.d2,.ptr 0 2 [.a1],.ptr 0 3 [.a1]]],[.d4,.blk 2 [.a1],.blk 3 [.a1]],[.a8,.a1],fun x=>qbl v3 x.1.2.1.1 x.1.2.2.1.1 x.1.2.2.2.1.1⟩
def uz7:GOk TT prog 94 zac0:=ys7 (C:=qbl_C) (cuts:=qx7) (D:=wv8) (by kernel_rfl) wl4 func94 (show f94.body=some (zb0 f94) by kernel_rfl) (by kernel_rfl) (by kernel_rfl) (by kernel_rfl) wk0 wg5 fun x y h=>⟨v3,h⟩
def wu7:KF:=⟨cG uz7 eN,0,[],[],f70,z0,[.a4,.a1,.a1],[.a1]⟩
def qdc (n:Nat) (a:List Bool) (b c:Int):Option (Int):=tF wu7 n (a,b,c)
def ud7 (n a b c):qdc n a b c=z8 (qbl v3 a b c) fun d=>some d.2.2.1:=by kernel_rfl
def zac4:=okF wu7 func70
def wg4:KP:=⟨⟨cP vq8 eN,2,[(1,1)],[([O,I,O,I,I],qt [3,4,12]),([I,I,O,O,I,O,I,I],qt [3,4,12])],f180,⟨[],[],[],[],[0]⟩,[.d2,.d2],[.d4,.d4],[.row 157 (.bool)]⟩,.ifc 26 (.val (.int .i64))⟩
abbrev gx4:=Option ((u7×u7×Unit)×(u7⊕u1))
def qz (n:Nat) (a b:List Bool):gx4:=tP wg4 n ((a,()),(b,()),())
def ji2 (n:Nat) (d:List Bool) (e:Int) (b c a:List Bool):gx4:=uP wg4 n [O,I,O,I,I] ⟨[(3,.ptr 2 0),(4,.lptr (.bool) d 0 0),(12,ci e)],[.k15 b,.k15 c,.k18 a]⟩
def ko3 (n:Nat) (d:List Bool) (e:Int) (b c a:List Bool):gx4:=uP wg4 n [I,I,O,O,I,O,I,I] ⟨[(3,.ptr 2 0),(4,.lptr (.bool) d 0 0),(12,ci e)],[.k15 b,.k15 c,.k18 a]⟩
def zak2 (n a b):qz n a b=z8 (qcd v3 a) fun d=>match d.2 with| .inl c=>(if 512<=c.1.length then (z8 (qcd v3 b) fun e=>match e.2 with| .inl f=>(ji2 n f.1 0 a b (List.take 512 (List.drop 0 c.1)))| .inr g=>(some (((a,()),(b,()),()),.inr (g.1,())))) else none)| .inr h=>(some (((a,()),(b,()),()),.inr (h.1,()))):=by kernel_rfl
def vc3 (n e a c d b):ji2 (n+1) e a c d b=j4 (decide (a<512)) (if 0<=a/\a<(512:Int) then (j4 (b.getD a.toNat false) (if 0<=a/\a<(512:Int) then (if 0+a.toNat<e.length then (if 0<=a/\a<(512:Int) then (ko3 n e a c d (b.set a.toNat (e.getD (0+a.toNat) false))) else none) else none) else none) (if 0<=a/\a<(512:Int) then (ko3 n e a c d (b.set a.toNat false)) else none)) else none) (some (((c,()),(d,()),()),.inl (b,()))):=by kernel_rfl
def gc9 (n d e b c a):ko3 (n+1) d e b c a=ji2 n d (IntKind.i64.wrap (e+1)) b c a:=by kernel_rfl
def zai2:=okP wg4 func180
def qbh_C:Ctx TT:=⟨ja9,[],1,[],zz2,jc2⟩
def wj5:zc4 TT prog qbh_C.E:=zm4
def qbh (a:Int):Option (u1×Unit):=yr2 prog qbh_C f133 (zb0 f133) [.d7] (.rw 1) [.blk 26 [.a1]] ((a,()),(),())
def gi6 (a):qbh a=some ((a,()),()):=by kernel_rfl
def qj5:DSpec TT:=⟨[.d7],.rw 1,[.blk 26 [.a1]],fun x=>qbh x.1.1⟩
def vr7:DOk TT prog 133 qj5:=yf9 (C:=qbh_C) (by kernel_rfl) wj5 func133 (show f133.body=some (zb0 f133) by kernel_rfl) (by kernel_rfl) (by kernel_rfl) (by kernel_rfl) (by kernel_rfl) fun x y h=>h
def qbi_C:Ctx TT:=⟨ja9,[],1,[],zz2,jc2⟩
def wi8:zc4 TT prog qbi_C.E:=zm4
def qbi (a b:Int):Option (u1×Unit):=yr2 prog qbi_C f133 (zb0 f133) [.d7] (.ifc 26 (.val (.int .i64))) [.blk 26 [.a1]] ((a,()),b,())
def gh5 (b a):qbi b a=some ((a,()),()):=by kernel_rfl
def ql8:DSpec TT:=⟨[.d7],.ifc 26 (.val (.int .i64)),[.blk 26 [.a1]],fun x=>qbi x.1.1 x.2.1⟩
def vs4:DOk TT prog 133 ql8:=yf9 (C:=qbi_C) (by kernel_rfl) wi8 func133 (show f133.body=some (zb0 f133) by kernel_rfl) (by kernel_rfl) (by kernel_rfl) (by kernel_rfl) (by kernel_rfl) fun x y h=>h
def qbj_C:Ctx TT:=⟨ja9,[(180,(sP wg4).toCall (ze7 TT))],2,[],zz2,jc2⟩
def wn0:zc4 TT prog qbj_C.E:=zr2 (zc6 zai2 (v7 180)) (zm4)
def qz3:List (Pos×Cut):= []
def wo9:DefP TT:=⟨1,4,[4,0,2,3],3,133,[(2,0)],qj5,ql8⟩
def qbj (n:Nat) (a b:List Bool):Option ((u7×u7×Unit)×(List Bool×Int×Unit)):=ks7 prog qbj_C qz3 f100 (zb0 f100) ⟨[(0,157,.bool,true)],[],[],[],[]⟩ [.fn 180 [] [.d2,.d2]] [.d4,.d4] [.row 157 (.bool),.a1] wo9 n (((),((a,()),(b,()),())),())
def uy1 (n b c):qbj n b c=z8 (qz v3 b c) fun a=>match a.2 with| .inl d=>(z8 (qbh 0) fun e=>some (((a.1.1.1,()),(a.1.2.1.1,()),()),(d.1,e.1.1,())))| .inr f=>(z8 (qbi 0 f.1) fun g=>some (((a.1.1.1,()),(a.1.2.1.1,()),()),(([]:List Bool),g.1.1,()))):=by kernel_rfl
def um9:GSpec TT:=⟨[.fn 180 [] [.d2,.d2]],[.d4,.d4],[.row 157 (.bool),.a1],fun x=>qbj v3 x.1.2.1.1 x.1.2.2.1.1⟩
def gs5:GOk TT prog 100 um9:=ys7 (C:=qbj_C) (cuts:=qz3) (D:=wo9) (by kernel_rfl) wn0 func100 (show f100.body=some (zb0 f100) by kernel_rfl) (by kernel_rfl) (by kernel_rfl) (by kernel_rfl) vr7 vs4 fun x y h=>⟨v3,h⟩
def ws0:KF:=⟨cG gs5 eN,0,[],[],f132,⟨[],[(0,.list (.bool))]⟩,[.a4,.a4],[.a4]⟩
def qcu (n:Nat) (a b:List Bool):Option (List Bool):=tF ws0 n (a,b)
def uz4 (n a b):qcu n a b=z8 (qbj v3 a b) fun c=>some c.2.1:=by kernel_rfl
def gs6:=okF ws0 func132
def gj4:KP:=⟨⟨eN,1,[],[([I],qt [0,1,2]),([O,I,O,I],qt [0,1,2,9]),([I,I],qt [0,1,2]),([O,I,I],qt [0,1,2,21])],f97,n0,[.ptr 0 157 [.arr (.bool) 512],.a1,.a1],[.blk 157 [.arr (.bool) 512]],[.asp 0 0 1 512]⟩,.ifc 26 (.val (.int .i64))⟩
abbrev vj6:=Option ((u7×Unit)×(((Nat×Nat)×Unit)⊕u1))
def qr (n:Nat) (a:List Bool) (b c:Int):vj6:=tP gj4 n ((a,()),b,c,())
def qp5 (n:Nat) (b c:Int) (d:Bool) (a:List Bool):vj6:=uP gj4 n [O,I,O,I] ⟨[(0,.ptr 0 0),(1,ci b),(2,ci c),(9,cb d)],[.k18 a]⟩
def wu2 (n:Nat) (b c:Int) (a:List Bool):vj6:=uP gj4 n [I] ⟨[(0,.ptr 0 0),(1,ci b),(2,ci c)],[.k18 a]⟩
def gy1 (n:Nat) (c d:Int) (b:Bool) (a:List Bool):vj6:=uP gj4 n [O,I,I] ⟨[(0,.ptr 0 0),(1,ci c),(2,ci d),(21,cb b)],[.k18 a]⟩
def ua1 (n:Nat) (b c:Int) (a:List Bool):vj6:=uP gj4 n [I,I] ⟨[(0,.ptr 0 0),(1,ci b),(2,ci c)],[.k18 a]⟩
def zak8 (n b c a):qr n b c a=j4 (a==1) (qp5 n c a (a==1) b) (j4 (a==2) (qp5 n c a (a==2) b) (j4 (a==4) (qp5 n c a (a==4) b) (qp5 n c a (a==8) b))):=by kernel_rfl
def ge0 (n b c d a):qp5 (n+1) b c d a=j4 d (wu2 n b c a) (some (((a,()),()),.inr (2,()))):=by kernel_rfl
def kw3 (n b c a):wu2 (n+1) b c a=j4 (decide (b<(-512:Int))) (gy1 n b c true a) (gy1 n b c (decide (b>(IntKind.i64.wrap (0-c)))) a):=by kernel_rfl
def ju4 (n c d b a):gy1 (n+1) c d b a=j4 b (some (((a,()),()),.inr (112,()))) (ua1 n c d a):=by kernel_rfl
def gc2 (n b c a):ua1 (n+1) b c a=if 0<=IntKind.i64.wrap ((512:Int)+b)/\IntKind.i64.wrap ((512:Int)+b)<=((512:Nat):Int)/\((512:Nat):Int)<=((512:Nat):Int) then (if 0<=(0:Int)/\(0:Int)<=c/\(((IntKind.i64.wrap ((512:Int)+b)).toNat:Nat):Int)+c<=((512:Nat):Int) then (some (((a,()),()),.inl ((((IntKind.i64.wrap ((512:Int)+b)).toNat)+0,c.toNat-0),()))) else none) else none:=by kernel_rfl
def zah2:=okP gj4 func97
def kp4:KP:=⟨⟨cP vq8 (cE (zc6 zah2 (zc6 wq2 (v7 97))) eN),3,[],[([O,I,O,I,I,I],qt [4,5,15,16])],f101,⟨[],[],[],[],[0]⟩,[.d2,.ptr 0 2 [.a1],.ptr 0 3 [.a1]],[.d4,.blk 2 [.a1],.blk 3 [.a1]],[.row 157 (.bool)]⟩,.ifc 26 (.val (.int .i64))⟩
abbrev gr0:=Option ((u7×u1×u1×Unit)×(u7⊕u1))
def qat (n:Nat) (a:List Bool) (b c:Int):gr0:=tP kp4 n ((a,()),(b,()),(c,()),())
def yr8 (n e f:Nat) (g h:Int) (b:List Bool) (c d:Int) (a:List Bool):gr0:=uP kp4 n [O,I,O,I,I,I] ⟨[(4,.ptr 3 0),(5,.asl 3 0 1 512 e f),(15,ci g),(16,ci h)],[.k15 b,.blk 2 [ci c],.blk 3 [ci d],.k18 a]⟩
def uf5 (n a b c):qat n a b c=z8 (qcd v3 a) fun g=>match g.2 with| .inl e=>(if 512<=e.1.length then (z8 (qr v3 (List.take 512 (List.drop 0 e.1)) b c) fun f=>match f.2 with| .inl d=>(yr8 n d.1.1 d.1.2 (d.1.2:Int) 0 a b c f.1.1.1)| .inr h=>(some (((a,()),(b,()),(c,()),()),.inr (h.1,())))) else none)| .inr i=>(some (((a,()),(b,()),(c,()),()),.inr (i.1,()))):=by kernel_rfl
def qc4 (n f g h b c d e a):yr8 (n+1) f g h b c d e a=j4 (decide (b<h)) (if 0<=b/\b<(g:Int) then (yr8 n f g h (IntKind.i64.wrap (b+1)) c d e (a.set (f+b.toNat) true)) else none) (some (((c,()),(d,()),(e,()),()),.inl (a,()))):=by kernel_rfl
def uv2:=okP kp4 func101
def qbm_C:Ctx TT:=⟨ja9,[(101,(sP kp4).toCall (ze7 TT))],3,[],zz2,jc2⟩
def wl1:zc4 TT prog qbm_C.E:=zr2 (zc6 uv2 (v7 101)) (zm4)
def qu4:List (Pos×Cut):= []
def wt2:DefP TT:=⟨1,4,[4,0,2,3],4,133,[(3,0)],qj5,ql8⟩
def qbm (n:Nat) (a:List Bool) (b c:Int):Option ((u7×u1×u1×Unit)×(List Bool×Int×Unit)):=ks7 prog qbm_C qu4 f100 (zb0 f100) ⟨[(0,157,.bool,true)],[],[],[],[]⟩ [.fn 101 [] [.d2,.ptr 0 2 [.a1],.ptr 0 3 [.a1]]] [.d4,.blk 2 [.a1],.blk 3 [.a1]] [.row 157 (.bool),.a1] wt2 n (((),((a,()),(b,()),(c,()),())),())
def uf7 (n b c d):qbm n b c d=z8 (qat v3 b c d) fun a=>match a.2 with| .inl e=>(z8 (qbh 0) fun f=>some (((a.1.1.1,()),(a.1.2.1.1,()),(a.1.2.2.1.1,()),()),(e.1,f.1.1,())))| .inr g=>(z8 (qbi 0 g.1) fun h=>some (((a.1.1.1,()),(a.1.2.1.1,()),(a.1.2.2.1.1,()),()),(([]:List Bool),h.1.1,()))):=by kernel_rfl
def uj9:GSpec TT:=⟨[.fn 101 [] [.d2,.ptr 0 2 [.a1],.ptr 0 3 [.a1]]],[.d4,.blk 2 [.a1],.blk 3 [.a1]],[.row 157 (.bool),.a1],fun x=>qbm v3 x.1.2.1.1 x.1.2.2.1.1 x.1.2.2.2.1.1⟩
def zaa5:GOk TT prog 100 uj9:=ys7 (C:=qbm_C) (cuts:=qu4) (D:=wt2) (by kernel_rfl) wl1 func100 (show f100.body=some (zb0 f100) by kernel_rfl) (by kernel_rfl) (by kernel_rfl) (by kernel_rfl) vr7 vs4 fun x y h=>⟨v3,h⟩
def wp5:KF:=⟨cE (zb4 zaa5 (zb4 gs5 (v7 100))) eN,0,[],[],f76,⟨[],[(0,.list (.bool))]⟩,[.a4,.a1,.a1],[.a4,.a1]⟩
def qdd (n:Nat) (a:List Bool) (b c:Int):Option (List Bool×Int):=tF wp5 n (a,b,c)
def uh0 (n a b c):qdd n a b c=z8 (qbm v3 a b c) fun d=>some (d.2.1,d.2.2.1):=by kernel_rfl
def uv8:=okF wp5 func76
def ql_k:KF:=⟨eN,0,[(3,1)],[],f103,z0,[.d3],[.a9,.a8]⟩
def ql (n:Nat) (a:Known):Option (Span×Bool):=tF ql_k n a
def zak3 (n a):ql n a=j4 (a.Kind==4) (some ((⟨0,65535⟩:Span),true)) (some ((⟨a.In_Lo,a.In_Hi⟩:Span),a.Kind==1)):=by kernel_rfl
def wo0:=okF ql_k func103
def wr7:KF:=⟨eN,0,[],[],f99,z0,[.a2],[.a9]⟩
def qbv (n:Nat) (a:Int):Option (Span):=tF wr7 n a
def ue3 (n a):qbv n a=some (⟨a,a⟩:Span):=by kernel_rfl
def jk1:=okF wr7 func99
def ws7:KF:=⟨eN,0,[],[],f106,z0,[.a9],[.a8]⟩
def qv (n:Nat) (a:Span):Option (Bool):=tF ws7 n a
def zal4 (n a):qv n a=some (decide (a.Lo<=a.Hi)):=by kernel_rfl
def kl7:=okF ws7 func106
def kl6:KF:=⟨cF jk1 (cF kl7 eN),0,[],[([O,I,O,I],qt [1]),([O,O,O,O,I,O,I],qt [1])],f102,z0,[.d3],[.a8]⟩
def qaq (n:Nat) (a:Known):Option (Bool):=tF kl6 n a
def vq5 (n:Nat) (a b c:Int):Option (Bool):=uF kl6 n [O,O,O,O,I,O,I] ⟨[(1,.ptr 0 0)],[.k2 a b c]⟩
def vl6 (n:Nat) (a b c:Int):Option (Bool):=uF kl6 n [O,I,O,I] ⟨[(1,.ptr 0 0)],[.k2 a b c]⟩
def uv5 (n a):qaq n a=j4 (a.Kind==4) (vq5 n a.Kind a.In_Lo a.In_Hi) (j4 (a.Kind==0) (vq5 n a.Kind a.In_Lo a.In_Hi) (j4 (a.Kind==1) (vl6 n a.Kind a.In_Lo a.In_Hi) (j4 (a.Kind==2) (vl6 n a.Kind a.In_Lo a.In_Hi) (j4 (a.Kind==3) (z8 (qbv v3 a.In_Lo) fun b=>some ((a.In_Lo==b.Lo)&&(a.In_Hi==b.Hi))) (some false))))):=by kernel_rfl
def kg6 (n c a b):vq5 (n+1) c a b=some ((a==0)&&(b==0)):=by kernel_rfl
def kh1 (n c a b):vl6 (n+1) c a b=z8 (qv v3 (⟨a,b⟩:Span)) fun d=>some d:=by kernel_rfl
def gj2:=okF kl6 func102
def wx9:KF:=⟨eN,0,[],[],f179,z0,[.a9,.a9],[.a9]⟩
def qdr (n:Nat) (a b:Span):Option (Span):=tF wx9 n (a,b)
def uq1 (n a b):qdr n a b=some (⟨zo7 a.Lo b.Lo,zh7 a.Hi b.Hi⟩:Span):=by kernel_rfl
def uj0:=okF wx9 func179
def vj9:KF:=⟨cF wo0 (cF gj2 (cF uj0 eN)),0,[],[([O,O,I,I,I],qt [2,3,4,5,6,7,8,19]),([I,I,I,I,O,O,I,I,I],qt [2,3,4,5,7,34]),([I,I,I,I,I,I,O,O,I,I,I],qt [2,3,4,43])],f131,z0,[.d3,.d3],[.d3]⟩
def qaf (n:Nat) (a b:Known):Option (Known):=tF vj9 n (a,b)
def vn4 (n:Nat) (p q o:Bool) (a b c d e f g h i j k l m:Int):Option (Known):=uF vj9 n [O,O,I,I,I] ⟨[(2,.ptr 0 0),(3,.ptr 1 0),(4,.ptr 2 0),(5,.ptr 3 0),(6,cb p),(7,.ptr 4 0),(8,cb q),(19,cb o)],[.k2 a b c,.k2 d e f,.k2 g h i,.k3 j k,.k3 l m]⟩
def vo9 (n:Nat) (o:Bool) (a b c d e f g h i j k l m:Int):Option (Known):=uF vj9 n [I,I,I,I,O,O,I,I,I] ⟨[(2,.ptr 0 0),(3,.ptr 1 0),(4,.ptr 2 0),(5,.ptr 3 0),(7,.ptr 4 0),(34,cb o)],[.k2 a b c,.k2 d e f,.k2 g h i,.k3 j k,.k3 l m]⟩
def vn1 (n:Nat) (j:Bool) (a b c d e f g h i:Int):Option (Known):=uF vj9 n [I,I,I,I,I,I,O,O,I,I,I] ⟨[(2,.ptr 0 0),(3,.ptr 1 0),(4,.ptr 2 0),(43,cb j)],[.k2 a b c,.k2 d e f,.k2 g h i]⟩
def ui7 (n a b):qaf n a b=z8 (ql v3 a) fun c=>z8 (ql v3 b) fun d=>z8 (qaq v3 a) fun e=>j4 (!e) (vn4 n c.2 d.2 true a.Kind a.In_Lo a.In_Hi b.Kind b.In_Lo b.In_Hi 0 0 0 c.1.Lo c.1.Hi d.1.Lo d.1.Hi) (z8 (qaq v3 b) fun f=>vn4 n c.2 d.2 (!f) a.Kind a.In_Lo a.In_Hi b.Kind b.In_Lo b.In_Hi 0 0 0 c.1.Lo c.1.Hi d.1.Lo d.1.Hi):=by kernel_rfl
def kc3 (n p q o a b c d e f g h i j k l m):vn4 (n+1) p q o a b c d e f g h i j k l m=j4 o (some (⟨0,0,0⟩:Known)) (j4 ((a==d)&&((b==e)&&(c==f))) (some (⟨a,b,c⟩:Known)) (j4 p (vo9 n q a b c d e f g h i j k l m) (vo9 n false a b c d e f g h i j k l m))):=by kernel_rfl
def vz0 (n o a c d b e f g h i j k l m):vo9 (n+1) o a c d b e f g h i j k l m=j4 o (z8 (qdr v3 (⟨j,k⟩:Span) (⟨l,m⟩:Span)) fun p=>some (⟨1,p.Lo,p.Hi⟩:Known)) (j4 (a==2) (vn1 n (b==2) a c d b e f g h i) (vn1 n false a c d b e f g h i)):=by kernel_rfl
def ke8 (n e f a b g c d h i j):vn1 (n+1) e f a b g c d h i j=j4 e (z8 (qdr v3 (⟨a,b⟩:Span) (⟨c,d⟩:Span)) fun k=>some (⟨2,k.Lo,k.Hi⟩:Known)) (some (⟨0,0,0⟩:Known)):=by kernel_rfl
def gt0:=okF vj9 func131
end
end Go.X
