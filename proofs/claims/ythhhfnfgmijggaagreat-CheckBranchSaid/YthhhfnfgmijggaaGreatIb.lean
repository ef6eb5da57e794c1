import Derived.Test.YthhhfnfgmijggaaGreatIa
namespace Go.X
open Go.RowKit Go.V Go.Proofs Tryz
noncomputable section
def qdd_C:Ctx TT:=⟨za5,[],0,[],k9,za6⟩
theorem gu0:v7 TT prog qdd_C.E:=v5
def qt7:List (Pos×Cut):= []
def qdd (n:Nat):Option (List Bool):=zg2 TT prog qdd_C qt7 f39 (j5 f39) ⟨[],[(0,.list (.bool))]⟩ [] [.val (.list (.bool))] n ()
theorem wm1 (n:Nat):qdd n=if 0<=(512:Int)/\(512:Int)<=(512:Int)/\1*512<=281474976710656/\(512:Int)<=9223372036854775807 then (some (List.replicate 512 false)) else none:=by kernel_rfl
def qdd_sp:FnSpec TT:=⟨[],[.val (.list (.bool))],fun _=>qdd v9⟩
theorem uh1:ze8 TT prog 39 qdd_sp:=za0 (C:=qdd_C) (by kernel_rfl) gu0 func39 (show f39.body=some (j5 f39) by kernel_rfl) (by kernel_rfl) (by kernel_rfl) (cuts:=qt7) fun x y h=>⟨v9,h⟩
def qbc_C:Ctx TT:=⟨za5,[],0,[],k9,za6⟩
theorem go6:v7 TT prog qbc_C.E:=v5
def qq1:List (Pos×Cut):= []
def qbc (n:Nat) (x0:List Bool):Option ((Unit)×((List Bool×Unit)⊕(Int×Unit))):=zz4 TT prog qbc_C qq1 f96 (j5 f96) ⟨[],[],[],[],[]⟩ [.val (.list (.bool))] [] [.lpk (.bool) 0 0] (.ifc 26 (.val (.int .i64))) n (x0,())
theorem gc2 (n:Nat) (x0):qbc n x0=q7 (((x0.length:Nat):Int) != (512:Int)) (some ((),.inr ((2:Int),()))) (if 512<=x0.length then (some ((),.inl (x0,()))) else none):=by kernel_rfl
def qbc_sp:PSpec TT:=⟨[.val (.list (.bool))],[],[.lpk (.bool) 0 0],.ifc 26 (.val (.int .i64)),fun x=>qbc v9 x.1⟩
theorem vj9:POk TT prog 96 qbc_sp:=zf7 (C:=qbc_C) (cuts:=qq1) (by kernel_rfl) go6 func96 (show f96.body=some (j5 f96) by kernel_rfl) (by kernel_rfl) (by kernel_rfl) (by kernel_rfl) fun x y h=>⟨v9,h⟩
def qi_C:Ctx TT:=⟨za5,[],0,[],k9,za6⟩
theorem wl5:v7 TT prog qi_C.E:=v5
def qb1:List (Pos×Cut):= [([true],⟨[0,1,2],[],false,[],0,false⟩),([false,true,false,true],⟨[0,1,2,9],[],false,[],0,false⟩),([true,true],⟨[0,1,2],[],false,[],0,false⟩),([false,true,true],⟨[0,1,2,21],[],false,[],0,false⟩)]
def qi (n:Nat) (x0:List Bool) (x1 x2:Int):Option ((Unit)×((List Bool×Unit)⊕(Int×Unit))):=zz4 TT prog qi_C qb1 f97 (j5 f97) ⟨[],[],[],[],[]⟩ [.lpk (.bool) 0 0,.val (.int .i64),.val (.int .i64)] [] [.val (.list (.bool))] (.ifc 26 (.val (.int .i64))) n (x0,x1,x2,())
noncomputable abbrev wh8:=yr2 TT prog qi_C qb1 f97 (j5 f97) ⟨[],[],[],[],[]⟩ [] [.val (.list (.bool))] (.ifc 26 (.val (.int .i64)))
def qe8 (n:Nat) (s0l:List Bool) (s1 s2:Int) (s9:Bool):Option ((Unit)×((List Bool×Unit)⊕(Int×Unit))):=wh8 n [false,true,false,true] ⟨[(0,.lptr (.bool) s0l 0 0),(1,ci s1),(2,ci s2),(9,cb s9)],[]⟩
def wi9 (n:Nat) (s0l:List Bool) (s1 s2:Int):Option ((Unit)×((List Bool×Unit)⊕(Int×Unit))):=wh8 n [true] ⟨[(0,.lptr (.bool) s0l 0 0),(1,ci s1),(2,ci s2)],[]⟩
def gj0 (n:Nat) (s0l:List Bool) (s1 s2:Int) (s21:Bool):Option ((Unit)×((List Bool×Unit)⊕(Int×Unit))):=wh8 n [false,true,true] ⟨[(0,.lptr (.bool) s0l 0 0),(1,ci s1),(2,ci s2),(21,cb s21)],[]⟩
def we7 (n:Nat) (s0l:List Bool) (s1 s2:Int):Option ((Unit)×((List Bool×Unit)⊕(Int×Unit))):=wh8 n [true,true] ⟨[(0,.lptr (.bool) s0l 0 0),(1,ci s1),(2,ci s2)],[]⟩
theorem us7 (n:Nat) (x0 x1 x2):qi n x0 x1 x2=q7 (x2==(1:Int)) (qe8 n x0 x1 x2 (x2==(1:Int))) (q7 (x2==(2:Int)) (qe8 n x0 x1 x2 (x2==(2:Int))) (q7 (x2==(4:Int)) (qe8 n x0 x1 x2 (x2==(4:Int))) (qe8 n x0 x1 x2 (x2==(8:Int))))):=by kernel_rfl
theorem km3 (n:Nat) (s0l s1 s2 s9):qe8 (n+1) s0l s1 s2 s9=q7 s9 (wi9 n s0l s1 s2) (some ((),.inr ((2:Int),()))):=by kernel_rfl
theorem kk5 (n:Nat) (s0l s1 s2):wi9 (n+1) s0l s1 s2=q7 (decide (s1<(-512:Int))) (gj0 n s0l s1 s2 true) (gj0 n s0l s1 s2 (decide (s1>(IntKind.i64.wrap (0-s2))))):=by kernel_rfl
theorem jp2 (n:Nat) (s0l s1 s2 s21):gj0 (n+1) s0l s1 s2 s21=q7 s21 (some ((),.inr ((112:Int),()))) (we7 n s0l s1 s2):=by kernel_rfl
theorem ku5 (n:Nat) (s0l s1 s2):we7 (n+1) s0l s1 s2=if 512<=s0l.length then (if 0<=IntKind.i64.wrap ((512:Int)+s1)/\IntKind.i64.wrap ((512:Int)+s1)<=((512:Nat):Int)/\((512:Nat):Int)<=((512:Nat):Int) then (if 0<=(0:Int)/\(0:Int)<=s2/\s2<=(((List.take (((512:Nat):Int).toNat-(IntKind.i64.wrap ((512:Int)+s1)).toNat) (List.drop ((IntKind.i64.wrap ((512:Int)+s1)).toNat) s0l)).length:Nat):Int) then (some ((),.inl (List.take (s2.toNat-0) (List.drop 0 (List.take (((512:Nat):Int).toNat-(IntKind.i64.wrap ((512:Int)+s1)).toNat) (List.drop ((IntKind.i64.wrap ((512:Int)+s1)).toNat) s0l))),()))) else none) else none) else none:=by kernel_rfl
def qi_sp:PSpec TT:=⟨[.lpk (.bool) 0 0,.val (.int .i64),.val (.int .i64)],[],[.val (.list (.bool))],.ifc 26 (.val (.int .i64)),fun x=>qi v9 x.1 x.2.1 x.2.2.1⟩
theorem wg4:POk TT prog 97 qi_sp:=zf7 (C:=qi_C) (cuts:=qb1) (by kernel_rfl) wl5 func97 (show f97.body=some (j5 f97) by kernel_rfl) (by kernel_rfl) (by kernel_rfl) (by kernel_rfl) fun x y h=>⟨v9,h⟩
def qv_C:Ctx TT:=⟨za5,[(96,qbc_sp.toCall (k7 TT)),(97,qi_sp.toCall (k7 TT))],3,[(1,1)],k9,za6⟩
theorem wx2:v7 TT prog qv_C.E:=w6 (za1 vj9 (j9 96)) (w6 (za1 wg4 (j9 97)) (v5))
def qc1:List (Pos×Cut):= [([false,true,false,true],⟨[10,11,12],[],false,[],0,false⟩),([true,true,false,false,true,false,true],⟨[10,11,12],[],false,[],0,false⟩)]
def qv (n:Nat) (x0:List Bool) (x1 x2:Int):Option (((List Bool×Unit)×(Int×Unit)×(Int×Unit)×Unit)×((Bool×Unit)⊕(Int×Unit))):=zz4 TT prog qv_C qc1 f95 (j5 f95) ⟨[],[],[],[],[]⟩ [.ptr 0 35 [.val (.list (.bool))],.ptr 0 2 [.val (.int .i64)],.ptr 0 3 [.val (.int .i64)]] [.blk 35 [.val (.list (.bool))],.blk 2 [.val (.int .i64)],.blk 3 [.val (.int .i64)]] [.val (.bool)] (.ifc 26 (.val (.int .i64))) n ((x0,()),(x1,()),(x2,()),())
noncomputable abbrev uy9:=yr2 TT prog qv_C qc1 f95 (j5 f95) ⟨[],[],[],[],[]⟩ [.blk 35 [.val (.list (.bool))],.blk 2 [.val (.int .i64)],.blk 3 [.val (.int .i64)]] [.val (.bool)] (.ifc 26 (.val (.int .i64)))
def jd5 (n:Nat) (s10:List Bool) (s11 s12:Int) (b0_0:List Bool) (b1_0 b2_0:Int):Option (((List Bool×Unit)×(Int×Unit)×(Int×Unit)×Unit)×((Bool×Unit)⊕(Int×Unit))):=uy9 n [false,true,false,true] ⟨[(10,.cell ⟨.list (.bool),s10⟩),(11,ci s11),(12,ci s12)],[.blk 35 [.cell ⟨.list (.bool),b0_0⟩],.blk 2 [ci b1_0],.blk 3 [ci b2_0]]⟩
def wk1 (n:Nat) (s10:List Bool) (s11 s12:Int) (b0_0:List Bool) (b1_0 b2_0:Int):Option (((List Bool×Unit)×(Int×Unit)×(Int×Unit)×Unit)×((Bool×Unit)⊕(Int×Unit))):=uy9 n [true,true,false,false,true,false,true] ⟨[(10,.cell ⟨.list (.bool),s10⟩),(11,ci s11),(12,ci s12)],[.blk 35 [.cell ⟨.list (.bool),b0_0⟩],.blk 2 [ci b1_0],.blk 3 [ci b2_0]]⟩
theorem us1 (n:Nat) (x0 x1 x2):qv n x0 x1 x2=j7 (qbc v9 x0) fun y1=>match y1.2 with| .inl z1=>(j7 (qi v9 z1.1 x1 x2) fun y2=>match y2.2 with| .inl z2=>(jd5 n z2.1 ((z2.1.length:Nat):Int) (0:Int) x0 x1 x2)| .inr e2=>(some (((x0,()),(x1,()),(x2,()),()),.inr (e2.1,()))))| .inr e1=>(some (((x0,()),(x1,()),(x2,()),()),.inr (e1.1,()))):=by kernel_rfl
theorem qs2 (n:Nat) (s10 s11 s12 b0_0 b1_0 b2_0):jd5 (n+1) s10 s11 s12 b0_0 b1_0 b2_0=q7 (decide (s12<s11)) (if 0<=s12/\s12<((s10.length:Nat):Int) then (q7 (!(s10.getD s12.toNat false)) (some (((b0_0,()),(b1_0,()),(b2_0,()),()),.inr ((110:Int),()))) (wk1 n s10 s11 s12 b0_0 b1_0 b2_0)) else none) (some (((b0_0,()),(b1_0,()),(b2_0,()),()),.inl (true,()))):=by kernel_rfl
theorem kp8 (n:Nat) (s10 s11 s12 b0_0 b1_0 b2_0):wk1 (n+1) s10 s11 s12 b0_0 b1_0 b2_0=jd5 n s10 s11 (IntKind.i64.wrap (s12+(1:Int))) b0_0 b1_0 b2_0:=by kernel_rfl
def qv_sp:PSpec TT:=⟨[.ptr 0 35 [.val (.list (.bool))],.ptr 0 2 [.val (.int .i64)],.ptr 0 3 [.val (.int .i64)]],[.blk 35 [.val (.list (.bool))],.blk 2 [.val (.int .i64)],.blk 3 [.val (.int .i64)]],[.val (.bool)],.ifc 26 (.val (.int .i64)),fun x=>qv v9 x.1.1 x.2.1.1 x.2.2.1.1⟩
theorem uo3:POk TT prog 95 qv_sp:=zf7 (C:=qv_C) (cuts:=qc1) (by kernel_rfl) wx2 func95 (show f95.body=some (j5 f95) by kernel_rfl) (by kernel_rfl) (by kernel_rfl) (by kernel_rfl) fun x y h=>⟨v9,h⟩
def qey_C:Ctx TT:=⟨za5,[],1,[],k9,za6⟩
theorem wc6:v7 TT prog qey_C.E:=v5
def qey (x0:Int):Option ((Int×Unit)×Unit):=yl6 prog qey_C f130 (j5 f130) [.ptr 0 26 [.val (.int .i64)]] (.rw 1) [.blk 26 [.val (.int .i64)]] ((x0,()),(),())
theorem wx7 (x0:Int):qey x0=some ((x0,()),()):=by kernel_rfl
def vu3:DSpec TT:=⟨[.ptr 0 26 [.val (.int .i64)]],.rw 1,[.blk 26 [.val (.int .i64)]],fun x=>qey x.1.1⟩
theorem gz1:DOk TT prog 130 vu3:=yd9 (C:=qey_C) (by kernel_rfl) wc6 func130 (show f130.body=some (j5 f130) by kernel_rfl) (by kernel_rfl) (by kernel_rfl) (by kernel_rfl) (by kernel_rfl) fun x y h=>h
def qdp_C:Ctx TT:=⟨za5,[],1,[],k9,za6⟩
theorem gk3:v7 TT prog qdp_C.E:=v5
def qdp (x0 x1:Int):Option ((Int×Unit)×Unit):=yl6 prog qdp_C f130 (j5 f130) [.ptr 0 26 [.val (.int .i64)]] (.ifc 26 (.val (.int .i64))) [.blk 26 [.val (.int .i64)]] ((x0,()),x1,())
theorem gf0 (x0:Int) (x1):qdp x0 x1=some ((x1,()),()):=by kernel_rfl
def vr4:DSpec TT:=⟨[.ptr 0 26 [.val (.int .i64)]],.ifc 26 (.val (.int .i64)),[.blk 26 [.val (.int .i64)]],fun x=>qdp x.1.1 x.2.1⟩
theorem gx5:DOk TT prog 130 vr4:=yd9 (C:=qdp_C) (by kernel_rfl) gk3 func130 (show f130.body=some (j5 f130) by kernel_rfl) (by kernel_rfl) (by kernel_rfl) (by kernel_rfl) (by kernel_rfl) fun x y h=>h
def qce_C:Ctx TT:=⟨za5,[(95,qv_sp.toCall (k7 TT))],3,[],k9,za6⟩
theorem gm5:v7 TT prog qce_C.E:=w6 (za1 uo3 (j9 95)) (v5)
def ql7:List (Pos×Cut):= []
def wj7:DefP TT:=⟨1,4,[4,0,2,3],4,130,[(3,0)],vu3,vr4⟩
def qce (n:Nat) (x0:List Bool) (x1 x2:Int):Option (((List Bool×Unit)×(Int×Unit)×(Int×Unit)×Unit)×(Bool×Int×Unit)):=kj2 prog qce_C ql7 f94 (j5 f94) ⟨[],[],[],[],[]⟩ [.fn 95 [] [.ptr 0 35 [.val (.list (.bool))],.ptr 0 2 [.val (.int .i64)],.ptr 0 3 [.val (.int .i64)]]] [.blk 35 [.val (.list (.bool))],.blk 2 [.val (.int .i64)],.blk 3 [.val (.int .i64)]] [.val (.bool),.val (.int .i64)] wj7 n (((),((x0,()),(x1,()),(x2,()),())),())
theorem wm2 (n:Nat) (x0 x1 x2):qce n x0 x1 x2=j7 (qv v9 x0 x1 x2) fun y1=>match y1.2 with| .inl z1=>(j7 (qey (0:Int)) fun y2=>some (((y1.1.1.1,()),(y1.1.2.1.1,()),(y1.1.2.2.1.1,()),()),(z1.1,y2.1.1,())))| .inr e1=>(j7 (qdp (0:Int) e1.1) fun y3=>some (((y1.1.1.1,()),(y1.1.2.1.1,()),(y1.1.2.2.1.1,()),()),(false,y3.1.1,()))):=by kernel_rfl
def qce_sp:GSpec TT:=⟨[.fn 95 [] [.ptr 0 35 [.val (.list (.bool))],.ptr 0 2 [.val (.int .i64)],.ptr 0 3 [.val (.int .i64)]]],[.blk 35 [.val (.list (.bool))],.blk 2 [.val (.int .i64)],.blk 3 [.val (.int .i64)]],[.val (.bool),.val (.int .i64)],fun x=>qce v9 x.1.2.1.1 x.1.2.2.1.1 x.1.2.2.2.1.1⟩
theorem ui5:GOk TT prog 94 qce_sp:=yp3 (C:=qce_C) (cuts:=ql7) (D:=wj7) (by kernel_rfl) gm5 func94 (show f94.body=some (j5 f94) by kernel_rfl) (by kernel_rfl) (by kernel_rfl) (by kernel_rfl) gz1 gx5 fun x y h=>⟨v9,h⟩
def qcf_C:Ctx TT:=⟨za5,[(94,qce_sp.toCall (k7 TT))],0,[],k9,za6⟩
theorem wc3:v7 TT prog qcf_C.E:=w6 (k8 ui5 (j9 94)) (v5)
def qq9:List (Pos×Cut):= []
def qcf (n:Nat) (x0:List Bool) (x1 x2:Int):Option (Int):=zg2 TT prog qcf_C qq9 f70 (j5 f70) ⟨[],[]⟩ [.val (.list (.bool)),.val (.int .i64),.val (.int .i64)] [.val (.int .i64)] n (x0,x1,x2)
theorem uf9 (n:Nat) (x0 x1 x2):qcf n x0 x1 x2=j7 (qce v9 x0 x1 x2) fun y1=>some y1.2.2.1:=by kernel_rfl
def qcf_sp:FnSpec TT:=⟨[.val (.list (.bool)),.val (.int .i64),.val (.int .i64)],[.val (.int .i64)],fun x=>qcf v9 x.1 x.2.1 x.2.2⟩
theorem ui3:ze8 TT prog 70 qcf_sp:=za0 (C:=qcf_C) (by kernel_rfl) wc3 func70 (show f70.body=some (j5 f70) by kernel_rfl) (by kernel_rfl) (by kernel_rfl) (cuts:=qq9) fun x y h=>⟨v9,h⟩
def qr_C:Ctx TT:=⟨za5,[(96,qbc_sp.toCall (k7 TT))],2,[(1,1)],k9,za6⟩
theorem ww7:v7 TT prog qr_C.E:=w6 (za1 vj9 (j9 96)) (v5)
def qc2:List (Pos×Cut):= [([false,true,false,true,true],⟨[3,4,12],[],false,[],0,false⟩),([true,true,false,false,true,false,true,true],⟨[3,4,12],[],false,[],0,false⟩)]
def qr (n:Nat) (x0 x1:List Bool):Option (((List Bool×Unit)×(List Bool×Unit)×Unit)×((List Bool×Unit)⊕(Int×Unit))):=zz4 TT prog qr_C qc2 f180 (j5 f180) ⟨[],[],[],[],[0]⟩ [.ptr 0 35 [.val (.list (.bool))],.ptr 0 35 [.val (.list (.bool))]] [.blk 35 [.val (.list (.bool))],.blk 35 [.val (.list (.bool))]] [.row 157 (.bool)] (.ifc 26 (.val (.int .i64))) n ((x0,()),(x1,()),())
noncomputable abbrev uy0:=yr2 TT prog qr_C qc2 f180 (j5 f180) ⟨[],[],[],[],[0]⟩ [.blk 35 [.val (.list (.bool))],.blk 35 [.val (.list (.bool))]] [.row 157 (.bool)] (.ifc 26 (.val (.int .i64)))
def jd3 (n:Nat) (s4l:List Bool) (s12:Int) (b0_0 b1_0 b2_0l:List Bool):Option (((List Bool×Unit)×(List Bool×Unit)×Unit)×((List Bool×Unit)⊕(Int×Unit))):=uy0 n [false,true,false,true,true] ⟨[(3,.ptr 2 0),(4,.lptr (.bool) s4l 0 0),(12,ci s12)],[.blk 35 [.cell ⟨.list (.bool),b0_0⟩],.blk 35 [.cell ⟨.list (.bool),b1_0⟩],.blk 157 [.arr (.bool) 512 b2_0l]]⟩
def kh7 (n:Nat) (s4l:List Bool) (s12:Int) (b0_0 b1_0 b2_0l:List Bool):Option (((List Bool×Unit)×(List Bool×Unit)×Unit)×((List Bool×Unit)⊕(Int×Unit))):=uy0 n [true,true,false,false,true,false,true,true] ⟨[(3,.ptr 2 0),(4,.lptr (.bool) s4l 0 0),(12,ci s12)],[.blk 35 [.cell ⟨.list (.bool),b0_0⟩],.blk 35 [.cell ⟨.list (.bool),b1_0⟩],.blk 157 [.arr (.bool) 512 b2_0l]]⟩
theorem uw9 (n:Nat) (x0 x1):qr n x0 x1=j7 (qbc v9 x0) fun y1=>match y1.2 with| .inl z1=>(if 512<=z1.1.length then (j7 (qbc v9 x1) fun y2=>match y2.2 with| .inl z2=>(jd3 n z2.1 (0:Int) x0 x1 (List.take 512 (List.drop 0 z1.1)))| .inr e2=>(some (((x0,()),(x1,()),()),.inr (e2.1,())))) else none)| .inr e1=>(some (((x0,()),(x1,()),()),.inr (e1.1,()))):=by kernel_rfl
theorem qv9 (n:Nat) (s4l s12 b0_0 b1_0 b2_0l):jd3 (n+1) s4l s12 b0_0 b1_0 b2_0l=q7 (decide (s12<(512:Int))) (if 0<=s12/\s12<((512:Nat):Int) then (q7 (b2_0l.getD s12.toNat false) (if 0<=s12/\s12<((512:Nat):Int) then (if 0+s12.toNat<s4l.length then (if 0<=s12/\s12<((512:Nat):Int) then (kh7 n s4l s12 b0_0 b1_0 (b2_0l.set s12.toNat (s4l.getD (0+s12.toNat) false))) else none) else none) else none) (if 0<=s12/\s12<((512:Nat):Int) then (kh7 n s4l s12 b0_0 b1_0 (b2_0l.set s12.toNat false)) else none)) else none) (some (((b0_0,()),(b1_0,()),()),.inl (b2_0l,()))):=by kernel_rfl
theorem ko9 (n:Nat) (s4l s12 b0_0 b1_0 b2_0l):kh7 (n+1) s4l s12 b0_0 b1_0 b2_0l=jd3 n s4l (IntKind.i64.wrap (s12+(1:Int))) b0_0 b1_0 b2_0l:=by kernel_rfl
def qr_sp:PSpec TT:=⟨[.ptr 0 35 [.val (.list (.bool))],.ptr 0 35 [.val (.list (.bool))]],[.blk 35 [.val (.list (.bool))],.blk 35 [.val (.list (.bool))]],[.row 157 (.bool)],.ifc 26 (.val (.int .i64)),fun x=>qr v9 x.1.1 x.2.1.1⟩
theorem uw8:POk TT prog 180 qr_sp:=zf7 (C:=qr_C) (cuts:=qc2) (by kernel_rfl) ww7 func180 (show f180.body=some (j5 f180) by kernel_rfl) (by kernel_rfl) (by kernel_rfl) (by kernel_rfl) fun x y h=>⟨v9,h⟩
def qcg_C:Ctx TT:=⟨za5,[],1,[],k9,za6⟩
theorem wa7:v7 TT prog qcg_C.E:=v5
def qcg (x0:Int):Option ((Int×Unit)×Unit):=yl6 prog qcg_C f133 (j5 f133) [.ptr 0 26 [.val (.int .i64)]] (.rw 1) [.blk 26 [.val (.int .i64)]] ((x0,()),(),())
theorem ge4 (x0:Int):qcg x0=some ((x0,()),()):=by kernel_rfl
def qc4:DSpec TT:=⟨[.ptr 0 26 [.val (.int .i64)]],.rw 1,[.blk 26 [.val (.int .i64)]],fun x=>qcg x.1.1⟩
theorem vr0:DOk TT prog 133 qc4:=yd9 (C:=qcg_C) (by kernel_rfl) wa7 func133 (show f133.body=some (j5 f133) by kernel_rfl) (by kernel_rfl) (by kernel_rfl) (by kernel_rfl) (by kernel_rfl) fun x y h=>h
def qch_C:Ctx TT:=⟨za5,[],1,[],k9,za6⟩
theorem gv4:v7 TT prog qch_C.E:=v5
def qch (x0 x1:Int):Option ((Int×Unit)×Unit):=yl6 prog qch_C f133 (j5 f133) [.ptr 0 26 [.val (.int .i64)]] (.ifc 26 (.val (.int .i64))) [.blk 26 [.val (.int .i64)]] ((x0,()),x1,())
theorem ge0 (x0:Int) (x1):qch x0 x1=some ((x1,()),()):=by kernel_rfl
def qe1:DSpec TT:=⟨[.ptr 0 26 [.val (.int .i64)]],.ifc 26 (.val (.int .i64)),[.blk 26 [.val (.int .i64)]],fun x=>qch x.1.1 x.2.1⟩
theorem vr8:DOk TT prog 133 qe1:=yd9 (C:=qch_C) (by kernel_rfl) gv4 func133 (show f133.body=some (j5 f133) by kernel_rfl) (by kernel_rfl) (by kernel_rfl) (by kernel_rfl) (by kernel_rfl) fun x y h=>h
def qbw_C:Ctx TT:=⟨za5,[(180,qr_sp.toCall (k7 TT))],2,[],k9,za6⟩
theorem wb9:v7 TT prog qbw_C.E:=w6 (za1 uw8 (j9 180)) (v5)
def qs9:List (Pos×Cut):= []
def wk2:DefP TT:=⟨1,4,[4,0,2,3],3,133,[(2,0)],qc4,qe1⟩
def qbw (n:Nat) (x0 x1:List Bool):Option (((List Bool×Unit)×(List Bool×Unit)×Unit)×(List Bool×Int×Unit)):=kj2 prog qbw_C qs9 f100 (j5 f100) ⟨[(0,157,.bool,true)],[],[],[],[]⟩ [.fn 180 [] [.ptr 0 35 [.val (.list (.bool))],.ptr 0 35 [.val (.list (.bool))]]] [.blk 35 [.val (.list (.bool))],.blk 35 [.val (.list (.bool))]] [.row 157 (.bool),.val (.int .i64)] wk2 n (((),((x0,()),(x1,()),())),())
theorem wt0 (n:Nat) (x0 x1):qbw n x0 x1=j7 (qr v9 x0 x1) fun y1=>match y1.2 with| .inl z1=>(j7 (qcg (0:Int)) fun y2=>some (((y1.1.1.1,()),(y1.1.2.1.1,()),()),(z1.1,y2.1.1,())))| .inr e1=>(j7 (qch (0:Int) e1.1) fun y3=>some (((y1.1.1.1,()),(y1.1.2.1.1,()),()),(([]:List Bool),y3.1.1,()))):=by kernel_rfl
def qbw_sp:GSpec TT:=⟨[.fn 180 [] [.ptr 0 35 [.val (.list (.bool))],.ptr 0 35 [.val (.list (.bool))]]],[.blk 35 [.val (.list (.bool))],.blk 35 [.val (.list (.bool))]],[.row 157 (.bool),.val (.int .i64)],fun x=>qbw v9 x.1.2.1.1 x.1.2.2.1.1⟩
theorem ky1:GOk TT prog 100 qbw_sp:=yp3 (C:=qbw_C) (cuts:=qs9) (D:=wk2) (by kernel_rfl) wb9 func100 (show f100.body=some (j5 f100) by kernel_rfl) (by kernel_rfl) (by kernel_rfl) (by kernel_rfl) vr0 vr8 fun x y h=>⟨v9,h⟩
def qbo_C:Ctx TT:=⟨za5,[(100,qbw_sp.toCall (k7 TT))],0,[],k9,za6⟩
theorem wc1:v7 TT prog qbo_C.E:=w6 (k8 ky1 (j9 100)) (v5)
def qq3:List (Pos×Cut):= []
def qbo (n:Nat) (x0 x1:List Bool):Option (List Bool):=zg2 TT prog qbo_C qq3 f132 (j5 f132) ⟨[],[(0,.list (.bool))]⟩ [.val (.list (.bool)),.val (.list (.bool))] [.val (.list (.bool))] n (x0,x1)
theorem wy6 (n:Nat) (x0 x1):qbo n x0 x1=j7 (qbw v9 x0 x1) fun y1=>some y1.2.1:=by kernel_rfl
def qbo_sp:FnSpec TT:=⟨[.val (.list (.bool)),.val (.list (.bool))],[.val (.list (.bool))],fun x=>qbo v9 x.1 x.2⟩
theorem gd3:ze8 TT prog 132 qbo_sp:=za0 (C:=qbo_C) (by kernel_rfl) wc1 func132 (show f132.body=some (j5 f132) by kernel_rfl) (by kernel_rfl) (by kernel_rfl) (cuts:=qq3) fun x y h=>⟨v9,h⟩
def qj_C:Ctx TT:=⟨za5,[],1,[],k9,za6⟩
theorem uc3:v7 TT prog qj_C.E:=v5
def qa9:List (Pos×Cut):= [([true],⟨[0,1,2],[],false,[],0,false⟩),([false,true,false,true],⟨[0,1,2,9],[],false,[],0,false⟩),([true,true],⟨[0,1,2],[],false,[],0,false⟩),([false,true,true],⟨[0,1,2,21],[],false,[],0,false⟩)]
def qj (n:Nat) (x0:List Bool) (x1 x2:Int):Option (((List Bool×Unit)×Unit)×(((Nat×Nat)×Unit)⊕(Int×Unit))):=zz4 TT prog qj_C qa9 f97 (j5 f97) ⟨[],[],[],[],[]⟩ [.ptr 0 157 [.arr (.bool) 512],.val (.int .i64),.val (.int .i64)] [.blk 157 [.arr (.bool) 512]] [.asp 0 0 1 512] (.ifc 26 (.val (.int .i64))) n ((x0,()),x1,x2,())
noncomputable abbrev wj5:=yr2 TT prog qj_C qa9 f97 (j5 f97) ⟨[],[],[],[],[]⟩ [.blk 157 [.arr (.bool) 512]] [.asp 0 0 1 512] (.ifc 26 (.val (.int .i64)))
def qf9 (n:Nat) (s1 s2:Int) (s9:Bool) (b0_0l:List Bool):Option (((List Bool×Unit)×Unit)×(((Nat×Nat)×Unit)⊕(Int×Unit))):=wj5 n [false,true,false,true] ⟨[(0,.ptr 0 0),(1,ci s1),(2,ci s2),(9,cb s9)],[.blk 157 [.arr (.bool) 512 b0_0l]]⟩
def wj3 (n:Nat) (s1 s2:Int) (b0_0l:List Bool):Option (((List Bool×Unit)×Unit)×(((Nat×Nat)×Unit)⊕(Int×Unit))):=wj5 n [true] ⟨[(0,.ptr 0 0),(1,ci s1),(2,ci s2)],[.blk 157 [.arr (.bool) 512 b0_0l]]⟩
def gh9 (n:Nat) (s1 s2:Int) (s21:Bool) (b0_0l:List Bool):Option (((List Bool×Unit)×Unit)×(((Nat×Nat)×Unit)⊕(Int×Unit))):=wj5 n [false,true,true] ⟨[(0,.ptr 0 0),(1,ci s1),(2,ci s2),(21,cb s21)],[.blk 157 [.arr (.bool) 512 b0_0l]]⟩
def wh4 (n:Nat) (s1 s2:Int) (b0_0l:List Bool):Option (((List Bool×Unit)×Unit)×(((Nat×Nat)×Unit)⊕(Int×Unit))):=wj5 n [true,true] ⟨[(0,.ptr 0 0),(1,ci s1),(2,ci s2)],[.blk 157 [.arr (.bool) 512 b0_0l]]⟩
theorem uq1 (n:Nat) (x0 x1 x2):qj n x0 x1 x2=q7 (x2==(1:Int)) (qf9 n x1 x2 (x2==(1:Int)) x0) (q7 (x2==(2:Int)) (qf9 n x1 x2 (x2==(2:Int)) x0) (q7 (x2==(4:Int)) (qf9 n x1 x2 (x2==(4:Int)) x0) (qf9 n x1 x2 (x2==(8:Int)) x0))):=by kernel_rfl
theorem km0 (n:Nat) (s1 s2 s9 b0_0l):qf9 (n+1) s1 s2 s9 b0_0l=q7 s9 (wj3 n s1 s2 b0_0l) (some (((b0_0l,()),()),.inr ((2:Int),()))):=by kernel_rfl
theorem kv6 (n:Nat) (s1 s2 b0_0l):wj3 (n+1) s1 s2 b0_0l=q7 (decide (s1<(-512:Int))) (gh9 n s1 s2 true b0_0l) (gh9 n s1 s2 (decide (s1>(IntKind.i64.wrap (0-s2)))) b0_0l):=by kernel_rfl
theorem jm6 (n:Nat) (s1 s2 s21 b0_0l):gh9 (n+1) s1 s2 s21 b0_0l=q7 s21 (some (((b0_0l,()),()),.inr ((112:Int),()))) (wh4 n s1 s2 b0_0l):=by kernel_rfl
theorem km9 (n:Nat) (s1 s2 b0_0l):wh4 (n+1) s1 s2 b0_0l=if 0<=IntKind.i64.wrap ((512:Int)+s1)/\IntKind.i64.wrap ((512:Int)+s1)<=((512:Nat):Int)/\((512:Nat):Int)<=((512:Nat):Int) then (if 0<=(0:Int)/\(0:Int)<=s2/\(((IntKind.i64.wrap ((512:Int)+s1)).toNat:Nat):Int)+s2<=((512:Nat):Int) then (some (((b0_0l,()),()),.inl ((((IntKind.i64.wrap ((512:Int)+s1)).toNat)+0,s2.toNat-0),()))) else none) else none:=by kernel_rfl
def qj_sp:PSpec TT:=⟨[.ptr 0 157 [.arr (.bool) 512],.val (.int .i64),.val (.int .i64)],[.blk 157 [.arr (.bool) 512]],[.asp 0 0 1 512],.ifc 26 (.val (.int .i64)),fun x=>qj v9 x.1.1 x.2.1 x.2.2.1⟩
theorem ur8:POk TT prog 97 qj_sp:=zf7 (C:=qj_C) (cuts:=qa9) (by kernel_rfl) uc3 func97 (show f97.body=some (j5 f97) by kernel_rfl) (by kernel_rfl) (by kernel_rfl) (by kernel_rfl) fun x y h=>⟨v9,h⟩
def qal_C:Ctx TT:=⟨za5,[(96,qbc_sp.toCall (k7 TT)),(97,qj_sp.toCall (qi_sp.toCall (k7 TT)))],3,[],k9,za6⟩
theorem wd6:v7 TT prog qal_C.E:=w6 (za1 vj9 (j9 96)) (w6 (za1 ur8 (za1 wg4 (j9 97))) (v5))
def jm2:List (Pos×Cut):= [([false,true,false,true,true,true],⟨[4,5,15,16],[],false,[],0,false⟩)]
def qal (n:Nat) (x0:List Bool) (x1 x2:Int):Option (((List Bool×Unit)×(Int×Unit)×(Int×Unit)×Unit)×((List Bool×Unit)⊕(Int×Unit))):=zz4 TT prog qal_C jm2 f101 (j5 f101) ⟨[],[],[],[],[0]⟩ [.ptr 0 35 [.val (.list (.bool))],.ptr 0 2 [.val (.int .i64)],.ptr 0 3 [.val (.int .i64)]] [.blk 35 [.val (.list (.bool))],.blk 2 [.val (.int .i64)],.blk 3 [.val (.int .i64)]] [.row 157 (.bool)] (.ifc 26 (.val (.int .i64))) n ((x0,()),(x1,()),(x2,()),())
noncomputable abbrev up7:=yr2 TT prog qal_C jm2 f101 (j5 f101) ⟨[],[],[],[],[0]⟩ [.blk 35 [.val (.list (.bool))],.blk 2 [.val (.int .i64)],.blk 3 [.val (.int .i64)]] [.row 157 (.bool)] (.ifc 26 (.val (.int .i64)))
def yp4 (n s5o s5n:Nat) (s15 s16:Int) (b0_0:List Bool) (b1_0 b2_0:Int) (b3_0l:List Bool):Option (((List Bool×Unit)×(Int×Unit)×(Int×Unit)×Unit)×((List Bool×Unit)⊕(Int×Unit))):=up7 n [false,true,false,true,true,true] ⟨[(4,.ptr 3 0),(5,.asl 3 0 1 512 s5o s5n),(15,ci s15),(16,ci s16)],[.blk 35 [.cell ⟨.list (.bool),b0_0⟩],.blk 2 [ci b1_0],.blk 3 [ci b2_0],.blk 157 [.arr (.bool) 512 b3_0l]]⟩
theorem wy5 (n:Nat) (x0 x1 x2):qal n x0 x1 x2=j7 (qbc v9 x0) fun y1=>match y1.2 with| .inl z1=>(if 512<=z1.1.length then (j7 (qj v9 (List.take 512 (List.drop 0 z1.1)) x1 x2) fun y2=>match y2.2 with| .inl z2=>(yp4 n z2.1.1 z2.1.2 ((z2.1.2:Nat):Int) (0:Int) x0 x1 x2 y2.1.1.1)| .inr e2=>(some (((x0,()),(x1,()),(x2,()),()),.inr (e2.1,())))) else none)| .inr e1=>(some (((x0,()),(x1,()),(x2,()),()),.inr (e1.1,()))):=by kernel_rfl
theorem jx6 (n:Nat) (s5o s5n s15 s16 b0_0 b1_0 b2_0 b3_0l):yp4 (n+1) s5o s5n s15 s16 b0_0 b1_0 b2_0 b3_0l=q7 (decide (s16<s15)) (if 0<=s16/\s16<((s5n:Nat):Int) then (yp4 n s5o s5n s15 (IntKind.i64.wrap (s16+(1:Int))) b0_0 b1_0 b2_0 (b3_0l.set (s5o+s16.toNat) true)) else none) (some (((b0_0,()),(b1_0,()),(b2_0,()),()),.inl (b3_0l,()))):=by kernel_rfl
def qal_sp:PSpec TT:=⟨[.ptr 0 35 [.val (.list (.bool))],.ptr 0 2 [.val (.int .i64)],.ptr 0 3 [.val (.int .i64)]],[.blk 35 [.val (.list (.bool))],.blk 2 [.val (.int .i64)],.blk 3 [.val (.int .i64)]],[.row 157 (.bool)],.ifc 26 (.val (.int .i64)),fun x=>qal v9 x.1.1 x.2.1.1 x.2.2.1.1⟩
theorem wo1:POk TT prog 101 qal_sp:=zf7 (C:=qal_C) (cuts:=jm2) (by kernel_rfl) wd6 func101 (show f101.body=some (j5 f101) by kernel_rfl) (by kernel_rfl) (by kernel_rfl) (by kernel_rfl) fun x y h=>⟨v9,h⟩
def qci_C:Ctx TT:=⟨za5,[(101,qal_sp.toCall (k7 TT))],3,[],k9,za6⟩
theorem gw1:v7 TT prog qci_C.E:=w6 (za1 wo1 (j9 101)) (v5)
def qn2:List (Pos×Cut):= []
def wi5:DefP TT:=⟨1,4,[4,0,2,3],4,133,[(3,0)],qc4,qe1⟩
def qci (n:Nat) (x0:List Bool) (x1 x2:Int):Option (((List Bool×Unit)×(Int×Unit)×(Int×Unit)×Unit)×(List Bool×Int×Unit)):=kj2 prog qci_C qn2 f100 (j5 f100) ⟨[(0,157,.bool,true)],[],[],[],[]⟩ [.fn 101 [] [.ptr 0 35 [.val (.list (.bool))],.ptr 0 2 [.val (.int .i64)],.ptr 0 3 [.val (.int .i64)]]] [.blk 35 [.val (.list (.bool))],.blk 2 [.val (.int .i64)],.blk 3 [.val (.int .i64)]] [.row 157 (.bool),.val (.int .i64)] wi5 n (((),((x0,()),(x1,()),(x2,()),())),())
theorem ul5 (n:Nat) (x0 x1 x2):qci n x0 x1 x2=j7 (qal v9 x0 x1 x2) fun y1=>match y1.2 with| .inl z1=>(j7 (qcg (0:Int)) fun y2=>some (((y1.1.1.1,()),(y1.1.2.1.1,()),(y1.1.2.2.1.1,()),()),(z1.1,y2.1.1,())))| .inr e1=>(j7 (qch (0:Int) e1.1) fun y3=>some (((y1.1.1.1,()),(y1.1.2.1.1,()),(y1.1.2.2.1.1,()),()),(([]:List Bool),y3.1.1,()))):=by kernel_rfl
def qci_sp:GSpec TT:=⟨[.fn 101 [] [.ptr 0 35 [.val (.list (.bool))],.ptr 0 2 [.val (.int .i64)],.ptr 0 3 [.val (.int .i64)]]],[.blk 35 [.val (.list (.bool))],.blk 2 [.val (.int .i64)],.blk 3 [.val (.int .i64)]],[.row 157 (.bool),.val (.int .i64)],fun x=>qci v9 x.1.2.1.1 x.1.2.2.1.1 x.1.2.2.2.1.1⟩
theorem ug6:GOk TT prog 100 qci_sp:=yp3 (C:=qci_C) (cuts:=qn2) (D:=wi5) (by kernel_rfl) gw1 func100 (show f100.body=some (j5 f100) by kernel_rfl) (by kernel_rfl) (by kernel_rfl) (by kernel_rfl) vr0 vr8 fun x y h=>⟨v9,h⟩
def qcj_C:Ctx TT:=⟨za5,[(100,qci_sp.toCall (qbw_sp.toCall (k7 TT)))],0,[],k9,za6⟩
theorem wd1:v7 TT prog qcj_C.E:=w6 (k8 ug6 (k8 ky1 (j9 100))) (v5)
def qm7:List (Pos×Cut):= []
def qcj (n:Nat) (x0:List Bool) (x1 x2:Int):Option (List Bool×Int):=zg2 TT prog qcj_C qm7 f76 (j5 f76) ⟨[],[(0,.list (.bool))]⟩ [.val (.list (.bool)),.val (.int .i64),.val (.int .i64)] [.val (.list (.bool)),.val (.int .i64)] n (x0,x1,x2)
theorem uf4 (n:Nat) (x0 x1 x2):qcj n x0 x1 x2=j7 (qci v9 x0 x1 x2) fun y1=>some (y1.2.1,y1.2.2.1):=by kernel_rfl
def qcj_sp:FnSpec TT:=⟨[.val (.list (.bool)),.val (.int .i64),.val (.int .i64)],[.val (.list (.bool)),.val (.int .i64)],fun x=>qcj v9 x.1 x.2.1 x.2.2⟩
theorem wz5:ze8 TT prog 76 qcj_sp:=za0 (C:=qcj_C) (by kernel_rfl) wd1 func76 (show f76.body=some (j5 f76) by kernel_rfl) (by kernel_rfl) (by kernel_rfl) (cuts:=qm7) fun x y h=>⟨v9,h⟩
def qac_C:Ctx TT:=⟨za5,[],0,[(3,1)],k9,za6⟩
theorem gv3:v7 TT prog qac_C.E:=v5
def qu9:List (Pos×Cut):= []
def qac (n:Nat) (x0:Known):Option (Span×Bool):=zg2 TT prog qac_C qu9 f103 (j5 f103) ⟨[],[]⟩ [.val (.user 1)] [.val (.user 0),.val (.bool)] n x0
theorem wr9 (n:Nat) (x0):qac n x0=q7 (x0.Kind==(4:Int)) (some ((⟨(0:Int),(65535:Int)⟩:Span),true)) (some ((⟨x0.In_Lo,x0.In_Hi⟩:Span),x0.Kind==(1:Int))):=by kernel_rfl
def qac_sp:FnSpec TT:=⟨[.val (.user 1)],[.val (.user 0),.val (.bool)],fun x=>qac v9 x⟩
theorem gc1:ze8 TT prog 103 qac_sp:=za0 (C:=qac_C) (by kernel_rfl) gv3 func103 (show f103.body=some (j5 f103) by kernel_rfl) (by kernel_rfl) (by kernel_rfl) (cuts:=qu9) fun x y h=>⟨v9,h⟩
def qan_C:Ctx TT:=⟨za5,[],0,[],k9,za6⟩
theorem gl8:v7 TT prog qan_C.E:=v5
def qp3:List (Pos×Cut):= []
def qan (n:Nat) (x0:Int):Option (Span):=zg2 TT prog qan_C qp3 f99 (j5 f99) ⟨[],[]⟩ [.val (.int .u64)] [.val (.user 0)] n x0
theorem ws3 (n:Nat) (x0):qan n x0=some (⟨x0,x0⟩:Span):=by kernel_rfl
def qan_sp:FnSpec TT:=⟨[.val (.int .u64)],[.val (.user 0)],fun x=>qan v9 x⟩
theorem je0:ze8 TT prog 99 qan_sp:=za0 (C:=qan_C) (by kernel_rfl) gl8 func99 (show f99.body=some (j5 f99) by kernel_rfl) (by kernel_rfl) (by kernel_rfl) (cuts:=qp3) fun x y h=>⟨v9,h⟩
def qk_C:Ctx TT:=⟨za5,[],0,[],k9,za6⟩
theorem wn4:v7 TT prog qk_C.E:=v5
def vp4:List (Pos×Cut):= []
def qk (n:Nat) (x0:Span):Option (Bool):=zg2 TT prog qk_C vp4 f106 (j5 f106) ⟨[],[]⟩ [.val (.user 0)] [.val (.bool)] n x0
theorem uu6 (n:Nat) (x0):qk n x0=some (decide (x0.Lo<=x0.Hi)):=by kernel_rfl
def qk_sp:FnSpec TT:=⟨[.val (.user 0)],[.val (.bool)],fun x=>qk v9 x⟩
theorem ki0:ze8 TT prog 106 qk_sp:=za0 (C:=qk_C) (by kernel_rfl) wn4 func106 (show f106.body=some (j5 f106) by kernel_rfl) (by kernel_rfl) (by kernel_rfl) (cuts:=vp4) fun x y h=>⟨v9,h⟩
def qw_C:Ctx TT:=⟨za5,[(99,qan_sp.toCall),(106,qk_sp.toCall)],0,[],k9,za6⟩
theorem wm4:v7 TT prog qw_C.E:=w6 (q8 je0) (w6 (q8 ki0) (v5))
def qe4:List (Pos×Cut):= [([false,true,false,true],⟨[1],[],false,[],0,false⟩),([false,false,false,false,true,false,true],⟨[1],[],false,[],0,false⟩)]
def qw (n:Nat) (x0:Known):Option (Bool):=zg2 TT prog qw_C qe4 f102 (j5 f102) ⟨[],[]⟩ [.val (.user 1)] [.val (.bool)] n x0
noncomputable abbrev uz7:=jz4 TT prog qw_C qe4 f102 (j5 f102) ⟨[],[]⟩ [.val (.user 1)] [.val (.bool)]
def gf5 (n:Nat) (b0_0 b0_1 b0_2:Int):Option (Bool):=uz7 n [false,false,false,false,true,false,true] ⟨[(1,.ptr 0 0)],[.blk 59 [cu8 b0_0,w3 b0_1,w3 b0_2]]⟩
def gh1 (n:Nat) (b0_0 b0_1 b0_2:Int):Option (Bool):=uz7 n [false,true,false,true] ⟨[(1,.ptr 0 0)],[.blk 59 [cu8 b0_0,w3 b0_1,w3 b0_2]]⟩
theorem un9 (n:Nat) (x0):qw n x0=q7 (x0.Kind==(4:Int)) (gf5 n x0.Kind x0.In_Lo x0.In_Hi) (q7 (x0.Kind==(0:Int)) (gf5 n x0.Kind x0.In_Lo x0.In_Hi) (q7 (x0.Kind==(1:Int)) (gh1 n x0.Kind x0.In_Lo x0.In_Hi) (q7 (x0.Kind==(2:Int)) (gh1 n x0.Kind x0.In_Lo x0.In_Hi) (q7 (x0.Kind==(3:Int)) (j7 (qan v9 x0.In_Lo) fun y1=>some ((x0.In_Lo==y1.Lo)&&(x0.In_Hi==y1.Hi))) (some false))))):=by kernel_rfl
theorem kk7 (n:Nat) (b0_0 b0_1 b0_2):gf5 (n+1) b0_0 b0_1 b0_2=some ((b0_1==(0:Int))&&(b0_2==(0:Int))):=by kernel_rfl
theorem kp4 (n:Nat) (b0_0 b0_1 b0_2):gh1 (n+1) b0_0 b0_1 b0_2=j7 (qk v9 (⟨b0_1,b0_2⟩:Span)) fun y1=>some y1:=by kernel_rfl
def qw_sp:FnSpec TT:=⟨[.val (.user 1)],[.val (.bool)],fun x=>qw v9 x⟩
theorem wh7:ze8 TT prog 102 qw_sp:=za0 (C:=qw_C) (by kernel_rfl) wm4 func102 (show f102.body=some (j5 f102) by kernel_rfl) (by kernel_rfl) (by kernel_rfl) (cuts:=qe4) fun x y h=>⟨v9,h⟩
def qcn_C:Ctx TT:=⟨za5,[],0,[],k9,za6⟩
theorem go4:v7 TT prog qcn_C.E:=v5
def qx2:List (Pos×Cut):= []
def qcn (n:Nat) (x0 x1:Span):Option (Span):=zg2 TT prog qcn_C qx2 f179 (j5 f179) ⟨[],[]⟩ [.val (.user 0),.val (.user 0)] [.val (.user 0)] n (x0,x1)
theorem ug5 (n:Nat) (x0 x1):qcn n x0 x1=some (⟨yj2 x0.Lo x1.Lo,zk5 x0.Hi x1.Hi⟩:Span):=by kernel_rfl
def qcn_sp:FnSpec TT:=⟨[.val (.user 0),.val (.user 0)],[.val (.user 0)],fun x=>qcn v9 x.1 x.2⟩
theorem uh8:ze8 TT prog 179 qcn_sp:=za0 (C:=qcn_C) (by kernel_rfl) go4 func179 (show f179.body=some (j5 f179) by kernel_rfl) (by kernel_rfl) (by kernel_rfl) (cuts:=qx2) fun x y h=>⟨v9,h⟩
def qp_C:Ctx TT:=⟨za5,[(103,qac_sp.toCall),(102,qw_sp.toCall),(179,qcn_sp.toCall)],0,[],k9,za6⟩
theorem wt1:v7 TT prog qp_C.E:=w6 (q8 gc1) (w6 (q8 wh7) (w6 (q8 uh8) (v5)))
def qb2:List (Pos×Cut):= [([false,false,true,true,true],⟨[2,3,4,5,6,7,8,19],[],false,[],0,false⟩),([true,true,true,true,false,false,true,true,true],⟨[2,3,4,5,7,34],[],false,[],0,false⟩),([true,true,true,true,true,true,false,false,true,true,true],⟨[2,3,4,43],[],false,[],0,false⟩)]
def qp (n:Nat) (x0 x1:Known):Option (Known):=zg2 TT prog qp_C qb2 f131 (j5 f131) ⟨[],[]⟩ [.val (.user 1),.val (.user 1)] [.val (.user 1)] n (x0,x1)
noncomputable abbrev un3:=jz4 TT prog qp_C qb2 f131 (j5 f131) ⟨[],[]⟩ [.val (.user 1),.val (.user 1)] [.val (.user 1)]
def gg7 (n:Nat) (s6 s8 s19:Bool) (b0_0 b0_1 b0_2 b1_0 b1_1 b1_2 b2_0 b2_1 b2_2 b3_0 b3_1 b4_0 b4_1:Int):Option (Known):=un3 n [false,false,true,true,true] ⟨[(2,.ptr 0 0),(3,.ptr 1 0),(4,.ptr 2 0),(5,.ptr 3 0),(6,cb s6),(7,.ptr 4 0),(8,cb s8),(19,cb s19)],[.blk 59 [cu8 b0_0,w3 b0_1,w3 b0_2],.blk 59 [cu8 b1_0,w3 b1_1,w3 b1_2],.blk 59 [cu8 b2_0,w3 b2_1,w3 b2_2],.blk 57 [w3 b3_0,w3 b3_1],.blk 57 [w3 b4_0,w3 b4_1]]⟩
def gh0 (n:Nat) (s34:Bool) (b0_0 b0_1 b0_2 b1_0 b1_1 b1_2 b2_0 b2_1 b2_2 b3_0 b3_1 b4_0 b4_1:Int):Option (Known):=un3 n [true,true,true,true,false,false,true,true,true] ⟨[(2,.ptr 0 0),(3,.ptr 1 0),(4,.ptr 2 0),(5,.ptr 3 0),(7,.ptr 4 0),(34,cb s34)],[.blk 59 [cu8 b0_0,w3 b0_1,w3 b0_2],.blk 59 [cu8 b1_0,w3 b1_1,w3 b1_2],.blk 59 [cu8 b2_0,w3 b2_1,w3 b2_2],.blk 57 [w3 b3_0,w3 b3_1],.blk 57 [w3 b4_0,w3 b4_1]]⟩
def gi0 (n:Nat) (s43:Bool) (b0_0 b0_1 b0_2 b1_0 b1_1 b1_2 b2_0 b2_1 b2_2:Int):Option (Known):=un3 n [true,true,true,true,true,true,false,false,true,true,true] ⟨[(2,.ptr 0 0),(3,.ptr 1 0),(4,.ptr 2 0),(43,cb s43)],[.blk 59 [cu8 b0_0,w3 b0_1,w3 b0_2],.blk 59 [cu8 b1_0,w3 b1_1,w3 b1_2],.blk 59 [cu8 b2_0,w3 b2_1,w3 b2_2]]⟩
theorem ut4 (n:Nat) (x0 x1):qp n x0 x1=j7 (qac v9 x0) fun y1=>j7 (qac v9 x1) fun y2=>j7 (qw v9 x0) fun y3=>q7 (!y3) (gg7 n y1.2 y2.2 true x0.Kind x0.In_Lo x0.In_Hi x1.Kind x1.In_Lo x1.In_Hi (0:Int) (0:Int) (0:Int) y1.1.Lo y1.1.Hi y2.1.Lo y2.1.Hi) (j7 (qw v9 x1) fun y4=>gg7 n y1.2 y2.2 (!y4) x0.Kind x0.In_Lo x0.In_Hi x1.Kind x1.In_Lo x1.In_Hi (0:Int) (0:Int) (0:Int) y1.1.Lo y1.1.Hi y2.1.Lo y2.1.Hi):=by kernel_rfl
theorem kt4 (n:Nat) (s6 s8 s19 b0_0 b0_1 b0_2 b1_0 b1_1 b1_2 b2_0 b2_1 b2_2 b3_0 b3_1 b4_0 b4_1):gg7 (n+1) s6 s8 s19 b0_0 b0_1 b0_2 b1_0 b1_1 b1_2 b2_0 b2_1 b2_2 b3_0 b3_1 b4_0 b4_1=q7 s19 (some (⟨(0:Int),(0:Int),(0:Int)⟩:Known)) (q7 ((b0_0==b1_0)&&((b0_1==b1_1)&&(b0_2==b1_2))) (some (⟨b0_0,b0_1,b0_2⟩:Known)) (q7 s6 (gh0 n s8 b0_0 b0_1 b0_2 b1_0 b1_1 b1_2 b2_0 b2_1 b2_2 b3_0 b3_1 b4_0 b4_1) (gh0 n false b0_0 b0_1 b0_2 b1_0 b1_1 b1_2 b2_0 b2_1 b2_2 b3_0 b3_1 b4_0 b4_1))):=by kernel_rfl
theorem kk0 (n:Nat) (s34 b0_0 b0_1 b0_2 b1_0 b1_1 b1_2 b2_0 b2_1 b2_2 b3_0 b3_1 b4_0 b4_1):gh0 (n+1) s34 b0_0 b0_1 b0_2 b1_0 b1_1 b1_2 b2_0 b2_1 b2_2 b3_0 b3_1 b4_0 b4_1=q7 s34 (j7 (qcn v9 (⟨b3_0,b3_1⟩:Span) (⟨b4_0,b4_1⟩:Span)) fun y1=>some (⟨(1:Int),y1.Lo,y1.Hi⟩:Known)) (q7 (b0_0==(2:Int)) (gi0 n (b1_0==(2:Int)) b0_0 b0_1 b0_2 b1_0 b1_1 b1_2 b2_0 b2_1 b2_2) (gi0 n false b0_0 b0_1 b0_2 b1_0 b1_1 b1_2 b2_0 b2_1 b2_2)):=by kernel_rfl
theorem kr2 (n:Nat) (s43 b0_0 b0_1 b0_2 b1_0 b1_1 b1_2 b2_0 b2_1 b2_2):gi0 (n+1) s43 b0_0 b0_1 b0_2 b1_0 b1_1 b1_2 b2_0 b2_1 b2_2=q7 s43 (j7 (qcn v9 (⟨b0_1,b0_2⟩:Span) (⟨b1_1,b1_2⟩:Span)) fun y1=>some (⟨(2:Int),y1.Lo,y1.Hi⟩:Known)) (some (⟨(0:Int),(0:Int),(0:Int)⟩:Known)):=by kernel_rfl
def qp_sp:FnSpec TT:=⟨[.val (.user 1),.val (.user 1)],[.val (.user 1)],fun x=>qp v9 x.1 x.2⟩
theorem wf5:ze8 TT prog 131 qp_sp:=za0 (C:=qp_C) (by kernel_rfl) wt1 func131 (show f131.body=some (j5 f131) by kernel_rfl) (by kernel_rfl) (by kernel_rfl) (cuts:=qb2) fun x y h=>⟨v9,h⟩
end
end Go.X
