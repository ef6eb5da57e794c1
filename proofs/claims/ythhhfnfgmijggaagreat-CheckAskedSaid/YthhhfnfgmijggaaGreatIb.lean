import Derived.Test.YthhhfnfgmijggaaGreatIa
namespace Go.X
open Go.RowKit Go.V Go.Proofs Tryz
noncomputable section
def qdb_C:Ctx TT:=⟨za4,[],0,[],v9,za3⟩
theorem gy3:v4 TT prog qdb_C.E:=q9
def qx3:List (Pos×Cut):= []
def qdb (n:Nat):Option (List Bool):=zf7 TT prog qdb_C qx3 f39 (j5 f39) ⟨[],[(0,.list (.bool))]⟩ [] [.val (.list (.bool))] n ()
theorem wr2 (n:Nat):qdb n=if 0<=(512:Int)/\(512:Int)<=(512:Int)/\1*512<=281474976710656/\(512:Int)<=9223372036854775807 then (some (List.replicate 512 false)) else none:=by kernel_rfl
def qdb_sp:FnSpec TT:=⟨[],[.val (.list (.bool))],fun _=>qdb v5⟩
theorem wj9:ze7 TT prog 39 qdb_sp:=u0 (C:=qdb_C) (by kernel_rfl) gy3 func39 (show f39.body=some (j5 f39) by kernel_rfl) (by kernel_rfl) (by kernel_rfl) (cuts:=qx3) fun x y h=>⟨v5,h⟩
def qbb_C:Ctx TT:=⟨za4,[],0,[],v9,za3⟩
theorem gn2:v4 TT prog qbb_C.E:=q9
def qm9:List (Pos×Cut):= []
def qbb (n:Nat) (x0:List Bool):Option ((Unit)×((List Bool×Unit)⊕(Int×Unit))):=zz5 TT prog qbb_C qm9 f96 (j5 f96) ⟨[],[],[],[],[]⟩ [.val (.list (.bool))] [] [.lpk (.bool) 0 0] (.ifc 26 (.val (.int .i64))) n (x0,())
theorem kv8 (n:Nat) (x0):qbb n x0=q7 (((x0.length:Nat):Int) != (512:Int)) (some ((),.inr ((2:Int),()))) (if 512<=x0.length then (some ((),.inl (x0,()))) else none):=by kernel_rfl
def qbb_sp:PSpec TT:=⟨[.val (.list (.bool))],[],[.lpk (.bool) 0 0],.ifc 26 (.val (.int .i64)),fun x=>qbb v5 x.1⟩
theorem vj6:POk TT prog 96 qbb_sp:=zf1 (C:=qbb_C) (cuts:=qm9) (by kernel_rfl) gn2 func96 (show f96.body=some (j5 f96) by kernel_rfl) (by kernel_rfl) (by kernel_rfl) (by kernel_rfl) fun x y h=>⟨v5,h⟩
def qi_C:Ctx TT:=⟨za4,[],0,[],v9,za3⟩
theorem ua5:v4 TT prog qi_C.E:=q9
def qa4:List (Pos×Cut):= [([true],⟨[0,1,2],[],false,[],0,false⟩),([false,true,false,true],⟨[0,1,2,9],[],false,[],0,false⟩),([true,true],⟨[0,1,2],[],false,[],0,false⟩),([false,true,true],⟨[0,1,2,21],[],false,[],0,false⟩)]
def qi (n:Nat) (x0:List Bool) (x1 x2:Int):Option ((Unit)×((List Bool×Unit)⊕(Int×Unit))):=zz5 TT prog qi_C qa4 f97 (j5 f97) ⟨[],[],[],[],[]⟩ [.lpk (.bool) 0 0,.val (.int .i64),.val (.int .i64)] [] [.val (.list (.bool))] (.ifc 26 (.val (.int .i64))) n (x0,x1,x2,())
noncomputable abbrev wd3:=yp8 TT prog qi_C qa4 f97 (j5 f97) ⟨[],[],[],[],[]⟩ [] [.val (.list (.bool))] (.ifc 26 (.val (.int .i64)))
def qg6 (n:Nat) (s0l:List Bool) (s1 s2:Int) (s9:Bool):Option ((Unit)×((List Bool×Unit)⊕(Int×Unit))):=wd3 n [false,true,false,true] ⟨[(0,.lptr (.bool) s0l 0 0),(1,ci s1),(2,ci s2),(9,cb s9)],[]⟩
def wc7 (n:Nat) (s0l:List Bool) (s1 s2:Int):Option ((Unit)×((List Bool×Unit)⊕(Int×Unit))):=wd3 n [true] ⟨[(0,.lptr (.bool) s0l 0 0),(1,ci s1),(2,ci s2)],[]⟩
def ge1 (n:Nat) (s0l:List Bool) (s1 s2:Int) (s21:Bool):Option ((Unit)×((List Bool×Unit)⊕(Int×Unit))):=wd3 n [false,true,true] ⟨[(0,.lptr (.bool) s0l 0 0),(1,ci s1),(2,ci s2),(21,cb s21)],[]⟩
def wb5 (n:Nat) (s0l:List Bool) (s1 s2:Int):Option ((Unit)×((List Bool×Unit)⊕(Int×Unit))):=wd3 n [true,true] ⟨[(0,.lptr (.bool) s0l 0 0),(1,ci s1),(2,ci s2)],[]⟩
theorem um1 (n:Nat) (x0 x1 x2):qi n x0 x1 x2=q7 (x2==(1:Int)) (qg6 n x0 x1 x2 (x2==(1:Int))) (q7 (x2==(2:Int)) (qg6 n x0 x1 x2 (x2==(2:Int))) (q7 (x2==(4:Int)) (qg6 n x0 x1 x2 (x2==(4:Int))) (qg6 n x0 x1 x2 (x2==(8:Int))))):=by kernel_rfl
theorem kt5 (n:Nat) (s0l s1 s2 s9):qg6 (n+1) s0l s1 s2 s9=q7 s9 (wc7 n s0l s1 s2) (some ((),.inr ((2:Int),()))):=by kernel_rfl
theorem kr6 (n:Nat) (s0l s1 s2):wc7 (n+1) s0l s1 s2=q7 (decide (s1<(-512:Int))) (ge1 n s0l s1 s2 true) (ge1 n s0l s1 s2 (decide (s1>(IntKind.i64.wrap (0-s2))))):=by kernel_rfl
theorem jl7 (n:Nat) (s0l s1 s2 s21):ge1 (n+1) s0l s1 s2 s21=q7 s21 (some ((),.inr ((112:Int),()))) (wb5 n s0l s1 s2):=by kernel_rfl
theorem kq3 (n:Nat) (s0l s1 s2):wb5 (n+1) s0l s1 s2=if 512<=s0l.length then (if 0<=IntKind.i64.wrap ((512:Int)+s1)/\IntKind.i64.wrap ((512:Int)+s1)<=((512:Nat):Int)/\((512:Nat):Int)<=((512:Nat):Int) then (if 0<=(0:Int)/\(0:Int)<=s2/\s2<=(((List.take (((512:Nat):Int).toNat-(IntKind.i64.wrap ((512:Int)+s1)).toNat) (List.drop ((IntKind.i64.wrap ((512:Int)+s1)).toNat) s0l)).length:Nat):Int) then (some ((),.inl (List.take (s2.toNat-0) (List.drop 0 (List.take (((512:Nat):Int).toNat-(IntKind.i64.wrap ((512:Int)+s1)).toNat) (List.drop ((IntKind.i64.wrap ((512:Int)+s1)).toNat) s0l))),()))) else none) else none) else none:=by kernel_rfl
def qi_sp:PSpec TT:=⟨[.lpk (.bool) 0 0,.val (.int .i64),.val (.int .i64)],[],[.val (.list (.bool))],.ifc 26 (.val (.int .i64)),fun x=>qi v5 x.1 x.2.1 x.2.2.1⟩
theorem wf9:POk TT prog 97 qi_sp:=zf1 (C:=qi_C) (cuts:=qa4) (by kernel_rfl) ua5 func97 (show f97.body=some (j5 f97) by kernel_rfl) (by kernel_rfl) (by kernel_rfl) (by kernel_rfl) fun x y h=>⟨v5,h⟩
def qv_C:Ctx TT:=⟨za4,[(96,qbb_sp.toCall (v6 TT)),(97,qi_sp.toCall (v6 TT))],3,[(1,1)],v9,za3⟩
theorem ud3:v4 TT prog qv_C.E:=g9 (u9 vj6 (j9 96)) (g9 (u9 wf9 (j9 97)) (q9))
def qa2:List (Pos×Cut):= [([false,true,false,true],⟨[10,11,12],[],false,[],0,false⟩),([true,true,false,false,true,false,true],⟨[10,11,12],[],false,[],0,false⟩)]
def qv (n:Nat) (x0:List Bool) (x1 x2:Int):Option (((List Bool×Unit)×(Int×Unit)×(Int×Unit)×Unit)×((Bool×Unit)⊕(Int×Unit))):=zz5 TT prog qv_C qa2 f95 (j5 f95) ⟨[],[],[],[],[]⟩ [.ptr 0 35 [.val (.list (.bool))],.ptr 0 2 [.val (.int .i64)],.ptr 0 3 [.val (.int .i64)]] [.blk 35 [.val (.list (.bool))],.blk 2 [.val (.int .i64)],.blk 3 [.val (.int .i64)]] [.val (.bool)] (.ifc 26 (.val (.int .i64))) n ((x0,()),(x1,()),(x2,()),())
noncomputable abbrev ut5:=yp8 TT prog qv_C qa2 f95 (j5 f95) ⟨[],[],[],[],[]⟩ [.blk 35 [.val (.list (.bool))],.blk 2 [.val (.int .i64)],.blk 3 [.val (.int .i64)]] [.val (.bool)] (.ifc 26 (.val (.int .i64)))
def jc3 (n:Nat) (s10:List Bool) (s11 s12:Int) (b0_0:List Bool) (b1_0 b2_0:Int):Option (((List Bool×Unit)×(Int×Unit)×(Int×Unit)×Unit)×((Bool×Unit)⊕(Int×Unit))):=ut5 n [false,true,false,true] ⟨[(10,.cell ⟨.list (.bool),s10⟩),(11,ci s11),(12,ci s12)],[.blk 35 [.cell ⟨.list (.bool),b0_0⟩],.blk 2 [ci b1_0],.blk 3 [ci b2_0]]⟩
def wd9 (n:Nat) (s10:List Bool) (s11 s12:Int) (b0_0:List Bool) (b1_0 b2_0:Int):Option (((List Bool×Unit)×(Int×Unit)×(Int×Unit)×Unit)×((Bool×Unit)⊕(Int×Unit))):=ut5 n [true,true,false,false,true,false,true] ⟨[(10,.cell ⟨.list (.bool),s10⟩),(11,ci s11),(12,ci s12)],[.blk 35 [.cell ⟨.list (.bool),b0_0⟩],.blk 2 [ci b1_0],.blk 3 [ci b2_0]]⟩
theorem up2 (n:Nat) (x0 x1 x2):qv n x0 x1 x2=j7 (qbb v5 x0) fun y1=>match y1.2 with| .inl z1=>(j7 (qi v5 z1.1 x1 x2) fun y2=>match y2.2 with| .inl z2=>(jc3 n z2.1 ((z2.1.length:Nat):Int) (0:Int) x0 x1 x2)| .inr e2=>(some (((x0,()),(x1,()),(x2,()),()),.inr (e2.1,()))))| .inr e1=>(some (((x0,()),(x1,()),(x2,()),()),.inr (e1.1,()))):=by kernel_rfl
theorem qo9 (n:Nat) (s10 s11 s12 b0_0 b1_0 b2_0):jc3 (n+1) s10 s11 s12 b0_0 b1_0 b2_0=q7 (decide (s12<s11)) (if 0<=s12/\s12<((s10.length:Nat):Int) then (q7 (!(s10.getD s12.toNat false)) (some (((b0_0,()),(b1_0,()),(b2_0,()),()),.inr ((110:Int),()))) (wd9 n s10 s11 s12 b0_0 b1_0 b2_0)) else none) (some (((b0_0,()),(b1_0,()),(b2_0,()),()),.inl (true,()))):=by kernel_rfl
theorem kt8 (n:Nat) (s10 s11 s12 b0_0 b1_0 b2_0):wd9 (n+1) s10 s11 s12 b0_0 b1_0 b2_0=jc3 n s10 s11 (IntKind.i64.wrap (s12+(1:Int))) b0_0 b1_0 b2_0:=by kernel_rfl
def qv_sp:PSpec TT:=⟨[.ptr 0 35 [.val (.list (.bool))],.ptr 0 2 [.val (.int .i64)],.ptr 0 3 [.val (.int .i64)]],[.blk 35 [.val (.list (.bool))],.blk 2 [.val (.int .i64)],.blk 3 [.val (.int .i64)]],[.val (.bool)],.ifc 26 (.val (.int .i64)),fun x=>qv v5 x.1.1 x.2.1.1 x.2.2.1.1⟩
theorem uq8:POk TT prog 95 qv_sp:=zf1 (C:=qv_C) (cuts:=qa2) (by kernel_rfl) ud3 func95 (show f95.body=some (j5 f95) by kernel_rfl) (by kernel_rfl) (by kernel_rfl) (by kernel_rfl) fun x y h=>⟨v5,h⟩
def qex_C:Ctx TT:=⟨za4,[],1,[],v9,za3⟩
theorem gk8:v4 TT prog qex_C.E:=q9
def qex (x0:Int):Option ((Int×Unit)×Unit):=yl3 prog qex_C f130 (j5 f130) [.ptr 0 26 [.val (.int .i64)]] (.rw 1) [.blk 26 [.val (.int .i64)]] ((x0,()),(),())
theorem ug4 (x0:Int):qex x0=some ((x0,()),()):=by kernel_rfl
def vl8:DSpec TT:=⟨[.ptr 0 26 [.val (.int .i64)]],.rw 1,[.blk 26 [.val (.int .i64)]],fun x=>qex x.1.1⟩
theorem gr7:DOk TT prog 130 vl8:=yc7 (C:=qex_C) (by kernel_rfl) gk8 func130 (show f130.body=some (j5 f130) by kernel_rfl) (by kernel_rfl) (by kernel_rfl) (by kernel_rfl) (by kernel_rfl) fun x y h=>h
def qdn_C:Ctx TT:=⟨za4,[],1,[],v9,za3⟩
theorem gw4:v4 TT prog qdn_C.E:=q9
def qdn (x0 x1:Int):Option ((Int×Unit)×Unit):=yl3 prog qdn_C f130 (j5 f130) [.ptr 0 26 [.val (.int .i64)]] (.ifc 26 (.val (.int .i64))) [.blk 26 [.val (.int .i64)]] ((x0,()),x1,())
theorem ku0 (x0:Int) (x1):qdn x0 x1=some ((x1,()),()):=by kernel_rfl
def vq4:DSpec TT:=⟨[.ptr 0 26 [.val (.int .i64)]],.ifc 26 (.val (.int .i64)),[.blk 26 [.val (.int .i64)]],fun x=>qdn x.1.1 x.2.1⟩
theorem gt6:DOk TT prog 130 vq4:=yc7 (C:=qdn_C) (by kernel_rfl) gw4 func130 (show f130.body=some (j5 f130) by kernel_rfl) (by kernel_rfl) (by kernel_rfl) (by kernel_rfl) (by kernel_rfl) fun x y h=>h
def qcd_C:Ctx TT:=⟨za4,[(95,qv_sp.toCall (v6 TT))],3,[],v9,za3⟩
theorem gp0:v4 TT prog qcd_C.E:=g9 (u9 uq8 (j9 95)) (q9)
def qj1:List (Pos×Cut):= []
def we3:DefP TT:=⟨1,4,[4,0,2,3],4,130,[(3,0)],vl8,vq4⟩
def qcd (n:Nat) (x0:List Bool) (x1 x2:Int):Option (((List Bool×Unit)×(Int×Unit)×(Int×Unit)×Unit)×(Bool×Int×Unit)):=kh3 prog qcd_C qj1 f94 (j5 f94) ⟨[],[],[],[],[]⟩ [.fn 95 [] [.ptr 0 35 [.val (.list (.bool))],.ptr 0 2 [.val (.int .i64)],.ptr 0 3 [.val (.int .i64)]]] [.blk 35 [.val (.list (.bool))],.blk 2 [.val (.int .i64)],.blk 3 [.val (.int .i64)]] [.val (.bool),.val (.int .i64)] we3 n (((),((x0,()),(x1,()),(x2,()),())),())
theorem ue6 (n:Nat) (x0 x1 x2):qcd n x0 x1 x2=j7 (qv v5 x0 x1 x2) fun y1=>match y1.2 with| .inl z1=>(j7 (qex (0:Int)) fun y2=>some (((y1.1.1.1,()),(y1.1.2.1.1,()),(y1.1.2.2.1.1,()),()),(z1.1,y2.1.1,())))| .inr e1=>(j7 (qdn (0:Int) e1.1) fun y3=>some (((y1.1.1.1,()),(y1.1.2.1.1,()),(y1.1.2.2.1.1,()),()),(false,y3.1.1,()))):=by kernel_rfl
def qcd_sp:GSpec TT:=⟨[.fn 95 [] [.ptr 0 35 [.val (.list (.bool))],.ptr 0 2 [.val (.int .i64)],.ptr 0 3 [.val (.int .i64)]]],[.blk 35 [.val (.list (.bool))],.blk 2 [.val (.int .i64)],.blk 3 [.val (.int .i64)]],[.val (.bool),.val (.int .i64)],fun x=>qcd v5 x.1.2.1.1 x.1.2.2.1.1 x.1.2.2.2.1.1⟩
theorem ud8:GOk TT prog 94 qcd_sp:=yo8 (C:=qcd_C) (cuts:=qj1) (D:=we3) (by kernel_rfl) gp0 func94 (show f94.body=some (j5 f94) by kernel_rfl) (by kernel_rfl) (by kernel_rfl) (by kernel_rfl) gr7 gt6 fun x y h=>⟨v5,h⟩
def qce_C:Ctx TT:=⟨za4,[(94,qcd_sp.toCall (v6 TT))],0,[],v9,za3⟩
theorem gr3:v4 TT prog qce_C.E:=g9 (v7 ud8 (j9 94)) (q9)
def qw5:List (Pos×Cut):= []
def qce (n:Nat) (x0:List Bool) (x1 x2:Int):Option (Int):=zf7 TT prog qce_C qw5 f70 (j5 f70) ⟨[],[]⟩ [.val (.list (.bool)),.val (.int .i64),.val (.int .i64)] [.val (.int .i64)] n (x0,x1,x2)
theorem ud6 (n:Nat) (x0 x1 x2):qce n x0 x1 x2=j7 (qcd v5 x0 x1 x2) fun y1=>some y1.2.2.1:=by kernel_rfl
def qce_sp:FnSpec TT:=⟨[.val (.list (.bool)),.val (.int .i64),.val (.int .i64)],[.val (.int .i64)],fun x=>qce v5 x.1 x.2.1 x.2.2⟩
theorem wl1:ze7 TT prog 70 qce_sp:=u0 (C:=qce_C) (by kernel_rfl) gr3 func70 (show f70.body=some (j5 f70) by kernel_rfl) (by kernel_rfl) (by kernel_rfl) (cuts:=qw5) fun x y h=>⟨v5,h⟩
def qr_C:Ctx TT:=⟨za4,[(96,qbb_sp.toCall (v6 TT))],2,[(1,1)],v9,za3⟩
theorem wq2:v4 TT prog qr_C.E:=g9 (u9 vj6 (j9 96)) (q9)
def jy3:List (Pos×Cut):= [([false,true,false,true,true],⟨[3,4,12],[],false,[],0,false⟩),([true,true,false,false,true,false,true,true],⟨[3,4,12],[],false,[],0,false⟩)]
def qr (n:Nat) (x0 x1:List Bool):Option (((List Bool×Unit)×(List Bool×Unit)×Unit)×((List Bool×Unit)⊕(Int×Unit))):=zz5 TT prog qr_C jy3 f180 (j5 f180) ⟨[],[],[],[],[0]⟩ [.ptr 0 35 [.val (.list (.bool))],.ptr 0 35 [.val (.list (.bool))]] [.blk 35 [.val (.list (.bool))],.blk 35 [.val (.list (.bool))]] [.row 157 (.bool)] (.ifc 26 (.val (.int .i64))) n ((x0,()),(x1,()),())
noncomputable abbrev uu2:=yp8 TT prog qr_C jy3 f180 (j5 f180) ⟨[],[],[],[],[0]⟩ [.blk 35 [.val (.list (.bool))],.blk 35 [.val (.list (.bool))]] [.row 157 (.bool)] (.ifc 26 (.val (.int .i64)))
def jc0 (n:Nat) (s4l:List Bool) (s12:Int) (b0_0 b1_0 b2_0l:List Bool):Option (((List Bool×Unit)×(List Bool×Unit)×Unit)×((List Bool×Unit)⊕(Int×Unit))):=uu2 n [false,true,false,true,true] ⟨[(3,.ptr 2 0),(4,.lptr (.bool) s4l 0 0),(12,ci s12)],[.blk 35 [.cell ⟨.list (.bool),b0_0⟩],.blk 35 [.cell ⟨.list (.bool),b1_0⟩],.blk 157 [.arr (.bool) 512 b2_0l]]⟩
def kc2 (n:Nat) (s4l:List Bool) (s12:Int) (b0_0 b1_0 b2_0l:List Bool):Option (((List Bool×Unit)×(List Bool×Unit)×Unit)×((List Bool×Unit)⊕(Int×Unit))):=uu2 n [true,true,false,false,true,false,true,true] ⟨[(3,.ptr 2 0),(4,.lptr (.bool) s4l 0 0),(12,ci s12)],[.blk 35 [.cell ⟨.list (.bool),b0_0⟩],.blk 35 [.cell ⟨.list (.bool),b1_0⟩],.blk 157 [.arr (.bool) 512 b2_0l]]⟩
theorem uo3 (n:Nat) (x0 x1):qr n x0 x1=j7 (qbb v5 x0) fun y1=>match y1.2 with| .inl z1=>(if 512<=z1.1.length then (j7 (qbb v5 x1) fun y2=>match y2.2 with| .inl z2=>(jc0 n z2.1 (0:Int) x0 x1 (List.take 512 (List.drop 0 z1.1)))| .inr e2=>(some (((x0,()),(x1,()),()),.inr (e2.1,())))) else none)| .inr e1=>(some (((x0,()),(x1,()),()),.inr (e1.1,()))):=by kernel_rfl
theorem qv4 (n:Nat) (s4l s12 b0_0 b1_0 b2_0l):jc0 (n+1) s4l s12 b0_0 b1_0 b2_0l=q7 (decide (s12<(512:Int))) (if 0<=s12/\s12<((512:Nat):Int) then (q7 (b2_0l.getD s12.toNat false) (if 0<=s12/\s12<((512:Nat):Int) then (if 0+s12.toNat<s4l.length then (if 0<=s12/\s12<((512:Nat):Int) then (kc2 n s4l s12 b0_0 b1_0 (b2_0l.set s12.toNat (s4l.getD (0+s12.toNat) false))) else none) else none) else none) (if 0<=s12/\s12<((512:Nat):Int) then (kc2 n s4l s12 b0_0 b1_0 (b2_0l.set s12.toNat false)) else none)) else none) (some (((b0_0,()),(b1_0,()),()),.inl (b2_0l,()))):=by kernel_rfl
theorem kj8 (n:Nat) (s4l s12 b0_0 b1_0 b2_0l):kc2 (n+1) s4l s12 b0_0 b1_0 b2_0l=jc0 n s4l (IntKind.i64.wrap (s12+(1:Int))) b0_0 b1_0 b2_0l:=by kernel_rfl
def qr_sp:PSpec TT:=⟨[.ptr 0 35 [.val (.list (.bool))],.ptr 0 35 [.val (.list (.bool))]],[.blk 35 [.val (.list (.bool))],.blk 35 [.val (.list (.bool))]],[.row 157 (.bool)],.ifc 26 (.val (.int .i64)),fun x=>qr v5 x.1.1 x.2.1.1⟩
theorem ul0:POk TT prog 180 qr_sp:=zf1 (C:=qr_C) (cuts:=jy3) (by kernel_rfl) wq2 func180 (show f180.body=some (j5 f180) by kernel_rfl) (by kernel_rfl) (by kernel_rfl) (by kernel_rfl) fun x y h=>⟨v5,h⟩
def qcf_C:Ctx TT:=⟨za4,[],1,[],v9,za3⟩
theorem wa4:v4 TT prog qcf_C.E:=q9
def qcf (x0:Int):Option ((Int×Unit)×Unit):=yl3 prog qcf_C f133 (j5 f133) [.ptr 0 26 [.val (.int .i64)]] (.rw 1) [.blk 26 [.val (.int .i64)]] ((x0,()),(),())
theorem kv9 (x0:Int):qcf x0=some ((x0,()),()):=by kernel_rfl
def qa8:DSpec TT:=⟨[.ptr 0 26 [.val (.int .i64)]],.rw 1,[.blk 26 [.val (.int .i64)]],fun x=>qcf x.1.1⟩
theorem vn1:DOk TT prog 133 qa8:=yc7 (C:=qcf_C) (by kernel_rfl) wa4 func133 (show f133.body=some (j5 f133) by kernel_rfl) (by kernel_rfl) (by kernel_rfl) (by kernel_rfl) (by kernel_rfl) fun x y h=>h
def qcg_C:Ctx TT:=⟨za4,[],1,[],v9,za3⟩
theorem gt8:v4 TT prog qcg_C.E:=q9
def qcg (x0 x1:Int):Option ((Int×Unit)×Unit):=yl3 prog qcg_C f133 (j5 f133) [.ptr 0 26 [.val (.int .i64)]] (.ifc 26 (.val (.int .i64))) [.blk 26 [.val (.int .i64)]] ((x0,()),x1,())
theorem gb2 (x0:Int) (x1):qcg x0 x1=some ((x1,()),()):=by kernel_rfl
def jy8:DSpec TT:=⟨[.ptr 0 26 [.val (.int .i64)]],.ifc 26 (.val (.int .i64)),[.blk 26 [.val (.int .i64)]],fun x=>qcg x.1.1 x.2.1⟩
theorem vo3:DOk TT prog 133 jy8:=yc7 (C:=qcg_C) (by kernel_rfl) gt8 func133 (show f133.body=some (j5 f133) by kernel_rfl) (by kernel_rfl) (by kernel_rfl) (by kernel_rfl) (by kernel_rfl) fun x y h=>h
def qbv_C:Ctx TT:=⟨za4,[(180,qr_sp.toCall (v6 TT))],2,[],v9,za3⟩
theorem gr0:v4 TT prog qbv_C.E:=g9 (u9 ul0 (j9 180)) (q9)
def qv2:List (Pos×Cut):= []
def wg9:DefP TT:=⟨1,4,[4,0,2,3],3,133,[(2,0)],qa8,jy8⟩
def qbv (n:Nat) (x0 x1:List Bool):Option (((List Bool×Unit)×(List Bool×Unit)×Unit)×(List Bool×Int×Unit)):=kh3 prog qbv_C qv2 f100 (j5 f100) ⟨[(0,157,.bool,true)],[],[],[],[]⟩ [.fn 180 [] [.ptr 0 35 [.val (.list (.bool))],.ptr 0 35 [.val (.list (.bool))]]] [.blk 35 [.val (.list (.bool))],.blk 35 [.val (.list (.bool))]] [.row 157 (.bool),.val (.int .i64)] wg9 n (((),((x0,()),(x1,()),())),())
theorem wp9 (n:Nat) (x0 x1):qbv n x0 x1=j7 (qr v5 x0 x1) fun y1=>match y1.2 with| .inl z1=>(j7 (qcf (0:Int)) fun y2=>some (((y1.1.1.1,()),(y1.1.2.1.1,()),()),(z1.1,y2.1.1,())))| .inr e1=>(j7 (qcg (0:Int) e1.1) fun y3=>some (((y1.1.1.1,()),(y1.1.2.1.1,()),()),(([]:List Bool),y3.1.1,()))):=by kernel_rfl
def qbv_sp:GSpec TT:=⟨[.fn 180 [] [.ptr 0 35 [.val (.list (.bool))],.ptr 0 35 [.val (.list (.bool))]]],[.blk 35 [.val (.list (.bool))],.blk 35 [.val (.list (.bool))]],[.row 157 (.bool),.val (.int .i64)],fun x=>qbv v5 x.1.2.1.1 x.1.2.2.1.1⟩
theorem gb5:GOk TT prog 100 qbv_sp:=yo8 (C:=qbv_C) (cuts:=qv2) (D:=wg9) (by kernel_rfl) gr0 func100 (show f100.body=some (j5 f100) by kernel_rfl) (by kernel_rfl) (by kernel_rfl) (by kernel_rfl) vn1 vo3 fun x y h=>⟨v5,h⟩
def qbn_C:Ctx TT:=⟨za4,[(100,qbv_sp.toCall (v6 TT))],0,[],v9,za3⟩
theorem gg7:v4 TT prog qbn_C.E:=g9 (v7 gb5 (j9 100)) (q9)
def qq3:List (Pos×Cut):= []
def qbn (n:Nat) (x0 x1:List Bool):Option (List Bool):=zf7 TT prog qbn_C qq3 f132 (j5 f132) ⟨[],[(0,.list (.bool))]⟩ [.val (.list (.bool)),.val (.list (.bool))] [.val (.list (.bool))] n (x0,x1)
theorem wv6 (n:Nat) (x0 x1):qbn n x0 x1=j7 (qbv v5 x0 x1) fun y1=>some y1.2.1:=by kernel_rfl
def qbn_sp:FnSpec TT:=⟨[.val (.list (.bool)),.val (.list (.bool))],[.val (.list (.bool))],fun x=>qbn v5 x.1 x.2⟩
theorem ku3:ze7 TT prog 132 qbn_sp:=u0 (C:=qbn_C) (by kernel_rfl) gg7 func132 (show f132.body=some (j5 f132) by kernel_rfl) (by kernel_rfl) (by kernel_rfl) (cuts:=qq3) fun x y h=>⟨v5,h⟩
def qj_C:Ctx TT:=⟨za4,[],1,[],v9,za3⟩
theorem ws9:v4 TT prog qj_C.E:=q9
def qb1:List (Pos×Cut):= [([true],⟨[0,1,2],[],false,[],0,false⟩),([false,true,false,true],⟨[0,1,2,9],[],false,[],0,false⟩),([true,true],⟨[0,1,2],[],false,[],0,false⟩),([false,true,true],⟨[0,1,2,21],[],false,[],0,false⟩)]
def qj (n:Nat) (x0:List Bool) (x1 x2:Int):Option (((List Bool×Unit)×Unit)×(((Nat×Nat)×Unit)⊕(Int×Unit))):=zz5 TT prog qj_C qb1 f97 (j5 f97) ⟨[],[],[],[],[]⟩ [.ptr 0 157 [.arr (.bool) 512],.val (.int .i64),.val (.int .i64)] [.blk 157 [.arr (.bool) 512]] [.asp 0 0 1 512] (.ifc 26 (.val (.int .i64))) n ((x0,()),x1,x2,())
noncomputable abbrev we7:=yp8 TT prog qj_C qb1 f97 (j5 f97) ⟨[],[],[],[],[]⟩ [.blk 157 [.arr (.bool) 512]] [.asp 0 0 1 512] (.ifc 26 (.val (.int .i64)))
def qc8 (n:Nat) (s1 s2:Int) (s9:Bool) (b0_0l:List Bool):Option (((List Bool×Unit)×Unit)×(((Nat×Nat)×Unit)⊕(Int×Unit))):=we7 n [false,true,false,true] ⟨[(0,.ptr 0 0),(1,ci s1),(2,ci s2),(9,cb s9)],[.blk 157 [.arr (.bool) 512 b0_0l]]⟩
def wb1 (n:Nat) (s1 s2:Int) (b0_0l:List Bool):Option (((List Bool×Unit)×Unit)×(((Nat×Nat)×Unit)⊕(Int×Unit))):=we7 n [true] ⟨[(0,.ptr 0 0),(1,ci s1),(2,ci s2)],[.blk 157 [.arr (.bool) 512 b0_0l]]⟩
def gc5 (n:Nat) (s1 s2:Int) (s21:Bool) (b0_0l:List Bool):Option (((List Bool×Unit)×Unit)×(((Nat×Nat)×Unit)⊕(Int×Unit))):=we7 n [false,true,true] ⟨[(0,.ptr 0 0),(1,ci s1),(2,ci s2),(21,cb s21)],[.blk 157 [.arr (.bool) 512 b0_0l]]⟩
def wh0 (n:Nat) (s1 s2:Int) (b0_0l:List Bool):Option (((List Bool×Unit)×Unit)×(((Nat×Nat)×Unit)⊕(Int×Unit))):=we7 n [true,true] ⟨[(0,.ptr 0 0),(1,ci s1),(2,ci s2)],[.blk 157 [.arr (.bool) 512 b0_0l]]⟩
theorem uq7 (n:Nat) (x0 x1 x2):qj n x0 x1 x2=q7 (x2==(1:Int)) (qc8 n x1 x2 (x2==(1:Int)) x0) (q7 (x2==(2:Int)) (qc8 n x1 x2 (x2==(2:Int)) x0) (q7 (x2==(4:Int)) (qc8 n x1 x2 (x2==(4:Int)) x0) (qc8 n x1 x2 (x2==(8:Int)) x0))):=by kernel_rfl
theorem kn6 (n:Nat) (s1 s2 s9 b0_0l):qc8 (n+1) s1 s2 s9 b0_0l=q7 s9 (wb1 n s1 s2 b0_0l) (some (((b0_0l,()),()),.inr ((2:Int),()))):=by kernel_rfl
theorem kt3 (n:Nat) (s1 s2 b0_0l):wb1 (n+1) s1 s2 b0_0l=q7 (decide (s1<(-512:Int))) (gc5 n s1 s2 true b0_0l) (gc5 n s1 s2 (decide (s1>(IntKind.i64.wrap (0-s2)))) b0_0l):=by kernel_rfl
theorem jm0 (n:Nat) (s1 s2 s21 b0_0l):gc5 (n+1) s1 s2 s21 b0_0l=q7 s21 (some (((b0_0l,()),()),.inr ((112:Int),()))) (wh0 n s1 s2 b0_0l):=by kernel_rfl
theorem km1 (n:Nat) (s1 s2 b0_0l):wh0 (n+1) s1 s2 b0_0l=if 0<=IntKind.i64.wrap ((512:Int)+s1)/\IntKind.i64.wrap ((512:Int)+s1)<=((512:Nat):Int)/\((512:Nat):Int)<=((512:Nat):Int) then (if 0<=(0:Int)/\(0:Int)<=s2/\(((IntKind.i64.wrap ((512:Int)+s1)).toNat:Nat):Int)+s2<=((512:Nat):Int) then (some (((b0_0l,()),()),.inl ((((IntKind.i64.wrap ((512:Int)+s1)).toNat)+0,s2.toNat-0),()))) else none) else none:=by kernel_rfl
def qj_sp:PSpec TT:=⟨[.ptr 0 157 [.arr (.bool) 512],.val (.int .i64),.val (.int .i64)],[.blk 157 [.arr (.bool) 512]],[.asp 0 0 1 512],.ifc 26 (.val (.int .i64)),fun x=>qj v5 x.1.1 x.2.1 x.2.2.1⟩
theorem ur2:POk TT prog 97 qj_sp:=zf1 (C:=qj_C) (cuts:=qb1) (by kernel_rfl) ws9 func97 (show f97.body=some (j5 f97) by kernel_rfl) (by kernel_rfl) (by kernel_rfl) (by kernel_rfl) fun x y h=>⟨v5,h⟩
def qak_C:Ctx TT:=⟨za4,[(96,qbb_sp.toCall (v6 TT)),(97,qj_sp.toCall (qi_sp.toCall (v6 TT)))],3,[],v9,za3⟩
theorem gg3:v4 TT prog qak_C.E:=g9 (u9 vj6 (j9 96)) (g9 (u9 ur2 (u9 wf9 (j9 97))) (q9))
def jm7:List (Pos×Cut):= [([false,true,false,true,true,true],⟨[4,5,15,16],[],false,[],0,false⟩)]
def qak (n:Nat) (x0:List Bool) (x1 x2:Int):Option (((List Bool×Unit)×(Int×Unit)×(Int×Unit)×Unit)×((List Bool×Unit)⊕(Int×Unit))):=zz5 TT prog qak_C jm7 f101 (j5 f101) ⟨[],[],[],[],[0]⟩ [.ptr 0 35 [.val (.list (.bool))],.ptr 0 2 [.val (.int .i64)],.ptr 0 3 [.val (.int .i64)]] [.blk 35 [.val (.list (.bool))],.blk 2 [.val (.int .i64)],.blk 3 [.val (.int .i64)]] [.row 157 (.bool)] (.ifc 26 (.val (.int .i64))) n ((x0,()),(x1,()),(x2,()),())
noncomputable abbrev uq0:=yp8 TT prog qak_C jm7 f101 (j5 f101) ⟨[],[],[],[],[0]⟩ [.blk 35 [.val (.list (.bool))],.blk 2 [.val (.int .i64)],.blk 3 [.val (.int .i64)]] [.row 157 (.bool)] (.ifc 26 (.val (.int .i64)))
def yo3 (n s5o s5n:Nat) (s15 s16:Int) (b0_0:List Bool) (b1_0 b2_0:Int) (b3_0l:List Bool):Option (((List Bool×Unit)×(Int×Unit)×(Int×Unit)×Unit)×((List Bool×Unit)⊕(Int×Unit))):=uq0 n [false,true,false,true,true,true] ⟨[(4,.ptr 3 0),(5,.asl 3 0 1 512 s5o s5n),(15,ci s15),(16,ci s16)],[.blk 35 [.cell ⟨.list (.bool),b0_0⟩],.blk 2 [ci b1_0],.blk 3 [ci b2_0],.blk 157 [.arr (.bool) 512 b3_0l]]⟩
theorem ue0 (n:Nat) (x0 x1 x2):qak n x0 x1 x2=j7 (qbb v5 x0) fun y1=>match y1.2 with| .inl z1=>(if 512<=z1.1.length then (j7 (qj v5 (List.take 512 (List.drop 0 z1.1)) x1 x2) fun y2=>match y2.2 with| .inl z2=>(yo3 n z2.1.1 z2.1.2 ((z2.1.2:Nat):Int) (0:Int) x0 x1 x2 y2.1.1.1)| .inr e2=>(some (((x0,()),(x1,()),(x2,()),()),.inr (e2.1,())))) else none)| .inr e1=>(some (((x0,()),(x1,()),(x2,()),()),.inr (e1.1,()))):=by kernel_rfl
theorem ju0 (n:Nat) (s5o s5n s15 s16 b0_0 b1_0 b2_0 b3_0l):yo3 (n+1) s5o s5n s15 s16 b0_0 b1_0 b2_0 b3_0l=q7 (decide (s16<s15)) (if 0<=s16/\s16<((s5n:Nat):Int) then (yo3 n s5o s5n s15 (IntKind.i64.wrap (s16+(1:Int))) b0_0 b1_0 b2_0 (b3_0l.set (s5o+s16.toNat) true)) else none) (some (((b0_0,()),(b1_0,()),(b2_0,()),()),.inl (b3_0l,()))):=by kernel_rfl
def qak_sp:PSpec TT:=⟨[.ptr 0 35 [.val (.list (.bool))],.ptr 0 2 [.val (.int .i64)],.ptr 0 3 [.val (.int .i64)]],[.blk 35 [.val (.list (.bool))],.blk 2 [.val (.int .i64)],.blk 3 [.val (.int .i64)]],[.row 157 (.bool)],.ifc 26 (.val (.int .i64)),fun x=>qak v5 x.1.1 x.2.1.1 x.2.2.1.1⟩
theorem wn8:POk TT prog 101 qak_sp:=zf1 (C:=qak_C) (cuts:=jm7) (by kernel_rfl) gg3 func101 (show f101.body=some (j5 f101) by kernel_rfl) (by kernel_rfl) (by kernel_rfl) (by kernel_rfl) fun x y h=>⟨v5,h⟩
def qch_C:Ctx TT:=⟨za4,[(101,qak_sp.toCall (v6 TT))],3,[],v9,za3⟩
theorem gh4:v4 TT prog qch_C.E:=g9 (u9 wn8 (j9 101)) (q9)
def qz4:List (Pos×Cut):= []
def wf6:DefP TT:=⟨1,4,[4,0,2,3],4,133,[(3,0)],qa8,jy8⟩
def qch (n:Nat) (x0:List Bool) (x1 x2:Int):Option (((List Bool×Unit)×(Int×Unit)×(Int×Unit)×Unit)×(List Bool×Int×Unit)):=kh3 prog qch_C qz4 f100 (j5 f100) ⟨[(0,157,.bool,true)],[],[],[],[]⟩ [.fn 101 [] [.ptr 0 35 [.val (.list (.bool))],.ptr 0 2 [.val (.int .i64)],.ptr 0 3 [.val (.int .i64)]]] [.blk 35 [.val (.list (.bool))],.blk 2 [.val (.int .i64)],.blk 3 [.val (.int .i64)]] [.row 157 (.bool),.val (.int .i64)] wf6 n (((),((x0,()),(x1,()),(x2,()),())),())
theorem uf3 (n:Nat) (x0 x1 x2):qch n x0 x1 x2=j7 (qak v5 x0 x1 x2) fun y1=>match y1.2 with| .inl z1=>(j7 (qcf (0:Int)) fun y2=>some (((y1.1.1.1,()),(y1.1.2.1.1,()),(y1.1.2.2.1.1,()),()),(z1.1,y2.1.1,())))| .inr e1=>(j7 (qcg (0:Int) e1.1) fun y3=>some (((y1.1.1.1,()),(y1.1.2.1.1,()),(y1.1.2.2.1.1,()),()),(([]:List Bool),y3.1.1,()))):=by kernel_rfl
def qch_sp:GSpec TT:=⟨[.fn 101 [] [.ptr 0 35 [.val (.list (.bool))],.ptr 0 2 [.val (.int .i64)],.ptr 0 3 [.val (.int .i64)]]],[.blk 35 [.val (.list (.bool))],.blk 2 [.val (.int .i64)],.blk 3 [.val (.int .i64)]],[.row 157 (.bool),.val (.int .i64)],fun x=>qch v5 x.1.2.1.1 x.1.2.2.1.1 x.1.2.2.2.1.1⟩
theorem ud1:GOk TT prog 100 qch_sp:=yo8 (C:=qch_C) (cuts:=qz4) (D:=wf6) (by kernel_rfl) gh4 func100 (show f100.body=some (j5 f100) by kernel_rfl) (by kernel_rfl) (by kernel_rfl) (by kernel_rfl) vn1 vo3 fun x y h=>⟨v5,h⟩
def qci_C:Ctx TT:=⟨za4,[(100,qch_sp.toCall (qbv_sp.toCall (v6 TT)))],0,[],v9,za3⟩
theorem gy4:v4 TT prog qci_C.E:=g9 (v7 ud1 (v7 gb5 (j9 100))) (q9)
def qw4:List (Pos×Cut):= []
def qci (n:Nat) (x0:List Bool) (x1 x2:Int):Option (List Bool×Int):=zf7 TT prog qci_C qw4 f76 (j5 f76) ⟨[],[(0,.list (.bool))]⟩ [.val (.list (.bool)),.val (.int .i64),.val (.int .i64)] [.val (.list (.bool)),.val (.int .i64)] n (x0,x1,x2)
theorem wn5 (n:Nat) (x0 x1 x2):qci n x0 x1 x2=j7 (qch v5 x0 x1 x2) fun y1=>some (y1.2.1,y1.2.2.1):=by kernel_rfl
def qci_sp:FnSpec TT:=⟨[.val (.list (.bool)),.val (.int .i64),.val (.int .i64)],[.val (.list (.bool)),.val (.int .i64)],fun x=>qci v5 x.1 x.2.1 x.2.2⟩
theorem wn6:ze7 TT prog 76 qci_sp:=u0 (C:=qci_C) (by kernel_rfl) gy4 func76 (show f76.body=some (j5 f76) by kernel_rfl) (by kernel_rfl) (by kernel_rfl) (cuts:=qw4) fun x y h=>⟨v5,h⟩
def qac_C:Ctx TT:=⟨za4,[],0,[(3,1)],v9,za3⟩
theorem gk7:v4 TT prog qac_C.E:=q9
def qm6:List (Pos×Cut):= []
def qac (n:Nat) (x0:Known):Option (Span×Bool):=zf7 TT prog qac_C qm6 f103 (j5 f103) ⟨[],[]⟩ [.val (.user 1)] [.val (.user 0),.val (.bool)] n x0
theorem wq5 (n:Nat) (x0):qac n x0=q7 (x0.Kind==(4:Int)) (some ((⟨(0:Int),(65535:Int)⟩:Span),true)) (some ((⟨x0.In_Lo,x0.In_Hi⟩:Span),x0.Kind==(1:Int))):=by kernel_rfl
def qac_sp:FnSpec TT:=⟨[.val (.user 1)],[.val (.user 0),.val (.bool)],fun x=>qac v5 x⟩
theorem kz4:ze7 TT prog 103 qac_sp:=u0 (C:=qac_C) (by kernel_rfl) gk7 func103 (show f103.body=some (j5 f103) by kernel_rfl) (by kernel_rfl) (by kernel_rfl) (cuts:=qm6) fun x y h=>⟨v5,h⟩
def qam_C:Ctx TT:=⟨za4,[],0,[],v9,za3⟩
theorem gp1:v4 TT prog qam_C.E:=q9
def qu3:List (Pos×Cut):= []
def qam (n:Nat) (x0:Int):Option (Span):=zf7 TT prog qam_C qu3 f99 (j5 f99) ⟨[],[]⟩ [.val (.int .u64)] [.val (.user 0)] n x0
theorem wk0 (n:Nat) (x0):qam n x0=some (⟨x0,x0⟩:Span):=by kernel_rfl
def qam_sp:FnSpec TT:=⟨[.val (.int .u64)],[.val (.user 0)],fun x=>qam v5 x⟩
theorem jd9:ze7 TT prog 99 qam_sp:=u0 (C:=qam_C) (by kernel_rfl) gp1 func99 (show f99.body=some (j5 f99) by kernel_rfl) (by kernel_rfl) (by kernel_rfl) (cuts:=qu3) fun x y h=>⟨v5,h⟩
def qk_C:Ctx TT:=⟨za4,[],0,[],v9,za3⟩
theorem ws2:v4 TT prog qk_C.E:=q9
def vl3:List (Pos×Cut):= []
def qk (n:Nat) (x0:Span):Option (Bool):=zf7 TT prog qk_C vl3 f106 (j5 f106) ⟨[],[]⟩ [.val (.user 0)] [.val (.bool)] n x0
theorem uq6 (n:Nat) (x0):qk n x0=some (decide (x0.Lo<=x0.Hi)):=by kernel_rfl
def qk_sp:FnSpec TT:=⟨[.val (.user 0)],[.val (.bool)],fun x=>qk v5 x⟩
theorem kd9:ze7 TT prog 106 qk_sp:=u0 (C:=qk_C) (by kernel_rfl) ws2 func106 (show f106.body=some (j5 f106) by kernel_rfl) (by kernel_rfl) (by kernel_rfl) (cuts:=vl3) fun x y h=>⟨v5,h⟩
def qw_C:Ctx TT:=⟨za4,[(99,qam_sp.toCall),(106,qk_sp.toCall)],0,[],v9,za3⟩
theorem wk2:v4 TT prog qw_C.E:=g9 (q8 jd9) (g9 (q8 kd9) (q9))
def qc2:List (Pos×Cut):= [([false,true,false,true],⟨[1],[],false,[],0,false⟩),([false,false,false,false,true,false,true],⟨[1],[],false,[],0,false⟩)]
def qw (n:Nat) (x0:Known):Option (Bool):=zf7 TT prog qw_C qc2 f102 (j5 f102) ⟨[],[]⟩ [.val (.user 1)] [.val (.bool)] n x0
noncomputable abbrev uu1:=qb9 TT prog qw_C qc2 f102 (j5 f102) ⟨[],[]⟩ [.val (.user 1)] [.val (.bool)]
def gd8 (n:Nat) (b0_0 b0_1 b0_2:Int):Option (Bool):=uu1 n [false,false,false,false,true,false,true] ⟨[(1,.ptr 0 0)],[.blk 59 [cu8 b0_0,k7 b0_1,k7 b0_2]]⟩
def gc9 (n:Nat) (b0_0 b0_1 b0_2:Int):Option (Bool):=uu1 n [false,true,false,true] ⟨[(1,.ptr 0 0)],[.blk 59 [cu8 b0_0,k7 b0_1,k7 b0_2]]⟩
theorem ul5 (n:Nat) (x0):qw n x0=q7 (x0.Kind==(4:Int)) (gd8 n x0.Kind x0.In_Lo x0.In_Hi) (q7 (x0.Kind==(0:Int)) (gd8 n x0.Kind x0.In_Lo x0.In_Hi) (q7 (x0.Kind==(1:Int)) (gc9 n x0.Kind x0.In_Lo x0.In_Hi) (q7 (x0.Kind==(2:Int)) (gc9 n x0.Kind x0.In_Lo x0.In_Hi) (q7 (x0.Kind==(3:Int)) (j7 (qam v5 x0.In_Lo) fun y1=>some ((x0.In_Lo==y1.Lo)&&(x0.In_Hi==y1.Hi))) (some false))))):=by kernel_rfl
theorem kl3 (n:Nat) (b0_0 b0_1 b0_2):gd8 (n+1) b0_0 b0_1 b0_2=some ((b0_1==(0:Int))&&(b0_2==(0:Int))):=by kernel_rfl
theorem kk7 (n:Nat) (b0_0 b0_1 b0_2):gc9 (n+1) b0_0 b0_1 b0_2=j7 (qk v5 (⟨b0_1,b0_2⟩:Span)) fun y1=>some y1:=by kernel_rfl
def qw_sp:FnSpec TT:=⟨[.val (.user 1)],[.val (.bool)],fun x=>qw v5 x⟩
theorem wf1:ze7 TT prog 102 qw_sp:=u0 (C:=qw_C) (by kernel_rfl) wk2 func102 (show f102.body=some (j5 f102) by kernel_rfl) (by kernel_rfl) (by kernel_rfl) (cuts:=qc2) fun x y h=>⟨v5,h⟩
def qcl_C:Ctx TT:=⟨za4,[],0,[],v9,za3⟩
theorem gp5:v4 TT prog qcl_C.E:=q9
def qk4:List (Pos×Cut):= []
def qcl (n:Nat) (x0 x1:Span):Option (Span):=zf7 TT prog qcl_C qk4 f179 (j5 f179) ⟨[],[]⟩ [.val (.user 0),.val (.user 0)] [.val (.user 0)] n (x0,x1)
theorem ww1 (n:Nat) (x0 x1):qcl n x0 x1=some (⟨yi9 x0.Lo x1.Lo,zl5 x0.Hi x1.Hi⟩:Span):=by kernel_rfl
def qcl_sp:FnSpec TT:=⟨[.val (.user 0),.val (.user 0)],[.val (.user 0)],fun x=>qcl v5 x.1 x.2⟩
theorem wk9:ze7 TT prog 179 qcl_sp:=u0 (C:=qcl_C) (by kernel_rfl) gp5 func179 (show f179.body=some (j5 f179) by kernel_rfl) (by kernel_rfl) (by kernel_rfl) (cuts:=qk4) fun x y h=>⟨v5,h⟩
def qp_C:Ctx TT:=⟨za4,[(103,qac_sp.toCall),(102,qw_sp.toCall),(179,qcl_sp.toCall)],0,[],v9,za3⟩
theorem wt5:v4 TT prog qp_C.E:=g9 (q8 kz4) (g9 (q8 wf1) (g9 (q8 wk9) (q9)))
def jz9:List (Pos×Cut):= [([false,false,true,true,true],⟨[2,3,4,5,6,7,8,19],[],false,[],0,false⟩),([true,true,true,true,false,false,true,true,true],⟨[2,3,4,5,7,34],[],false,[],0,false⟩),([true,true,true,true,true,true,false,false,true,true,true],⟨[2,3,4,43],[],false,[],0,false⟩)]
def qp (n:Nat) (x0 x1:Known):Option (Known):=zf7 TT prog qp_C jz9 f131 (j5 f131) ⟨[],[]⟩ [.val (.user 1),.val (.user 1)] [.val (.user 1)] n (x0,x1)
noncomputable abbrev ui2:=qb9 TT prog qp_C jz9 f131 (j5 f131) ⟨[],[]⟩ [.val (.user 1),.val (.user 1)] [.val (.user 1)]
def gc0 (n:Nat) (s6 s8 s19:Bool) (b0_0 b0_1 b0_2 b1_0 b1_1 b1_2 b2_0 b2_1 b2_2 b3_0 b3_1 b4_0 b4_1:Int):Option (Known):=ui2 n [false,false,true,true,true] ⟨[(2,.ptr 0 0),(3,.ptr 1 0),(4,.ptr 2 0),(5,.ptr 3 0),(6,cb s6),(7,.ptr 4 0),(8,cb s8),(19,cb s19)],[.blk 59 [cu8 b0_0,k7 b0_1,k7 b0_2],.blk 59 [cu8 b1_0,k7 b1_1,k7 b1_2],.blk 59 [cu8 b2_0,k7 b2_1,k7 b2_2],.blk 57 [k7 b3_0,k7 b3_1],.blk 57 [k7 b4_0,k7 b4_1]]⟩
def gf1 (n:Nat) (s34:Bool) (b0_0 b0_1 b0_2 b1_0 b1_1 b1_2 b2_0 b2_1 b2_2 b3_0 b3_1 b4_0 b4_1:Int):Option (Known):=ui2 n [true,true,true,true,false,false,true,true,true] ⟨[(2,.ptr 0 0),(3,.ptr 1 0),(4,.ptr 2 0),(5,.ptr 3 0),(7,.ptr 4 0),(34,cb s34)],[.blk 59 [cu8 b0_0,k7 b0_1,k7 b0_2],.blk 59 [cu8 b1_0,k7 b1_1,k7 b1_2],.blk 59 [cu8 b2_0,k7 b2_1,k7 b2_2],.blk 57 [k7 b3_0,k7 b3_1],.blk 57 [k7 b4_0,k7 b4_1]]⟩
def gf6 (n:Nat) (s43:Bool) (b0_0 b0_1 b0_2 b1_0 b1_1 b1_2 b2_0 b2_1 b2_2:Int):Option (Known):=ui2 n [true,true,true,true,true,true,false,false,true,true,true] ⟨[(2,.ptr 0 0),(3,.ptr 1 0),(4,.ptr 2 0),(43,cb s43)],[.blk 59 [cu8 b0_0,k7 b0_1,k7 b0_2],.blk 59 [cu8 b1_0,k7 b1_1,k7 b1_2],.blk 59 [cu8 b2_0,k7 b2_1,k7 b2_2]]⟩
theorem uq9 (n:Nat) (x0 x1):qp n x0 x1=j7 (qac v5 x0) fun y1=>j7 (qac v5 x1) fun y2=>j7 (qw v5 x0) fun y3=>q7 (!y3) (gc0 n y1.2 y2.2 true x0.Kind x0.In_Lo x0.In_Hi x1.Kind x1.In_Lo x1.In_Hi (0:Int) (0:Int) (0:Int) y1.1.Lo y1.1.Hi y2.1.Lo y2.1.Hi) (j7 (qw v5 x1) fun y4=>gc0 n y1.2 y2.2 (!y4) x0.Kind x0.In_Lo x0.In_Hi x1.Kind x1.In_Lo x1.In_Hi (0:Int) (0:Int) (0:Int) y1.1.Lo y1.1.Hi y2.1.Lo y2.1.Hi):=by kernel_rfl
theorem kh9 (n:Nat) (s6 s8 s19 b0_0 b0_1 b0_2 b1_0 b1_1 b1_2 b2_0 b2_1 b2_2 b3_0 b3_1 b4_0 b4_1):gc0 (n+1) s6 s8 s19 b0_0 b0_1 b0_2 b1_0 b1_1 b1_2 b2_0 b2_1 b2_2 b3_0 b3_1 b4_0 b4_1=q7 s19 (some (⟨(0:Int),(0:Int),(0:Int)⟩:Known)) (q7 ((b0_0==b1_0)&&((b0_1==b1_1)&&(b0_2==b1_2))) (some (⟨b0_0,b0_1,b0_2⟩:Known)) (q7 s6 (gf1 n s8 b0_0 b0_1 b0_2 b1_0 b1_1 b1_2 b2_0 b2_1 b2_2 b3_0 b3_1 b4_0 b4_1) (gf1 n false b0_0 b0_1 b0_2 b1_0 b1_1 b1_2 b2_0 b2_1 b2_2 b3_0 b3_1 b4_0 b4_1))):=by kernel_rfl
theorem kl0 (n:Nat) (s34 b0_0 b0_1 b0_2 b1_0 b1_1 b1_2 b2_0 b2_1 b2_2 b3_0 b3_1 b4_0 b4_1):gf1 (n+1) s34 b0_0 b0_1 b0_2 b1_0 b1_1 b1_2 b2_0 b2_1 b2_2 b3_0 b3_1 b4_0 b4_1=q7 s34 (j7 (qcl v5 (⟨b3_0,b3_1⟩:Span) (⟨b4_0,b4_1⟩:Span)) fun y1=>some (⟨(1:Int),y1.Lo,y1.Hi⟩:Known)) (q7 (b0_0==(2:Int)) (gf6 n (b1_0==(2:Int)) b0_0 b0_1 b0_2 b1_0 b1_1 b1_2 b2_0 b2_1 b2_2) (gf6 n false b0_0 b0_1 b0_2 b1_0 b1_1 b1_2 b2_0 b2_1 b2_2)):=by kernel_rfl
theorem kj5 (n:Nat) (s43 b0_0 b0_1 b0_2 b1_0 b1_1 b1_2 b2_0 b2_1 b2_2):gf6 (n+1) s43 b0_0 b0_1 b0_2 b1_0 b1_1 b1_2 b2_0 b2_1 b2_2=q7 s43 (j7 (qcl v5 (⟨b0_1,b0_2⟩:Span) (⟨b1_1,b1_2⟩:Span)) fun y1=>some (⟨(2:Int),y1.Lo,y1.Hi⟩:Known)) (some (⟨(0:Int),(0:Int),(0:Int)⟩:Known)):=by kernel_rfl
def qp_sp:FnSpec TT:=⟨[.val (.user 1),.val (.user 1)],[.val (.user 1)],fun x=>qp v5 x.1 x.2⟩
theorem wb2:ze7 TT prog 131 qp_sp:=u0 (C:=qp_C) (by kernel_rfl) wt5 func131 (show f131.body=some (j5 f131) by kernel_rfl) (by kernel_rfl) (by kernel_rfl) (cuts:=jz9) fun x y h=>⟨v5,h⟩
end
end Go.X
