import Derived.Test.YthhhfnfgmijggaaGreatId
namespace Go.X
open Go.RowKit Go.V Go.Proofs Tryz
noncomputable section
def qcl_C:Ctx TT:=⟨za5,[],0,[],k9,za6⟩
theorem gj2:v7 TT prog qcl_C.E:=v5
def qx8:List (Pos×Cut):= []
def qcl (n:Nat):Option (List Ins):=zg2 TT prog qcl_C qx8 f15 (j5 f15) ⟨[],[(0,.list (.user 2))]⟩ [] [.val (.list (.user 2))] n ()
theorem wm7 (n:Nat):qcl n=some ([(⟨(12:Int),false,(0:Int),(0:Int),true,(0:Int),(0:Int),(0:Int)⟩:Ins),(⟨(20:Int),false,(2:Int),(0:Int),true,(1:Int),(14:Int),(0:Int)⟩:Ins),(⟨(28:Int),false,(0:Int),(0:Int),false,(0:Int),(0:Int),(0:Int)⟩:Ins),(⟨(14:Int),false,(0:Int),(1:Int),false,(12:Int),(0:Int),(2:Int)⟩:Ins),(⟨(28:Int),false,(0:Int),(0:Int),false,(0:Int),(0:Int),(0:Int)⟩:Ins)]:List Ins):=by kernel_rfl
def qcl_sp:FnSpec TT:=⟨[],[.val (.list (.user 2))],fun _=>qcl v9⟩
theorem wz6:ze8 TT prog 15 qcl_sp:=za0 (C:=qcl_C) (by kernel_rfl) gj2 func15 (show f15.body=some (j5 f15) by kernel_rfl) (by kernel_rfl) (by kernel_rfl) (cuts:=qx8) fun x y h=>⟨v9,h⟩
def qar_C:Ctx TT:=⟨za5,[(15,qcl_sp.toCall),(8,qe_sp.toCall (k7 TT)),(12,qcc_sp.toCall)],0,[],k9,za6⟩
theorem gy6:v7 TT prog qar_C.E:=w6 (q8 wz6) (w6 (k8 we6 (j9 8)) (w6 (q8 kz9) (v5)))
def jl6:List (Pos×Cut):= [([false,true,true,true],⟨[1,3,45],[],false,[],0,false⟩)]
def qar (n:Nat):Option (Bool):=zg2 TT prog qar_C jl6 f7 (j5 f7) ⟨[],[]⟩ [] [.val (.bool)] n ()
noncomputable abbrev ux8:=jz4 TT prog qar_C jl6 f7 (j5 f7) ⟨[],[]⟩ [] [.val (.bool)]
def jf3 (n:Nat) (s45:Bool) (r0:List Place) (r1:List Ins):Option (Bool):=ux8 n [false,true,true,true] ⟨[(1,.own 0),(3,.own 1),(45,cb s45)],[.row 37 (.user 4) r0,.row 42 (.user 2) r1]⟩
theorem wq2 (n:Nat):qar n=j7 (qcl v9) fun y1=>j7 (qe v9 y1) fun y2=>j7 (qcl v9) fun y3=>if 0<=(0:Int)/\(0:Int)<=(1:Int)/\(1:Int)<=((y3.length:Nat):Int) then (if (0+(List.take 1 (List.drop 0 y3)).length)*56<=140737488355328 then (j7 (qcl v9) fun y4=>if 0<=(3:Int)/\(3:Int)<=((y4.length:Nat):Int)/\((y4.length:Nat):Int)<=((y4.length:Nat):Int) then (if ((([]:List Ins)++(List.take 1 (List.drop 0 y3))).length+(List.take ((((y4.length:Nat):Int).toNat)-3) (List.drop 3 y4)).length)*56<=140737488355328 then (q7 (y2.2.2.1.Err != (0:Int)) (jf3 n true y2.2.1 ((([]:List Ins)++(List.take 1 (List.drop 0 y3)))++(List.take ((((y4.length:Nat):Int).toNat)-3) (List.drop 3 y4)))) (q7 (((y2.2.1.length:Nat):Int) != (5:Int)) (jf3 n true y2.2.1 ((([]:List Ins)++(List.take 1 (List.drop 0 y3)))++(List.take ((((y4.length:Nat):Int).toNat)-3) (List.drop 3 y4)))) (if 0<=(3:Int)/\(3:Int)<((y2.2.1.length:Nat):Int) then (q7 (((y2.2.1.getD 3 v6).Least) != (14:Int)) (jf3 n true y2.2.1 ((([]:List Ins)++(List.take 1 (List.drop 0 y3)))++(List.take ((((y4.length:Nat):Int).toNat)-3) (List.drop 3 y4)))) (if 0<=(2:Int)/\(2:Int)<((y2.2.1.length:Nat):Int) then (q7 (((y2.2.1.getD 2 v6).Least) != (0:Int)) (jf3 n true y2.2.1 ((([]:List Ins)++(List.take 1 (List.drop 0 y3)))++(List.take ((((y4.length:Nat):Int).toNat)-3) (List.drop 3 y4)))) (if 0<=(4:Int)/\(4:Int)<((y2.2.1.length:Nat):Int) then (jf3 n (((((y2.2.1.getD 4 v6).Regs).length:Nat):Int) != (11:Int)) y2.2.1 ((([]:List Ins)++(List.take 1 (List.drop 0 y3)))++(List.take ((((y4.length:Nat):Int).toNat)-3) (List.drop 3 y4)))) else none)) else none)) else none))) else none) else none) else none) else none:=by kernel_rfl
theorem vy6 (n:Nat) (s45 r0 r1):jf3 (n+1) s45 r0 r1=q7 s45 (some false) (j7 (qcc v9 r1) fun y1=>q7 ((y1.Err==(112:Int))&&(y1.At==(1:Int))) (if 0<=(4:Int)/\(4:Int)<((r0.length:Nat):Int) then (if 0<=(0:Int)/\(0:Int)<((((r0.getD 4 v6).Regs).length:Nat):Int) then (some ((((((r0.getD 4 v6).Regs).getD 0 v8).Kind)==(1:Int))&&((((((r0.getD 4 v6).Regs).getD 0 v8).In_Lo)==(0:Int))&&(((((r0.getD 4 v6).Regs).getD 0 v8).In_Hi)==(65535:Int))))) else none) else none) (some false)):=by kernel_rfl
def qar_sp:FnSpec TT:=⟨[],[.val (.bool)],fun _=>qar v9⟩
theorem wu0:ze8 TT prog 7 qar_sp:=za0 (C:=qar_C) (by kernel_rfl) gy6 func7 (show f7.body=some (j5 f7) by kernel_rfl) (by kernel_rfl) (by kernel_rfl) (cuts:=jl6) fun x y h=>⟨v9,h⟩
def qcm_C:Ctx TT:=⟨za5,[],0,[],k9,za6⟩
theorem gs0:v7 TT prog qcm_C.E:=v5
def qn5:List (Pos×Cut):= []
def qcm (n:Nat) (x0 x1:Int):Option (Int):=zg2 TT prog qcm_C qn5 f13 (j5 f13) ⟨[],[]⟩ [.val (.int .i64),.val (.int .i64)] [.val (.int .i64)] n (x0,x1)
theorem ue1 (n:Nat) (x0 x1):qcm n x0 x1=q7 (decide (x1<(1:Int))) (some (0:Int)) (if x1=0 then none else (q7 (decide ((x0.tmod x1)<(0:Int))) (some (IntKind.i64.wrap ((x0.tmod x1)+x1))) (some (x0.tmod x1)))):=by kernel_rfl
def qcm_sp:FnSpec TT:=⟨[.val (.int .i64),.val (.int .i64)],[.val (.int .i64)],fun x=>qcm v9 x.1 x.2⟩
theorem wq8:ze8 TT prog 13 qcm_sp:=za0 (C:=qcm_C) (by kernel_rfl) gs0 func13 (show f13.body=some (j5 f13) by kernel_rfl) (by kernel_rfl) (by kernel_rfl) (cuts:=qn5) fun x y h=>⟨v9,h⟩
def qak_C:Ctx TT:=⟨za5,[(7,qar_sp.toCall),(13,qcm_sp.toCall),(12,qcc_sp.toCall)],0,[],k9,za6⟩
theorem gu1:v7 TT prog qak_C.E:=w6 (q8 wu0) (w6 (q8 wq8) (w6 (q8 kz9) (v5)))
def jn6:List (Pos×Cut):= [([true,true,true,true,true,true,true],⟨[3,4,11,12,13,14,15],[],false,[],0,false⟩),([true,true,true,true,true,true,true,true,true,true],⟨[12,13,15,17],[],false,[],0,false⟩)]
def qak (n:Nat) (x0 x1 x2:Int) (x3 x4:Bool):Option (Bool):=zg2 TT prog qak_C jn6 f5 (j5 f5) ⟨[],[]⟩ [.val (.int .i64),.val (.int .i64),.val (.int .i64),.val (.bool),.val (.bool)] [.val (.bool)] n (x0,x1,x2,x3,x4)
noncomputable abbrev wk0:=jz4 TT prog qak_C jn6 f5 (j5 f5) ⟨[],[]⟩ [.val (.int .i64),.val (.int .i64),.val (.int .i64),.val (.bool),.val (.bool)] [.val (.bool)]
def vk7 (n:Nat) (s3 s4:Bool) (s11 s12 s13 s14 s15:Int):Option (Bool):=wk0 n [true,true,true,true,true,true,true] ⟨[(3,cb s3),(4,cb s4),(11,ci s11),(12,ci s12),(13,ci s13),(14,cu8 s14),(15,ci s15)],[]⟩
def js2 (n:Nat) (s12 s13 s15:Int) (r0:List Ins):Option (Bool):=wk0 n [true,true,true,true,true,true,true,true,true,true] ⟨[(12,ci s12),(13,ci s13),(15,ci s15),(17,.own 0)],[.row 42 (.user 2) r0]⟩
theorem wr4 (n:Nat) (x0 x1 x2 x3 x4):qak n x0 x1 x2 x3 x4=j7 (qar v9) fun y1=>q7 (!y1) (some false) (j7 (qcm v9 x0 (65536:Int)) fun y2=>j7 (qcm v9 x2 (4:Int)) fun y3=>if IntKind.u64.wrap y3<0 then none else (j7 (qcm v9 x1 (32767:Int)) fun y4=>q7 x3 (vk7 n x3 x4 y2 (ya4 .i64 (1:Int) (IntKind.u64.wrap y3)) y4 (19:Int) (IntKind.i64.wrap (y2+(1:Int)))) (vk7 n x3 x4 y2 (ya4 .i64 (1:Int) (IntKind.u64.wrap y3)) y4 (20:Int) y2))):=by kernel_rfl
theorem jv9 (n:Nat) (s3 s4 s11 s12 s13 s14 s15):vk7 (n+1) s3 s4 s11 s12 s13 s14 s15=q7 s4 (q7 s3 (js2 n s12 s13 s15 ([(⟨(12:Int),false,(0:Int),(0:Int),true,(0:Int),(0:Int),(0:Int)⟩:Ins),(⟨(12:Int),false,(4:Int),(0:Int),true,(0:Int),s11,(0:Int)⟩:Ins),(⟨(21:Int),false,(4:Int),(2:Int),false,(1:Int),(0:Int),(0:Int)⟩:Ins),(⟨(28:Int),false,(0:Int),(0:Int),false,(0:Int),(0:Int),(0:Int)⟩:Ins),(⟨(14:Int),false,(0:Int),(1:Int),false,s13,(0:Int),s12⟩:Ins),(⟨(28:Int),false,(0:Int),(0:Int),false,(0:Int),(0:Int),(0:Int)⟩:Ins)]:List Ins)) (js2 n s12 s13 s15 ([(⟨(12:Int),false,(0:Int),(0:Int),true,(0:Int),(0:Int),(0:Int)⟩:Ins),(⟨(12:Int),false,(4:Int),(0:Int),true,(0:Int),s11,(0:Int)⟩:Ins),(⟨(22:Int),false,(4:Int),(2:Int),false,(1:Int),(0:Int),(0:Int)⟩:Ins),(⟨(28:Int),false,(0:Int),(0:Int),false,(0:Int),(0:Int),(0:Int)⟩:Ins),(⟨(14:Int),false,(0:Int),(1:Int),false,s13,(0:Int),s12⟩:Ins),(⟨(28:Int),false,(0:Int),(0:Int),false,(0:Int),(0:Int),(0:Int)⟩:Ins)]:List Ins))) (js2 n s12 s13 s15 ([(⟨(12:Int),false,(0:Int),(0:Int),true,(0:Int),(0:Int),(0:Int)⟩:Ins),(⟨(12:Int),false,(4:Int),(0:Int),true,(0:Int),s11,(0:Int)⟩:Ins),(⟨s14,false,(2:Int),(0:Int),true,(1:Int),s11,(0:Int)⟩:Ins),(⟨(28:Int),false,(0:Int),(0:Int),false,(0:Int),(0:Int),(0:Int)⟩:Ins),(⟨(14:Int),false,(0:Int),(1:Int),false,s13,(0:Int),s12⟩:Ins),(⟨(28:Int),false,(0:Int),(0:Int),false,(0:Int),(0:Int),(0:Int)⟩:Ins)]:List Ins)):=by kernel_rfl
theorem vx8 (n:Nat) (s12 s13 s15 r0):js2 (n+1) s12 s13 s15 r0=j7 (qcc v9 r0) fun y1=>q7 (decide (s15>(65535:Int))) (some (y1.Err==(0:Int))) (q7 (decide ((IntKind.i64.wrap (s13+s12))<=s15)) (some (y1.Err==(0:Int))) (some ((y1.Err==(112:Int))&&(y1.At==(4:Int))))):=by kernel_rfl
def ww8:FnSpec TT:=⟨[.val (.int .i64),.val (.int .i64),.val (.int .i64),.val (.bool),.val (.bool)],[.val (.bool)],fun x=>qak v9 x.1 x.2.1 x.2.2.1 x.2.2.2.1 x.2.2.2.2⟩
theorem qak_ok:ze8 TT prog 5 ww8:=za0 (C:=qak_C) (by kernel_rfl) gu1 func5 (show f5.body=some (j5 f5) by kernel_rfl) (by kernel_rfl) (by kernel_rfl) (cuts:=jn6) fun x y h=>⟨v9,h⟩
end
end Go.X
